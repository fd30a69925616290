import PyProof.Rows.All
import Wide.All
import OpenK.AllK
import Wide.FinOn
import HandS.ForMost
import HandS.Exc
import HandS.ExcOwn
import HandS.TryOnly
import HandS.WordsExc
import HandS.Wide
import HandS.WideBits
import HandS.TupAny
import HandS.More
import HandS.Deep
import HandS.IsInst
import HandS.Strs
import HandS.WordsDict
import HandS.Conv
import HandS.Rev
import HandS.Zip
import HandS.Defaults
import HandS.HeadHook1
import HandS.Flow
import HandS.ExcIs
import HandS.HotCalls
import HandS.Head0
import HandS.HeadHook2
import HandS.Finally
import KE.KEqDict
import HandS.TupLe
import HandS.SetFor
import HandS.Head1
import HandS.Head2
import HandS.HeadEnd
import PySem.Challenge.RW_oddsnet_k63_sides_walked
set_option Elab.async false
set_option linter.all false
set_option maxRecDepth 100000
/-! DL1: pure data, how the heap bears it, slots, the state. -/
namespace DL
open PySem PySem.Spec PyProof.Rows L2

/-! ### data -/
inductive D where
  | non | bl (b : Bool) | int (i : Int) | str (x : Str) | tup (ds : List D) | lst (ds : List D) | dct (kvs : List (Key × D)) | scr (ns : List Int) | xn (v : V)

/-- a plain tuple's object -/
def PlT (o : Obj) : Prop := o.cls = .type "tuple" ∧ o.dict = none
/-- at a stands a plain tuple of xs -/
def SqP (K : PySem.W.Frag) (H : Hp) (a : Addr) (xs : List V) : Prop :=
  (∃ o, H a = some (.frz o (.tup xs)) ∧ PlT o) ∨
    ∃ (o : Obj) (its : Array Value) (n : Nat), K.lookup a = some o ∧ o.cls = .type "tuple" ∧ o.dict = none ∧ o.data = .seq its n ∧ its.size ≤ sizeLine ∧ Vals xs its.toList
theorem SqP.t {K : PySem.W.Frag} {H : Hp} {a : Addr} {xs : List V} (h : SqP K H a xs) : SqT K H a xs := by
  rcases h with ⟨o, h, _⟩ | ⟨o, its, n, h1, h2, _, h3, h4, h5⟩
  · exact .inl (.inr ⟨o, h⟩)
  · exact .inr ⟨o, its, n, h1, h2, h3, h4, h5⟩
/-! the heap G bears the data d at the value v (all cells of it in G) -/
mutual
inductive Rep (K : PySem.W.Frag) (G : Hp) : V → D → Prop
  | non : Rep K G .non .non
  | bl (b : Bool) : Rep K G (.bl b) (.bl b)
  | int (i : Int) : Rep K G (.int i) (.int i)
  | str (x : Str) : Rep K G (.str x) (.str x)
  | xn (v : V) : Rep K G v (.xn v)
  | lst {a : Addr} {vs : List V} {ds : List D} : Rd G a (.lst vs) → RepAll K G vs ds → Rep K G (.ref a) (.lst ds)
  | scr {a : Addr} {ns : List Int} : SqL K G a (ns.map V.int) → Rep K G (.ref a) (.scr ns)
  | tup {a : Addr} {vs : List V} {ds : List D} : SqP K G a vs → RepAll K G vs ds → Rep K G (.ref a) (.tup ds)
  | dct {a : Addr} {vs : List (Key × V)} {ds : List (Key × D)} : Rd G a (.dK vs) → RepKV K G vs ds → Rep K G (.ref a) (.dct ds)
inductive RepAll (K : PySem.W.Frag) (G : Hp) : List V → List D → Prop
  | nil : RepAll K G [] []
  | cons {v : V} {vs : List V} {d : D} {ds : List D} : Rep K G v d → RepAll K G vs ds → RepAll K G (v :: vs) (d :: ds)
inductive RepKV (K : PySem.W.Frag) (G : Hp) : List (Key × V) → List (Key × D) → Prop
  | nil : RepKV K G [] []
  | cons {k : Key} {v : V} {vs : List (Key × V)} {d : D} {ds : List (Key × D)} : Rep K G v d → RepKV K G vs ds → RepKV K G ((k, v) :: vs) ((k, d) :: ds)
end

/-- all that may be read in G may be read in H -/
def Pl : HO → Prop
  | .frz _ _ => False
  | _ => True
structure Mono (G H : Hp) : Prop where
  rd : ∀ a u, Pl u → Rd G a u → Rd H a u
  tp : ∀ a o xs, G a = some (.frz o (.tup xs)) → H a = some (.frz o (.tup xs))
theorem Mono.refl (G : Hp) : Mono G G := ⟨fun _ _ _ h => h, fun _ _ _ h => h⟩
theorem Mono.trans {G H J : Hp} (a : Mono G H) (b : Mono H J) : Mono G J := ⟨fun c u p h => b.rd c u p (a.rd c u p h), fun c o xs h => b.tp c o xs (a.tp c o xs h)⟩
/-- .. and what is locked in G is locked in H; what stands in G stands in H, locked perhaps -/
structure Grow (G H : Hp) : Prop where
  rd : ∀ a u, Pl u → Rd G a u → Rd H a u
  fr : ∀ a o u, G a = some (.frz o u) → H a = some (.frz o u)
theorem Mono.of {G H : Hp} (s : Grow G H) : Mono G H := ⟨s.rd, fun a o xs h => s.fr a o _ h⟩
theorem Grow.refl (G : Hp) : Grow G G := ⟨fun _ _ _ h => h, fun _ _ _ h => h⟩
theorem Grow.trans {G H J : Hp} (a : Grow G H) (b : Grow H J) : Grow G J := ⟨fun c u p h => b.rd c u p (a.rd c u p h), fun c o xs h => b.fr c o xs (a.fr c o xs h)⟩
theorem Grow.there {G H : Hp} (s : Grow G H) {a : Addr} {o : HO} (h : G a = some o) : ∃ o', H a = some o' := by
  cases o with
  | frz u w => exact ⟨_, s.fr a u w h⟩
  | lst xs => rcases s.rd a (.lst xs) trivial (.inl h) with e | ⟨_, e⟩ <;> exact ⟨_, e⟩
  | tup xs => rcases s.rd a (.tup xs) trivial (.inl h) with e | ⟨_, e⟩ <;> exact ⟨_, e⟩
  | dK xs => rcases s.rd a (.dK xs) trivial (.inl h) with e | ⟨_, e⟩ <;> exact ⟨_, e⟩
  | dT xs => rcases s.rd a (.dT xs) trivial (.inl h) with e | ⟨_, e⟩ <;> exact ⟨_, e⟩
  | set S n => rcases s.rd a (.set S n) trivial (.inl h) with e | ⟨_, e⟩ <;> exact ⟨_, e⟩
  | ins C dx fs => rcases s.rd a (.ins C dx fs) trivial (.inl h) with e | ⟨_, e⟩ <;> exact ⟨_, e⟩
  | own x => rcases s.rd a (.own x) trivial (.inl h) with e | ⟨_, e⟩ <;> exact ⟨_, e⟩
  | xd fs => rcases s.rd a (.xd fs) trivial (.inl h) with e | ⟨_, e⟩ <;> exact ⟨_, e⟩
  | met f x => rcases s.rd a (.met f x) trivial (.inl h) with e | ⟨_, e⟩ <;> exact ⟨_, e⟩
  | rng x y => rcases s.rd a (.rng x y) trivial (.inl h) with e | ⟨_, e⟩ <;> exact ⟨_, e⟩
  | tbl ps => rcases s.rd a (.tbl ps) trivial (.inl h) with e | ⟨_, e⟩ <;> exact ⟨_, e⟩
  | ext φ => rcases s.rd a (.ext φ) trivial (.inl h) with e | ⟨_, e⟩ <;> exact ⟨_, e⟩
theorem Grow.free {G H : Hp} (s : Grow G H) {a : Addr} (h : H a = none) : G a = none := by
  cases q : G a with
  | none => rfl
  | some o =>
    obtain ⟨o', e⟩ := s.there q
    rw [h] at e
    cases e
theorem Grow.of {G H : Hp} (s : Same G H) : Grow G H := ⟨fun a u _ h => by
  rcases h with h | ⟨o, h⟩
  · exact .inl (s _ _ h)
  · exact .inr ⟨o, s _ _ h⟩, fun _ _ _ h => s _ _ h⟩
theorem Grow.off {G H : Hp} (s : Grow G H) {p : Addr} {o : HO} (g : G p = none) : Grow G (upd H p o) := ⟨fun a u q h => by
  have ne : a ≠ p := by
    rintro rfl
    rcases h with h | ⟨_, h⟩ <;> (rw [g] at h; cases h)
  have h' := s.rd a u q h
  unfold Rd at h' ⊢
  rw [upd_ne ne]
  exact h', fun a w u h => by rw [upd_ne (ne_of_none h g)]; exact s.fr a w u h⟩
theorem Grow.add {G H : Hp} (s : Grow G H) {p : Addr} {o : HO} (h : H p = some o) : Grow (upd G p o) H := ⟨fun a u q e => by
  by_cases z : a = p
  · subst z
    unfold Rd at e ⊢
    rw [upd_same] at e
    rw [h]
    exact e
  · unfold Rd at e
    rw [upd_ne z] at e
    exact s.rd a u q e, fun a w u e => by
  by_cases z : a = p
  · subst z; rw [upd_same] at e; rw [h]; exact e
  · rw [upd_ne z] at e; exact s.fr a w u e⟩
/-- from H to H' all may be read as it could; what is not in B stands as it stood -/
structure Sm (B H H' : Hp) : Prop where
  m : Grow H H'
  own : ∀ a o, H a = some o → B a = none → H' a = some o
theorem Sm.refl (B H : Hp) : Sm B H H := ⟨Grow.refl H, fun _ _ h _ => h⟩
theorem Sm.free {B G H : Hp} (s : Sm B G H) {a : Addr} (h : H a = none) : G a = none := s.m.free h
theorem Sm.off {B G H : Hp} (s : Sm B G H) {p : Addr} {o : HO} (g : G p = none) : Sm B G (upd H p o) := ⟨s.m.off g, fun a u e n => by rw [upd_ne (ne_of_none e g)]; exact s.own a u e n⟩
theorem Sm.trans {B H H' J : Hp} (a : Sm B H H') (b : Sm B H' J) : Sm B H J := ⟨a.m.trans b.m, fun c o h n => b.own c o (a.own c o h n) n⟩
theorem Mono.seq {K : PySem.W.Frag} {G H : Hp} (m : Mono G H) {a : Addr} {xs : List V} (h : SqL K G a xs) : SqL K H a xs := by
  rcases h with h | h
  · exact .inl (m.rd _ _ trivial h)
  · exact .inr h
theorem Mono.seqT {K : PySem.W.Frag} {G H : Hp} (m : Mono G H) {a : Addr} {xs : List V} (h : SqP K G a xs) : SqP K H a xs := by
  rcases h with ⟨o, h, p⟩ | h
  · exact .inl ⟨o, m.tp _ _ _ h, p⟩
  · exact .inr h
section
variable {K : PySem.W.Frag} {G H : Hp}
mutual
theorem Rep.mono (m : Mono G H) : ∀ {v : V} {d : D}, Rep K G v d → Rep K H v d
  | _, _, .non => .non
  | _, _, .bl b => .bl b
  | _, _, .int i => .int i
  | _, _, .str x => .str x
  | _, _, .xn x => .xn x
  | _, _, .lst h r => .lst (m.rd _ _ trivial h) (RepAll.mono m r)
  | _, _, .scr h => .scr (m.seq h)
  | _, _, .tup h r => .tup (m.seqT h) (RepAll.mono m r)
  | _, _, .dct h r => .dct (m.rd _ _ trivial h) (RepKV.mono m r)
theorem RepAll.mono (m : Mono G H) : ∀ {vs : List V} {ds : List D}, RepAll K G vs ds → RepAll K H vs ds
  | _, _, .nil => .nil
  | _, _, .cons r t => .cons (Rep.mono m r) (RepAll.mono m t)
theorem RepKV.mono (m : Mono G H) : ∀ {vs : List (Key × V)} {ds : List (Key × D)}, RepKV K G vs ds → RepKV K H vs ds
  | _, _, .nil => .nil
  | _, _, .cons r t => .cons (Rep.mono m r) (RepKV.mono m t)
end
end
section
variable {K : PySem.W.Frag} {G : Hp}
theorem RepAll.length : ∀ {vs : List V} {ds : List D}, RepAll K G vs ds → vs.length = ds.length
  | _, _, .nil => rfl
  | _, _, .cons _ t => by rw [List.length_cons, List.length_cons, RepAll.length t]
theorem RepAll.append : ∀ {vs ws : List V} {ds es : List D}, RepAll K G vs ds → RepAll K G ws es → RepAll K G (vs ++ ws) (ds ++ es)
  | _, _, _, _, .nil, s => s
  | _, _, _, _, .cons r t, s => .cons r (RepAll.append t s)
theorem RepAll.get : ∀ {vs : List V} {ds : List D} {i : Nat} {d : D}, RepAll K G vs ds → ds[i]? = some d → ∃ v, vs[i]? = some v ∧ Rep K G v d
  | _, _, _, _, .nil, e => by simp at e
  | _, _, 0, _, .cons r _, e => by simp at e; subst e; exact ⟨_, rfl, r⟩
  | _, _, i + 1, d, .cons _ t, e => by
    obtain ⟨u, h1, h2⟩ := RepAll.get (i := i) (d := d) t (by simpa using e)
    exact ⟨u, by simpa using h1, h2⟩
theorem RepAll.getV : ∀ {vs : List V} {ds : List D} {i : Nat} {v : V}, RepAll K G vs ds → vs[i]? = some v → ∃ d, ds[i]? = some d ∧ Rep K G v d
  | _, _, _, _, .nil, e => by simp at e
  | _, _, 0, _, .cons r _, e => by simp at e; subst e; exact ⟨_, rfl, r⟩
  | _, _, i + 1, d, .cons _ t, e => by
    obtain ⟨u, h1, h2⟩ := RepAll.getV (i := i) (v := d) t (by simpa using e)
    exact ⟨u, by simpa using h1, h2⟩
theorem RepAll.take : ∀ {vs : List V} {ds : List D} (n : Nat), RepAll K G vs ds → RepAll K G (vs.take n) (ds.take n)
  | _, _, 0, _ => .nil
  | _, _, _ + 1, .nil => .nil
  | _, _, n + 1, .cons r t => .cons r (RepAll.take n t)
theorem RepAll.drop : ∀ {vs : List V} {ds : List D} (n : Nat), RepAll K G vs ds → RepAll K G (vs.drop n) (ds.drop n)
  | _, _, 0, r => r
  | _, _, _ + 1, .nil => .nil
  | _, _, n + 1, .cons _ t => RepAll.drop n t
theorem RepAll.set {v : V} {d : D} (r : Rep K G v d) : ∀ {vs : List V} {ds : List D} (i : Nat), RepAll K G vs ds → RepAll K G (vs.set i v) (ds.set i d)
  | _, _, _, .nil => .nil
  | _, _, 0, .cons _ t => .cons r t
  | _, _, i + 1, .cons q t => .cons q (RepAll.set r i t)
theorem RepAll.reverse {vs : List V} {ds : List D} (h : RepAll K G vs ds) : RepAll K G vs.reverse ds.reverse := by
  induction vs generalizing ds with
  | nil => cases h; exact .nil
  | cons v vs ih =>
    cases h with
    | cons r t =>
      rw [List.reverse_cons, List.reverse_cons]
      exact (ih t).append (.cons r .nil)
theorem RepAll.eraseIdx : ∀ {vs : List V} {ds : List D} (i : Nat), RepAll K G vs ds → RepAll K G (vs.eraseIdx i) (ds.eraseIdx i)
  | _, _, _, .nil => .nil
  | _, _, 0, .cons _ t => t
  | _, _, i + 1, .cons q t => .cons q (RepAll.eraseIdx i t)
theorem RepAll.dropLast {vs : List V} {ds : List D} (h : RepAll K G vs ds) : RepAll K G vs.dropLast ds.dropLast := by
  rw [List.dropLast_eq_take, List.dropLast_eq_take, h.length]
  exact h.take _
theorem RepAll.snoc {vs : List V} {ds : List D} {v : V} {d : D} (h : RepAll K G vs ds) (r : Rep K G v d) : RepAll K G (vs ++ [v]) (ds ++ [d]) := h.append (.cons r .nil)
theorem RepAll.insert {v : V} {d : D} (r : Rep K G v d) {vs : List V} {ds : List D} (i : Nat) (h : RepAll K G vs ds) : RepAll K G (vs.take i ++ v :: vs.drop i) (ds.take i ++ d :: ds.drop i) :=
  (h.take i).append (.cons r (h.drop i))
theorem RepAll.flatRep {vs : List V} {ds : List D} (h : RepAll K G vs ds) : ∀ k : Nat, RepAll K G (List.replicate k vs).flatten (List.replicate k ds).flatten
  | 0 => .nil
  | k + 1 => by
    rw [List.replicate_succ, List.flatten_cons, List.replicate_succ, List.flatten_cons]
    exact h.append (h.flatRep k)
theorem RepAll.ints : ∀ {vs : List V} {ns : List Int}, RepAll K G vs (ns.map D.int) → vs = ns.map V.int
  | _, [], .nil => rfl
  | _, n :: ns, .cons r t => by
    cases r
    rw [List.map_cons, RepAll.ints t]
theorem RepAll.strs : ∀ {vs : List V} {ns : List Str}, RepAll K G vs (ns.map D.str) → vs = ns.map V.str
  | _, [], .nil => rfl
  | _, n :: ns, .cons r t => by
    cases r
    rw [List.map_cons, RepAll.strs t]
theorem RepAll.of_ints : ∀ ns : List Int, RepAll K G (ns.map V.int) (ns.map D.int)
  | [] => .nil
  | n :: ns => .cons (.int n) (RepAll.of_ints ns)
theorem RepAll.of_strs : ∀ ns : List Str, RepAll K G (ns.map V.str) (ns.map D.str)
  | [] => .nil
  | n :: ns => .cons (.str n) (RepAll.of_strs ns)

/-! ### dicts -/
def valD (ds : List (Key × D)) (k : Key) : Option D := (ds.find? fun kv => decide (kv.1 = k)).map (·.2)
def putD (ds : List (Key × D)) (k : Key) (v : D) : List (Key × D) :=
  if ds.any (fun kv => decide (kv.1 = k)) then ds.map fun kv => if kv.1 = k then (kv.1, v) else kv else ds ++ [(k, v)]
def dropD (ds : List (Key × D)) (k : Key) : List (Key × D) := ds.filter fun kv => decide (kv.1 ≠ k)
theorem RepKV.length : ∀ {vs : List (Key × V)} {ds : List (Key × D)}, RepKV K G vs ds → vs.length = ds.length
  | _, _, .nil => rfl
  | _, _, .cons _ t => by rw [List.length_cons, List.length_cons, RepKV.length t]
theorem RepKV.append : ∀ {vs ws : List (Key × V)} {ds es : List (Key × D)}, RepKV K G vs ds → RepKV K G ws es → RepKV K G (vs ++ ws) (ds ++ es)
  | _, _, _, _, .nil, s => s
  | _, _, _, _, .cons r t, s => .cons r (RepKV.append t s)
theorem RepKV.any : ∀ {vs : List (Key × V)} {ds : List (Key × D)} (_ : RepKV K G vs ds) (p : Key → Bool), (vs.any fun kv => p kv.1) = ds.any fun kv => p kv.1
  | _, _, .nil, p => rfl
  | _, _, .cons _ t, p => by rw [List.any_cons, List.any_cons, RepKV.any t p]
theorem RepKV.keys : ∀ {vs : List (Key × V)} {ds : List (Key × D)} (_ : RepKV K G vs ds), vs.map (·.1) = ds.map (·.1)
  | _, _, .nil => rfl
  | _, _, .cons _ t => by rw [List.map_cons, List.map_cons, RepKV.keys t]
theorem RepKV.vals : ∀ {vs : List (Key × V)} {ds : List (Key × D)} (_ : RepKV K G vs ds), RepAll K G (vs.map (·.2)) (ds.map (·.2))
  | _, _, .nil => .nil
  | _, _, .cons r t => .cons r (RepKV.vals t)
theorem RepKV.repl {v : V} {d : D} (r : Rep K G v d) (k : Key) : ∀ {vs : List (Key × V)} {ds : List (Key × D)} (_ : RepKV K G vs ds),
    RepKV K G (vs.map fun kv => if kv.1 = k then (kv.1, v) else kv) (ds.map fun kv => if kv.1 = k then (kv.1, d) else kv)
  | _, _, .nil => .nil
  | _, _, @RepKV.cons _ _ j _ _ _ _ q t => by
    rw [List.map_cons, List.map_cons]
    by_cases e : j = k
    · rw [if_pos e, if_pos e]
      exact .cons r (RepKV.repl r k t)
    · rw [if_neg e, if_neg e]
      exact .cons q (RepKV.repl r k t)
theorem RepKV.put {v : V} {d : D} (r : Rep K G v d) (k : Key) {vs : List (Key × V)} {ds : List (Key × D)} (h : RepKV K G vs ds) : RepKV K G (putK vs k v) (putD ds k d) := by
  unfold putK putD
  rw [RepKV.any h (fun j => decide (j = k))]
  by_cases e : (ds.any fun kv => decide (kv.1 = k)) = true
  · rw [if_pos e, if_pos e]
    exact h.repl r k
  · rw [if_neg e, if_neg e]
    exact h.append (.cons r .nil)
theorem RepKV.drop (k : Key) : ∀ {vs : List (Key × V)} {ds : List (Key × D)} (_ : RepKV K G vs ds), RepKV K G (dropK vs k) (dropD ds k)
  | _, _, .nil => .nil
  | _, _, @RepKV.cons _ _ j _ _ _ _ q t => by
    unfold dropK dropD
    rw [List.filter_cons, List.filter_cons]
    by_cases e : j = k
    · rw [if_neg (by simp [e]), if_neg (by simp [e])]
      exact RepKV.drop k t
    · rw [if_pos (by simp [e]), if_pos (by simp [e])]
      exact .cons q (RepKV.drop k t)
inductive RepO (K : PySem.W.Frag) (G : Hp) : Option V → Option D → Prop
  | none : RepO K G none none
  | some {v : V} {d : D} : Rep K G v d → RepO K G (some v) (some d)
theorem RepKV.val (k : Key) : ∀ {vs : List (Key × V)} {ds : List (Key × D)} (_ : RepKV K G vs ds), RepO K G (valV vs k) (valD ds k)
  | _, _, .nil => .none
  | _, _, @RepKV.cons _ _ j _ _ _ _ q t => by
    unfold valV valD
    rw [List.find?_cons, List.find?_cons]
    by_cases e : j = k
    · simp only [e, decide_true, Option.map_some]
      exact .some q
    · simp only [e, decide_false]
      exact RepKV.val k t
theorem RepKV.get : ∀ {vs : List (Key × V)} {ds : List (Key × D)} {i : Nat} {k : Key} {v : V}, RepKV K G vs ds → vs[i]? = some (k, v) → ∃ d, ds[i]? = some (k, d) ∧ Rep K G v d
  | _, _, _, _, _, .nil, e => by simp at e
  | _, _, 0, _, _, .cons r _, e => by
    simp at e
    obtain ⟨e1, e2⟩ := e
    subst e1 e2
    exact ⟨_, rfl, r⟩
  | _, _, i + 1, k, v, .cons _ t, e => by
    obtain ⟨u, h1, h2⟩ := RepKV.get (i := i) (k := k) (v := v) t (by simpa using e)
    exact ⟨u, by simpa using h1, h2⟩
end

/-! ### slots, results -/
inductive Sl where
  | un | sh (d : D) | ow (d : D)
abbrev DEnv := List Sl
/-- an own cell of G, H at p bears d -/
def Cell (K : PySem.W.Frag) (G H : Hp) (p : Addr) : D → Prop
  | .lst ds => ∃ vs, H p = some (.lst vs) ∧ RepAll K G vs ds
  | .dct ds => ∃ vs, H p = some (.dK vs) ∧ RepKV K G vs ds
  | _ => False
theorem Cell.mono {K : PySem.W.Frag} {G G' H H' : Hp} {p : Addr} {d : D} (c : Cell K G H p d) (m : Mono G G') (h : H' p = H p) : Cell K G' H' p d := by
  cases d with
  | lst ds => obtain ⟨vs, e, r⟩ := c; exact ⟨vs, by rw [h]; exact e, r.mono m⟩
  | dct ds => obtain ⟨vs, e, r⟩ := c; exact ⟨vs, by rw [h]; exact e, r.mono m⟩
  | _ => exact c.elim
theorem Cell.there {K : PySem.W.Frag} {G H : Hp} {p : Addr} {d : D} (c : Cell K G H p d) : ∃ o, H p = some o := by
  cases d with
  | lst ds => obtain ⟨vs, e, r⟩ := c; exact ⟨_, e⟩
  | dct ds => obtain ⟨vs, e, r⟩ := c; exact ⟨_, e⟩
  | _ => exact c.elim
theorem Cell.rep {K : PySem.W.Frag} {G H : Hp} {p : Addr} {d : D} (c : Cell K G H p d) (m : Mono G H) : Rep K H (.ref p) d := by
  cases d with
  | lst ds => obtain ⟨vs, e, r⟩ := c; exact .lst (.inl e) (r.mono m)
  | dct ds => obtain ⟨vs, e, r⟩ := c; exact .dct (.inl e) (r.mono m)
  | _ => exact c.elim
def SlOk (K : PySem.W.Frag) (H0 G H : Hp) (o : Option V) : Sl → Prop
  | .un => True
  | .sh d => ∃ v, o = some v ∧ Rep K G v d
  | .ow d => ∃ p, o = some (.ref p) ∧ G p = none ∧ H0 p = none ∧ Cell K G H p d
structure StD (K : PySem.W.Frag) (H0 B G : Hp) (ρ : DEnv) (σ : L2.St) (H : Hp) : Prop where
  gh : Grow G H
  h0 : Sm B H0 H
  bg : Grow B G
  nb : ∀ a o, G a = some o → B a = none → H0 a = none
  len : ρ.length = σ.length
  sl : ∀ (i : Nat) (s : Sl), ρ[i]? = some s → SlOk K H0 G H (σ[i]?.join) s
  dj : ∀ (i j : Nat) (d e : D) (p : Addr), ρ[i]? = some (.ow d) → ρ[j]? = some (.ow e) → σ[i]? = some (some (.ref p)) → σ[j]? = some (some (.ref p)) → i = j

/-- what an expression gives: data that stays, a new own cell, the object of an own slot -/
inductive R where
  | sh (d : D) | ow (d : D) | al (i : Nat)
def VR (K : PySem.W.Frag) (H0 G : Hp) (ρ : DEnv) (σ : L2.St) (H : Hp) (v : V) : R → Prop
  | .sh d => Rep K G v d
  | .ow d => ∃ p, v = .ref p ∧ G p = none ∧ H0 p = none ∧ (∀ (i : Nat) (e : D), ρ[i]? = some (.ow e) → σ[i]? ≠ some (some (.ref p))) ∧ Cell K G H p d
  | .al i => σ[i]? = some (some v)

theorem join_some {α : Type} {o : Option (Option α)} {v : α} (h : o.join = some v) : o = some (some v) := by
  cases o with
  | none => cases h
  | some x => cases x with
    | none => cases h
    | some y => cases h; rfl

section
variable {K : PySem.W.Frag} {H0 B G H : Hp} {ρ : DEnv} {σ : L2.St} {v : V}
theorem StD.ow (I : StD K H0 B G ρ σ H) {i : Nat} {d : D} (h : ρ[i]? = some (.ow d)) : ∃ p, σ[i]? = some (some (.ref p)) ∧ G p = none ∧ H0 p = none ∧ Cell K G H p d := by
  obtain ⟨p, e, r⟩ := I.sl i _ h
  exact ⟨p, join_some e, r⟩
theorem StD.sh (I : StD K H0 B G ρ σ H) {i : Nat} {d : D} (h : ρ[i]? = some (.sh d)) : ∃ v, σ[i]? = some (some v) ∧ Rep K G v d := by
  obtain ⟨p, e, r⟩ := I.sl i _ h
  exact ⟨p, join_some e, r⟩
theorem StD.m (I : StD K H0 B G ρ σ H) : Mono G H := Mono.of I.gh

/-- read without owning: the data of a result -/
def pk (ρ : DEnv) : R → Option D
  | .sh d => some d
  | .ow d => some d
  | .al i => match ρ[i]? with
    | some (.ow d) => some d
    | some (.sh d) => some d
    | _ => none
/-- the top cell stands in H, what is in it in G -/
inductive RepT (K : PySem.W.Frag) (G H : Hp) : V → D → Prop
  | non : RepT K G H .non .non
  | bl (b : Bool) : RepT K G H (.bl b) (.bl b)
  | int (i : Int) : RepT K G H (.int i) (.int i)
  | str (x : Str) : RepT K G H (.str x) (.str x)
  | xn (v : V) : RepT K G H v (.xn v)
  | lst {a : Addr} {vs : List V} {ds : List D} : Rd H a (.lst vs) → RepAll K G vs ds → RepT K G H (.ref a) (.lst ds)
  | scr {a : Addr} {ns : List Int} : SqL K H a (ns.map V.int) → RepT K G H (.ref a) (.scr ns)
  | tup {a : Addr} {vs : List V} {ds : List D} : SqP K G a vs → RepAll K G vs ds → RepT K G H (.ref a) (.tup ds)
  | dct {a : Addr} {vs : List (Key × V)} {ds : List (Key × D)} : Rd H a (.dK vs) → RepKV K G vs ds → RepT K G H (.ref a) (.dct ds)
theorem Rep.top {d : D} (r : Rep K G v d) (m : Mono G H) : RepT K G H v d := by
  cases r with
  | non => exact .non
  | bl b => exact .bl b
  | int i => exact .int i
  | str x => exact .str x
  | xn => exact .xn _
  | lst h r => exact .lst (m.rd _ _ trivial h) r
  | scr h => exact .scr (m.seq h)
  | tup h r => exact .tup h r
  | dct h r => exact .dct (m.rd _ _ trivial h) r
theorem RepT.rep {d : D} (r : RepT K G H v d) (m : Mono G H) : Rep K H v d := by
  cases r with
  | non => exact .non
  | bl b => exact .bl b
  | int i => exact .int i
  | str x => exact .str x
  | xn => exact .xn _
  | lst h r => exact .lst h (r.mono m)
  | scr h => exact .scr h
  | tup h r => exact .tup (m.seqT h) (r.mono m)
  | dct h r => exact .dct h (r.mono m)
theorem Cell.top {p : Addr} {d : D} (c : Cell K G H p d) : RepT K G H (.ref p) d := by
  cases d with
  | lst ds => obtain ⟨vs, e, r⟩ := c; exact .lst (.inl e) r
  | dct ds => obtain ⟨vs, e, r⟩ := c; exact .dct (.inl e) r
  | _ => exact c.elim
theorem VR.pk {r : R} {d : D} (I : StD K H0 B G ρ σ H) (h : VR K H0 G ρ σ H v r) (e : pk ρ r = some d) : RepT K G H v d := by
  cases r with
  | sh d' => cases e; exact h.top I.m
  | ow d' =>
    cases e
    obtain ⟨p, rfl, _, _, _, c⟩ := h
    exact c.top
  | al i =>
    have h' : σ[i]? = some (some v) := h
    dsimp only [DL.pk] at e
    cases q : ρ[i]? with
    | none => rw [q] at e; cases e
    | some s =>
      rw [q] at e
      cases s with
      | un => cases e
      | sh d' =>
        cases e
        obtain ⟨w, e1, r⟩ := I.sh q
        rw [h'] at e1
        cases e1
        exact r.top I.m
      | ow d' =>
        cases e
        obtain ⟨p, e1, _, _, c⟩ := I.ow q
        rw [h'] at e1
        cases e1
        exact c.top

/-- give an own cell away: it stays as it is from now on -/
def fz (ρ : DEnv) : R → Option (D × DEnv)
  | .sh d => some (d, ρ)
  | .ow d => some (d, ρ)
  | .al i => match ρ[i]? with
    | some (.ow d) => some (d, ρ.set i (.sh d))
    | some (.sh d) => some (d, ρ)
    | _ => none
theorem set_get {α : Type} {l : List α} {i j : Nat} {x s : α} (h : (l.set i x)[j]? = some s) : (j = i ∧ s = x) ∨ (j ≠ i ∧ l[j]? = some s) := by
  by_cases e : j = i
  · subst e
    have hl : j < l.length := by
      have := (List.getElem?_eq_some_iff.mp h).1
      simpa using this
    rw [List.getElem?_set_self hl] at h
    exact .inl ⟨rfl, (Option.some.inj h).symm⟩
  · rw [List.getElem?_set_ne (Ne.symm e)] at h
    exact .inr ⟨e, h⟩
/-- the cell at p is laid into G -/
theorem StD.freezeCell (I : StD K H0 B G ρ σ H) {p : Addr} {o : HO} (hp : H p = some o) (g : G p = none) (h0 : H0 p = none)
    (nx : ∀ (i : Nat) (e : D), ρ[i]? = some (.ow e) → σ[i]? ≠ some (some (.ref p))) : StD K H0 B (upd G p o) ρ σ H ∧ Grow G (upd G p o) := by
  have sg : Grow G (upd G p o) := (Grow.refl G).off g
  refine ⟨⟨I.gh.add hp, I.h0, I.bg.trans sg, fun a u e b => ?_, I.len, fun i s e => ?_, I.dj⟩, sg⟩
  · by_cases q : a = p
    · subst q; exact h0
    · rw [upd_ne q] at e; exact I.nb _ _ e b
  · have x := I.sl i s e
    cases s with
    | un => trivial
    | sh d => obtain ⟨w, e1, r⟩ := x; exact ⟨w, e1, r.mono (Mono.of sg)⟩
    | ow d =>
      obtain ⟨q, e1, g1, h1, c⟩ := x
      have nq : q ≠ p := fun z => nx i d e (by rw [← z]; exact join_some e1)
      exact ⟨q, e1, by rw [upd_ne nq]; exact g1, h1, c.mono (Mono.of sg) rfl⟩
theorem StD.reslot (I : StD K H0 B G ρ σ H) {i : Nat} {s : Sl} (h : SlOk K H0 G H (σ[i]?.join) s) (hn : ∀ d, s ≠ .ow d) : StD K H0 B G (ρ.set i s) σ H := by
  refine ⟨I.gh, I.h0, I.bg, I.nb, by rw [List.length_set]; exact I.len, fun j u e => ?_, fun j k d e p a b => ?_⟩
  · rcases set_get e with ⟨rfl, rfl⟩ | ⟨_, e⟩
    · exact h
    · exact I.sl j u e
  · rcases set_get a with ⟨rfl, z⟩ | ⟨_, a⟩
    · exact absurd z.symm (hn d)
    · rcases set_get b with ⟨rfl, z⟩ | ⟨_, b⟩
      · exact absurd z.symm (hn e)
      · exact I.dj j k d e p a b
theorem VR.fz {r : R} {d : D} {ρ' : DEnv} (I : StD K H0 B G ρ σ H) (h : VR K H0 G ρ σ H v r) (e : fz ρ r = some (d, ρ')) :
    ∃ G', Grow G G' ∧ StD K H0 B G' ρ' σ H ∧ Rep K G' v d := by
  cases r with
  | sh d' => cases e; exact ⟨G, Grow.refl G, I, h⟩
  | ow d' =>
    cases e
    obtain ⟨p, rfl, g, h0, nx, c⟩ := h
    obtain ⟨o, ho⟩ := c.there
    obtain ⟨I', sg⟩ := I.freezeCell ho g h0 nx
    exact ⟨_, sg, I', (c.mono (H' := upd G p o) (Mono.of sg) (by rw [upd_same, ho])).rep (Mono.refl _)⟩
  | al i =>
    have h' : σ[i]? = some (some v) := h
    dsimp only [DL.fz] at e
    cases q : ρ[i]? with
    | none => rw [q] at e; cases e
    | some s =>
      rw [q] at e
      cases s with
      | un => cases e
      | sh d' =>
        cases e
        obtain ⟨w, e1, r⟩ := I.sh q
        rw [h'] at e1
        cases e1
        exact ⟨G, Grow.refl G, I, r⟩
      | ow d' =>
        cases e
        obtain ⟨p, e1, g, h0, c⟩ := I.ow q
        rw [h'] at e1
        cases e1
        obtain ⟨o, ho⟩ := c.there
        -- first the slot is forgotten, then the cell laid, then the slot told again
        have I1 : StD K H0 B G (ρ.set i .un) σ H := I.reslot (s := .un) True.intro (fun _ z => nomatch z)
        have nx : ∀ (j : Nat) (e : D), (ρ.set i Sl.un)[j]? = some (.ow e) → σ[j]? ≠ some (some (.ref p)) := fun j e a b => by
          rcases set_get a with ⟨_, z⟩ | ⟨nj, a⟩
          · cases z
          · exact nj (I.dj j i e d p a q b h')
        obtain ⟨I2, sg⟩ := I1.freezeCell ho g h0 nx
        have rp : Rep K (upd G p o) (.ref p) d := (c.mono (H' := upd G p o) (Mono.of sg) (by rw [upd_same, ho])).rep (Mono.refl _)
        have I3 := I2.reslot (i := i) (s := .sh d) ⟨_, by rw [h']; rfl, rp⟩ (fun _ z => nomatch z)
        rw [List.set_set] at I3
        exact ⟨_, sg, I3, rp⟩
end
end DL

/-! DL2: readings over data; names, constants, operators, calls of built-ins. -/
namespace DL
open PySem PySem.Spec PyProof.Rows L2

/-! ### outcomes -/
inductive ER where
  | ok (r : R) (ρ : DEnv) | xc (c : Str) (ρ : DEnv) | bad
abbrev EM := DEnv → ER
def ER.bind (x : ER) (k : R → DEnv → ER) : ER := match x with
  | .ok r ρ => k r ρ
  | .xc c ρ => .xc c ρ
  | .bad => .bad
inductive TR where
  | ok (b : Bool) (ρ : DEnv) | xc (c : Str) (ρ : DEnv) | bad
abbrev TM := DEnv → TR
def TR.bind (x : TR) (k : Bool → DEnv → TR) : TR := match x with
  | .ok r ρ => k r ρ
  | .xc c ρ => .xc c ρ
  | .bad => .bad
inductive AR where
  | ok (rs : List R) (ρ : DEnv) | xc (c : Str) (ρ : DEnv) | bad
abbrev AM := DEnv → AR
def AR.toE (x : AR) (k : List R → DEnv → ER) : ER := match x with
  | .ok r ρ => k r ρ
  | .xc c ρ => .xc c ρ
  | .bad => .bad
def ER.toA (x : ER) (k : R → DEnv → AR) : AR := match x with
  | .ok r ρ => k r ρ
  | .xc c ρ => .xc c ρ
  | .bad => .bad
def AR.bind (x : AR) (k : List R → DEnv → AR) : AR := match x with
  | .ok r ρ => k r ρ
  | .xc c ρ => .xc c ρ
  | .bad => .bad
def ER.toT (x : ER) (k : R → DEnv → TR) : TR := match x with
  | .ok r ρ => k r ρ
  | .xc c ρ => .xc c ρ
  | .bad => .bad

/-- a value kept while others are reckoned: an own cell is laid fast, an alias stays one -/
def settle : R → R
  | .ow d => .sh d
  | r => r
/-- .. such a value -/
def VS (K : PySem.W.Frag) (G : Hp) (σ : L2.St) (v : V) : R → Prop
  | .sh d => Rep K G v d
  | .al i => σ[i]? = some (some v)
  | .ow _ => False
abbrev VSs (K : PySem.W.Frag) (G : Hp) (σ : L2.St) : List V → List R → Prop := Paired (VS K G σ)

section
variable (K : PySem.W.Frag) (mg : Str → Option Value)
def EPost (H0 B G : Hp) (W : WX) (σ : L2.St) (Q : VK) : ER → Prop
  | .ok r ρ' => ∀ v G' H', Grow G G' → StD K H0 B G' ρ' σ H' → VR K H0 G' ρ' σ H' v r → Q v H'
  | .xc c ρ' => ∀ cls G' H', Grow G G' → StD K H0 B G' ρ' σ H' → mg c = some cls → W cls none σ H'
  | .bad => False
def TPost (H0 B G : Hp) (W : WX) (σ : L2.St) (Q : Bool → Hp → Prop) : TR → Prop
  | .ok b ρ' => ∀ G' H', Grow G G' → StD K H0 B G' ρ' σ H' → Q b H'
  | .xc c ρ' => ∀ cls G' H', Grow G G' → StD K H0 B G' ρ' σ H' → mg c = some cls → W cls none σ H'
  | .bad => False
def APost (H0 B G : Hp) (W : WX) (σ : L2.St) (Q : List V → Hp → Prop) : AR → Prop
  | .ok rs ρ' => ∀ vs G' H', Grow G G' → StD K H0 B G' ρ' σ H' → VSs K G' σ vs rs → Q vs H'
  | .xc c ρ' => ∀ cls G' H', Grow G G' → StD K H0 B G' ρ' σ H' → mg c = some cls → W cls none σ H'
  | .bad => False
def cE (W : WX) (f : EM) : TE := fun σ H Q => ∃ H0 B G ρ, StD K H0 B G ρ σ H ∧ EPost K mg H0 B G W σ Q (f ρ)
def cT (W : WX) (f : TM) : TT := fun σ H Q => ∃ H0 B G ρ, StD K H0 B G ρ σ H ∧ TPost K mg H0 B G W σ Q (f ρ)
def cA (W : WX) (f : AM) : TA := fun σ H Q => ∃ H0 B G ρ, StD K H0 B G ρ σ H ∧ APost K mg H0 B G W σ Q (f ρ)
end
abbrev DE (X : Cx) (W : WX) (e : Expr) (f : EM) : Prop := PE X e (cE X.K X.mg W f)
abbrev DT (X : Cx) (W : WX) (e : Expr) (f : TM) : Prop := PT X e (cT X.K X.mg W f)
abbrev DW (X : Cx) (W : WX) (e : Expr) (f : TM) : Prop := PW X e (cT X.K X.mg W f)
abbrev DA (X : Cx) (W : WX) (es : List Expr) (f : AM) : Prop := PA X es (cA X.K X.mg W f)
theorem iE {X : Cx} {e : Expr} {t t' : TE} (h : PE X e t) (i : ∀ σ H Q, t' σ H Q → t σ H Q) : PE X e t' := ⟨fun pins s σ H Q I q => h.run pins s σ H Q I (i _ _ _ q)⟩
theorem iT {X : Cx} {e : Expr} {t t' : TT} (h : PT X e t) (i : ∀ σ H Q, t' σ H Q → t σ H Q) : PT X e t' := ⟨fun pins s σ H Q I q => h.run pins s σ H Q I (i _ _ _ q)⟩
theorem iW {X : Cx} {e : Expr} {t t' : TT} (h : PW X e t) (i : ∀ σ H Q, t' σ H Q → t σ H Q) : PW X e t' := ⟨fun wh pins s σ H Q I q => h.run wh pins s σ H Q I (i _ _ _ q)⟩
theorem iA {X : Cx} {e : List Expr} {t t' : TA} (h : PA X e t) (i : ∀ σ H Q, t' σ H Q → t σ H Q) : PA X e t' := ⟨fun pos pins s σ H Q I q => h.run pos pins s σ H Q I (i _ _ _ q)⟩
theorem iS {X : Cx} {e : Stmt} {t t' : TS} (h : PS X e t) (i : ∀ D σ H, t' D σ H → t D σ H) : PS X e t' := ⟨fun pins s σ H D I q => h.run pins s σ H D I (i _ _ _ q)⟩
theorem iSs {X : Cx} {e : List Stmt} {t t' : TS} (h : PSs X e t) (i : ∀ D σ H, t' D σ H → t D σ H) : PSs X e t' := ⟨fun pins s σ H D I q => h.run pins s σ H D I (i _ _ _ q)⟩

section
variable {K : PySem.W.Frag} {mg : Str → Option Value} {H0 B G G' H : Hp} {ρ : DEnv} {W : WX} {σ : L2.St} {Q : VK}
theorem EPost.mono {x : ER} (h : EPost K mg H0 B G W σ Q x) (s : Grow G G') : EPost K mg H0 B G' W σ Q x := by
  cases x with
  | ok r ρ' => exact fun v G2 H2 s2 => h v G2 H2 (s.trans s2)
  | xc c ρ' => exact fun cls G2 H2 s2 => h cls G2 H2 (s.trans s2)
  | bad => exact h
theorem TPost.mono {Q : Bool → Hp → Prop} {x : TR} (h : TPost K mg H0 B G W σ Q x) (s : Grow G G') : TPost K mg H0 B G' W σ Q x := by
  cases x with
  | ok r ρ' => exact fun G2 H2 s2 => h G2 H2 (s.trans s2)
  | xc c ρ' => exact fun cls G2 H2 s2 => h cls G2 H2 (s.trans s2)
  | bad => exact h
theorem APost.mono {Q : List V → Hp → Prop} {x : AR} (h : APost K mg H0 B G W σ Q x) (s : Grow G G') : APost K mg H0 B G' W σ Q x := by
  cases x with
  | ok r ρ' => exact fun v G2 H2 s2 => h v G2 H2 (s.trans s2)
  | xc c ρ' => exact fun cls G2 H2 s2 => h cls G2 H2 (s.trans s2)
  | bad => exact h

theorem VR.settle {v : V} {r : R} (I : StD K H0 B G ρ σ H) (h : VR K H0 G ρ σ H v r) : ∃ G', Grow G G' ∧ StD K H0 B G' ρ σ H ∧ VS K G' σ v (settle r) := by
  cases r with
  | sh d => exact ⟨G, Grow.refl G, I, h⟩
  | al i => exact ⟨G, Grow.refl G, I, h⟩
  | ow d =>
    obtain ⟨p, rfl, g, h0, nx, c⟩ := h
    obtain ⟨o, ho⟩ := c.there
    obtain ⟨I', sg⟩ := I.freezeCell ho g h0 nx
    exact ⟨_, sg, I', (c.mono (H' := upd G p o) (Mono.of sg) (by rw [upd_same, ho])).rep (Mono.refl _)⟩
theorem VS.stay {v : V} {r : R} (h : VS K G σ v r) (s : Grow G G') : VS K G' σ v r := by
  cases r with
  | sh d => exact Rep.mono (Mono.of s) h
  | al i => exact h
  | ow d => exact h
theorem VS.vr {v : V} {r : R} (h : VS K G σ v r) : VR K H0 G ρ σ H v r := by
  cases r with
  | sh d => exact h
  | al i => exact h
  | ow d => exact False.elim h
theorem VSs.stay : ∀ {vs : List V} {rs : List R}, VSs K G σ vs rs → Grow G G' → VSs K G' σ vs rs
  | _, _, .nil, _ => .nil
  | _, _, .cons h t, s => .cons (VS.stay h s) (VSs.stay t s)

theorem cE.ok {f : EM} (I : StD K H0 B G ρ σ H) {k : R → DEnv → ER} (h : EPost K mg H0 B G W σ Q ((f ρ).bind k)) {R1 : VK}
    (go : ∀ r ρ1 v G1 H1, f ρ = .ok r ρ1 → Grow G G1 → StD K H0 B G1 ρ1 σ H1 → VR K H0 G1 ρ1 σ H1 v r → EPost K mg H0 B G1 W σ Q (k r ρ1) → R1 v H1) : cE K mg W f σ H R1 := by
  refine ⟨H0, B, G, ρ, I, ?_⟩
  cases e : f ρ with
  | ok r ρ1 =>
    rw [e] at h
    exact fun v G1 H1 s I1 x => go r ρ1 v G1 H1 e s I1 x (EPost.mono h s)
  | xc c ρ1 =>
    rw [e] at h
    exact h
  | bad =>
    rw [e] at h
    exact h
/-- .. the value settled -/
theorem cE.okS {f : EM} (I : StD K H0 B G ρ σ H) {k : R → DEnv → ER} (h : EPost K mg H0 B G W σ Q ((f ρ).bind k)) {R1 : VK}
    (go : ∀ r ρ1 v G1 H1, Grow G G1 → StD K H0 B G1 ρ1 σ H1 → VS K G1 σ v (settle r) → EPost K mg H0 B G1 W σ Q (k r ρ1) → R1 v H1) : cE K mg W f σ H R1 :=
  cE.ok I h fun r ρ1 v G1 H1 e s I1 x h1 => by
    obtain ⟨G2, s2, I2, y⟩ := x.settle I1
    exact go r ρ1 v G2 H1 (s.trans s2) I2 y (h1.mono s2)
theorem cA.okE {f : AM} (I : StD K H0 B G ρ σ H) {k : List R → DEnv → ER} (h : EPost K mg H0 B G W σ Q ((f ρ).toE k)) {R1 : List V → Hp → Prop}
    (go : ∀ rs ρ1 vs G1 H1, Grow G G1 → StD K H0 B G1 ρ1 σ H1 → VSs K G1 σ vs rs → EPost K mg H0 B G1 W σ Q (k rs ρ1) → R1 vs H1) : cA K mg W f σ H R1 := by
  refine ⟨H0, B, G, ρ, I, ?_⟩
  cases e : f ρ with
  | ok r ρ1 =>
    rw [e] at h
    exact fun v G1 H1 s I1 x => go r ρ1 v G1 H1 s I1 x (EPost.mono h s)
  | xc c ρ1 =>
    rw [e] at h
    exact h
  | bad =>
    rw [e] at h
    exact h
theorem cE.okA {Q : List V → Hp → Prop} {f : EM} (I : StD K H0 B G ρ σ H) {k : R → DEnv → AR} (h : APost K mg H0 B G W σ Q ((f ρ).toA k)) {R1 : VK}
    (go : ∀ r ρ1 v G1 H1, Grow G G1 → StD K H0 B G1 ρ1 σ H1 → VS K G1 σ v (settle r) → APost K mg H0 B G1 W σ Q (k r ρ1) → R1 v H1) : cE K mg W f σ H R1 := by
  refine ⟨H0, B, G, ρ, I, ?_⟩
  cases e : f ρ with
  | ok r ρ1 =>
    rw [e] at h
    intro v G1 H1 s I1 x
    obtain ⟨G2, s2, I2, y⟩ := x.settle I1
    exact go r ρ1 v G2 H1 (s.trans s2) I2 y (APost.mono h (s.trans s2))
  | xc c ρ1 =>
    rw [e] at h
    exact h
  | bad =>
    rw [e] at h
    exact h
theorem cE.okT {Q : Bool → Hp → Prop} {f : EM} (I : StD K H0 B G ρ σ H) {k : R → DEnv → TR} (h : TPost K mg H0 B G W σ Q ((f ρ).toT k)) {R1 : VK}
    (go : ∀ r ρ1 v G1 H1, Grow G G1 → StD K H0 B G1 ρ1 σ H1 → VR K H0 G1 ρ1 σ H1 v r → TPost K mg H0 B G1 W σ Q (k r ρ1) → R1 v H1) : cE K mg W f σ H R1 := by
  refine ⟨H0, B, G, ρ, I, ?_⟩
  cases e : f ρ with
  | ok r ρ1 =>
    rw [e] at h
    exact fun v G1 H1 s I1 x => go r ρ1 v G1 H1 s I1 x (TPost.mono h s)
  | xc c ρ1 =>
    rw [e] at h
    exact h
  | bad =>
    rw [e] at h
    exact h
theorem cA.okA {Q : List V → Hp → Prop} {f : AM} (I : StD K H0 B G ρ σ H) {k : List R → DEnv → AR} (h : APost K mg H0 B G W σ Q ((f ρ).bind k)) {R1 : List V → Hp → Prop}
    (go : ∀ rs ρ1 vs G1 H1, Grow G G1 → StD K H0 B G1 ρ1 σ H1 → VSs K G1 σ vs rs → APost K mg H0 B G1 W σ Q (k rs ρ1) → R1 vs H1) : cA K mg W f σ H R1 := by
  refine ⟨H0, B, G, ρ, I, ?_⟩
  cases e : f ρ with
  | ok r ρ1 =>
    rw [e] at h
    exact fun v G1 H1 s I1 x => go r ρ1 v G1 H1 s I1 x (APost.mono h s)
  | xc c ρ1 =>
    rw [e] at h
    exact h
  | bad =>
    rw [e] at h
    exact h
theorem cT.okT {Q : Bool → Hp → Prop} {f : TM} (I : StD K H0 B G ρ σ H) {k : Bool → DEnv → TR} (h : TPost K mg H0 B G W σ Q ((f ρ).bind k)) {R1 : Bool → Hp → Prop}
    (go : ∀ b ρ1 G1 H1, Grow G G1 → StD K H0 B G1 ρ1 σ H1 → TPost K mg H0 B G1 W σ Q (k b ρ1) → R1 b H1) : cT K mg W f σ H R1 := by
  refine ⟨H0, B, G, ρ, I, ?_⟩
  cases e : f ρ with
  | ok r ρ1 =>
    rw [e] at h
    exact fun G1 H1 s I1 => go r ρ1 G1 H1 s I1 (TPost.mono h s)
  | xc c ρ1 =>
    rw [e] at h
    exact h
  | bad =>
    rw [e] at h
    exact h

/-! ### what primitives give -/
inductive PR where
  | v (d : D) | nl (ds : List D) | nd (kvs : List (Key × D)) | t (ds : List D) | bad
def PPost (K : PySem.W.Frag) (G H : Hp) (Q : VK) : PR → Prop
  | .v d => ∀ v, Rep K G v d → Q v H
  | .nl ds => ∀ p vs, H p = none → RepAll K G vs ds → Q (.ref p) (upd H p (.lst vs))
  | .nd ds => ∀ p vs, H p = none → RepKV K G vs ds → Q (.ref p) (upd H p (.dK vs))
  | .t ds => (∀ v, Rep K G v (.tup ds) → Q v H) ∧ ∀ p o vs, H p = none → PlT o → RepAll K G vs ds → Q (.ref p) (upd H p (.frz o (.tup vs)))
  | .bad => False
def PR.er (ρ : DEnv) : PR → ER
  | .v d => .ok (.sh d) ρ
  | .nl ds => .ok (.ow (.lst ds)) ρ
  | .nd ds => .ok (.ow (.dct ds)) ρ
  | .t ds => .ok (.sh (.tup ds)) ρ
  | .bad => .bad
theorem StD.alloc (I : StD K H0 B G ρ σ H) {p : Addr} {o : HO} (hp : H p = none) : StD K H0 B G ρ σ (upd H p o) := by
  refine ⟨I.gh.off (I.gh.free hp), I.h0.off (I.h0.free hp), I.bg, I.nb, I.len, fun i s e => ?_, I.dj⟩
  · have x := I.sl i s e
    cases s with
    | un => trivial
    | sh d => exact x
    | ow d =>
      obtain ⟨q, e1, g1, h1, c⟩ := x
      obtain ⟨u, hu⟩ := c.there
      exact ⟨q, e1, g1, h1, c.mono (Mono.refl _) (upd_ne (ne_of_none hu hp))⟩
theorem StD.gfree (I : StD K H0 B G ρ σ H) {p : Addr} (hp : H p = none) : G p = none ∧ H0 p = none := ⟨I.gh.free hp, I.h0.free hp⟩
theorem StD.notown (I : StD K H0 B G ρ σ H) {p : Addr} (hp : H p = none) : ∀ (i : Nat) (e : D), ρ[i]? = some (.ow e) → σ[i]? ≠ some (some (.ref p)) := fun i e a b => by
  obtain ⟨q, e1, _, _, c⟩ := I.ow a
  rw [b] at e1
  cases e1
  obtain ⟨u, hu⟩ := c.there
  rw [hp] at hu
  cases hu
theorem PPost.of {pr : PR} (I : StD K H0 B G ρ σ H) (h : EPost K mg H0 B G W σ Q (pr.er ρ)) : PPost K G H Q pr := by
  cases pr with
  | v d => exact fun v r => h v G H (Grow.refl _) I r
  | bad => exact h
  | nl ds =>
    intro p vs hp ra
    obtain ⟨g, h0⟩ := I.gfree hp
    exact h _ G _ (Grow.refl _) (I.alloc hp) ⟨p, rfl, g, h0, I.notown hp, vs, upd_same, ra⟩
  | nd ds =>
    intro p vs hp ra
    obtain ⟨g, h0⟩ := I.gfree hp
    exact h _ G _ (Grow.refl _) (I.alloc hp) ⟨p, rfl, g, h0, I.notown hp, vs, upd_same, ra⟩
  | t ds =>
    refine ⟨fun v r => h v G H (Grow.refl _) I r, ?_⟩
    intro p o vs hp pl ra
    obtain ⟨g, h0⟩ := I.gfree hp
    obtain ⟨I1, sg⟩ := (I.alloc (o := .frz o (.tup vs)) hp).freezeCell (upd_same (H := H)) g h0 (I.notown hp)
    exact h _ _ _ sg I1 (.tup (.inl ⟨o, upd_same, pl⟩) (ra.mono (Mono.of sg)))

/-- several values read -/
inductive RepTs (K : PySem.W.Frag) (G H : Hp) : List V → List D → Prop
  | nil : RepTs K G H [] []
  | cons {v : V} {vs : List V} {d : D} {ds : List D} : RepT K G H v d → RepTs K G H vs ds → RepTs K G H (v :: vs) (d :: ds)
def pks (ρ : DEnv) : List R → Option (List D)
  | [] => some []
  | r :: rs => match pk ρ r, pks ρ rs with
    | some d, some ds => some (d :: ds)
    | _, _ => none
theorem VS.pk {v : V} {r : R} {d : D} (I : StD K H0 B G ρ σ H) (h : VS K G σ v r) (e : pk ρ r = some d) : RepT K G H v d := VR.pk I h.vr e
theorem VSs.pks (I : StD K H0 B G ρ σ H) : ∀ {vs : List V} {rs : List R} {ds : List D}, VSs K G σ vs rs → pks ρ rs = some ds → RepTs K G H vs ds
  | _, _, _, .nil, e => by cases e; exact .nil
  | _, r :: rs, ds, .cons h t, e => by
    dsimp only [DL.pks] at e
    cases q1 : DL.pk ρ r with
    | none => rw [q1] at e; cases e
    | some d =>
      cases q2 : DL.pks ρ rs with
      | none => rw [q1, q2] at e; cases e
      | some es =>
        rw [q1, q2] at e
        cases e
        exact .cons (h.pk I q1) (VSs.pks I t q2)
def fzs (ρ : DEnv) : List R → Option (List D × DEnv)
  | [] => some ([], ρ)
  | r :: rs => match fz ρ r with
    | some (d, ρ1) => match fzs ρ1 rs with
      | some (ds, ρ2) => some (d :: ds, ρ2)
      | none => none
    | none => none
theorem VSs.fzs : ∀ {vs : List V} {rs : List R} {ds : List D} {ρ ρ' : DEnv} {G : Hp} (I : StD K H0 B G ρ σ H), VSs K G σ vs rs → fzs ρ rs = some (ds, ρ') →
    ∃ G', Grow G G' ∧ StD K H0 B G' ρ' σ H ∧ RepAll K G' vs ds
  | _, _, _, _, _, G, I, .nil, e => by cases e; exact ⟨G, Grow.refl G, I, .nil⟩
  | _, r :: rs, ds, ρ, ρ', G, I, .cons h t, e => by
    dsimp only [DL.fzs] at e
    cases q1 : DL.fz ρ r with
    | none => rw [q1] at e; cases e
    | some x =>
      obtain ⟨d, ρ1⟩ := x
      rw [q1] at e
      dsimp only at e
      obtain ⟨G1, s1, I1, r1⟩ := VR.fz I h.vr q1
      cases q2 : DL.fzs ρ1 rs with
      | none => rw [q2] at e; cases e
      | some y =>
        obtain ⟨es, ρ2⟩ := y
        rw [q2] at e
        cases e
        obtain ⟨G2, s2, I2, r2⟩ := VSs.fzs I1 (VSs.stay t s1) q2
        exact ⟨G2, s1.trans s2, I2, .cons (r1.mono (Mono.of s2)) r2⟩
end

/-! ### names, constants -/
section
variable {X : Cx} {W : WX} {a b c e : Expr} {es : List Expr} {pos : Pos}
def eVar (i : Nat) : EM := fun ρ => match ρ[i]? with
  | some (.sh d) => .ok (.sh d) ρ
  | some (.ow _) => .ok (.al i) ρ
  | _ => .bad
theorem de_var (i : Nat) {x : Str} (hN : X.N[i]? = some x := by rfl) (hv : Vis X.env.scope x := by first | exact Or.inl rfl | exact Or.inr (Or.inl rfl) | exact Or.inr (Or.inr rfl)) (hd : (x == ("__debug__" : Str)) = false := by decide)
    (hcd : (x == ("__classdict__" : Str)) = false := by decide) : DE X W (.Name x pos) (eVar i) := by
  refine iE (pe_var hN hv hd hcd) fun σ H Q ⟨H0, B, G, ρ, I, h⟩ => ?_
  unfold eVar at h
  cases q : ρ[i]? with
  | none => rw [q] at h; exact h.elim
  | some s =>
    rw [q] at h
    cases s with
    | un => exact h.elim
    | sh d =>
      obtain ⟨v, e, r⟩ := I.sh q
      exact ⟨v, e, h v G H (Grow.refl G) I r⟩
    | ow d =>
      obtain ⟨p, e, _⟩ := I.ow q
      exact ⟨_, e, h _ G H (Grow.refl G) I e⟩
def eC (d : D) : EM := fun ρ => .ok (.sh d) ρ
theorem de_int {i j} : DE X W (.Constant (.int i) j pos) (eC (.int i)) := iE pe_int fun σ H Q ⟨H0, B, G, ρ, I, h⟩ => h _ G H (Grow.refl G) I (.int i)
theorem de_bl {i j} : DE X W (.Constant (.bool i) j pos) (eC (.bl i)) := iE pe_bl fun σ H Q ⟨H0, B, G, ρ, I, h⟩ => h _ G H (Grow.refl G) I (.bl i)
theorem de_str {i j} : DE X W (.Constant (.str i) j pos) (eC (.str i)) := iE pe_str fun σ H Q ⟨H0, B, G, ρ, I, h⟩ => h _ G H (Grow.refl G) I (.str i)
theorem de_non {j} : DE X W (.Constant .none j pos) (eC .non) := iE pe_non fun σ H Q ⟨H0, B, G, ρ, I, h⟩ => h _ G H (Grow.refl G) I .non
/-- a module's constant: an int, a text -/
theorem de_gint {x : Str} {i : Int} (hg : Gl X x) (hm : ∃ t, X.mg x = some (.int i t)) (hd : (x == ("__debug__" : Str)) = false := by decide) : DE X W (.Name x pos) (eC (.int i)) := by
  obtain ⟨t, hm⟩ := hm
  exact iE (pe_glob hg hm (v := .int i) ⟨t, rfl⟩ hd) fun σ H Q ⟨H0, B, G, ρ, I, h⟩ => h _ G H (Grow.refl G) I (.int i)
theorem de_gstr {x : Str} {i : Str} (hg : Gl X x) (hm : ∃ t, X.mg x = some (.str i t)) (hd : (x == ("__debug__" : Str)) = false := by decide) : DE X W (.Name x pos) (eC (.str i)) := by
  obtain ⟨t, hm⟩ := hm
  exact iE (pe_glob hg hm (v := .str i) ⟨t, rfl⟩ hd) fun σ H Q ⟨H0, B, G, ρ, I, h⟩ => h _ G H (Grow.refl G) I (.str i)

/-! ### operators by values -/
def Prim1 (K : PySem.W.Frag) (r : V → Hp → VK → Prop) (p : D → PR) : Prop := ∀ G H x d Q, Grow G H → RepT K G H x d → PPost K G H Q (p d) → r x H Q
def Prim2 (K : PySem.W.Frag) (r : R2) (p : D → D → PR) : Prop := ∀ G H x y d e Q, Grow G H → RepT K G H x d → RepT K G H y e → PPost K G H Q (p d e) → r x y H Q
def PrimN (K : PySem.W.Frag) (r : List V → Hp → VK → Prop) (p : List D → PR) : Prop := ∀ G H xs ds Q, Grow G H → RepTs K G H xs ds → PPost K G H Q (p ds) → r xs H Q
def ap1 (p : D → PR) (r : R) (ρ : DEnv) : ER := match pk ρ r with
  | some d => (p d).er ρ
  | none => .bad
def ap2 (p : D → D → PR) (r s : R) (ρ : DEnv) : ER := match pk ρ r, pk ρ s with
  | some d, some e => (p d e).er ρ
  | _, _ => .bad
def apN (p : List D → PR) (rs : List R) (ρ : DEnv) : ER := match pks ρ rs with
  | some ds => (p ds).er ρ
  | none => .bad
def eOp1 (p : D → PR) (fa : EM) : EM := fun ρ => (fa ρ).bind (ap1 p)
def eOp2 (p : D → D → PR) (fa fb : EM) : EM := fun ρ => (fa ρ).bind fun r1 ρ1 => (fb ρ1).bind fun r2 ρ2 => ap2 p (settle r1) r2 ρ2
def eOpN (p : List D → PR) (fa : AM) : EM := fun ρ => (fa ρ).toE (apN p)
theorem op1_imp {K : PySem.W.Frag} {mg : Str → Option Value} {r : V → Hp → VK → Prop} {p : D → PR} (hp : Prim1 K r p) {fa : EM} :
    ∀ σ H Q, cE K mg W (eOp1 p fa) σ H Q → tUn r (cE K mg W fa) σ H Q := fun σ H Q ⟨H0, B, G, ρ, I, h⟩ =>
  cE.ok I h fun r1 ρ1 x G1 H1 _ s1 I1 v1 h1 => by
    unfold ap1 at h1
    cases q1 : pk ρ1 r1 with
    | none => rw [q1] at h1; exact h1.elim
    | some d =>
      rw [q1] at h1
      exact hp G1 H1 x d Q I1.gh (v1.pk I1 q1) (PPost.of I1 h1)
theorem op2_imp {K : PySem.W.Frag} {mg : Str → Option Value} {r : R2} {p : D → D → PR} (hp : Prim2 K r p) {fa fb : EM} :
    ∀ σ H Q, cE K mg W (eOp2 p fa fb) σ H Q → tOp r (cE K mg W fa) (cE K mg W fb) σ H Q := fun σ H Q ⟨H0, B, G, ρ, I, h⟩ =>
  cE.okS I h fun r1 ρ1 x G1 H1 s1 I1 v1 h1 => cE.ok I1 h1 fun r2 ρ2 y G2 H2 _ s2 I2 v2 h2 => by
    unfold ap2 at h2
    cases q1 : pk ρ2 (settle r1) with
    | none => rw [q1] at h2; exact h2.elim
    | some d =>
      cases q2 : pk ρ2 r2 with
      | none => rw [q1, q2] at h2; exact h2.elim
      | some e =>
        rw [q1, q2] at h2
        exact hp G2 H2 x y d e Q I2.gh ((v1.stay s2).pk I2 q1) (v2.pk I2 q2) (PPost.of I2 h2)
theorem opN_imp {K : PySem.W.Frag} {mg : Str → Option Value} {r : List V → Hp → VK → Prop} {p : List D → PR} (hp : PrimN K r p) {fa : AM} :
    ∀ σ H Q, cE K mg W (eOpN p fa) σ H Q → cA K mg W fa σ H fun xs H1 => r xs H1 Q := fun σ H Q ⟨H0, B, G, ρ, I, h⟩ =>
  cA.okE I h fun rs ρ1 xs G1 H1 s1 I1 v1 h1 => by
    unfold apN at h1
    cases q1 : pks ρ1 rs with
    | none => rw [q1] at h1; exact h1.elim
    | some ds =>
      rw [q1] at h1
      exact hp G1 H1 xs ds Q I1.gh (v1.pks I1 q1) (PPost.of I1 h1)
theorem de_op {op : Operator} {r : R2} {p : D → D → PR} {fa fb : EM} (ho : OpR X (binaryOp op) r) (hp : Prim2 X.K r p) (ha : DE X W a fa) (hb : DE X W b fb) : DE X W (.BinOp a op b pos) (eOp2 p fa fb) :=
  iE (pe_op ho ha hb) (op2_imp hp)
theorem de_un {op : UnaryOp} {r : V → Hp → VK → Prop} {p : D → PR} {fa : EM} (ho : UnR X (unaryOp op) r) (hp : Prim1 X.K r p) (ha : DE X W a fa) : DE X W (.UnaryOp op a pos) (eOp1 p fa) :=
  iE (pe_un ho ha) (op1_imp hp)
theorem de_cmp {op : CmpOp} {r : R2} {p : D → D → PR} {fa fb : EM} (ho : OpR X (compareOp op) r) (hp : Prim2 X.K r p) (ha : DE X W a fa) (hb : DE X W b fb) (hm : behindInMarks op b = false) : DE X W (.Compare a [op] [b] pos) (eOp2 p fa fb) :=
  iE (pe_cmpR ho ha hb hm) (op2_imp hp)
theorem de_ix {r : R2} {p : D → D → PR} {fa fb : EM} (hr : IxR X r) (hp : Prim2 X.K r p) (ha : DE X W a fa) (hb : DE X W b fb) (hs : PlainIx b := by exact fun _ _ => rfl) : DE X W (.Subscript a b pos) (eOp2 p fa fb) :=
  iE (pe_ix hr ha hb hs) (op2_imp hp)

/-! ### argument lists -/
def aNil : AM := fun ρ => .ok [] ρ
def aCons (fa : EM) (fr : AM) : AM := fun ρ => (fa ρ).toA fun r ρ1 => (fr ρ1).bind fun rs ρ2 => .ok (settle r :: rs) ρ2
theorem da_nil : DA X W [] aNil := iA pa_nil fun σ H Q ⟨H0, B, G, ρ, I, h⟩ => h [] G H (Grow.refl G) I .nil
theorem da_cons {fa : EM} {fr : AM} (ha : DE X W e fa) (hr : DA X W es fr) (hs : starEach (e :: es) X.env = (false, eval e X.env) :: starEach es X.env := by rfl) : DA X W (e :: es) (aCons fa fr) :=
  iA (pa_cons ha hr hs) fun σ H Q ⟨H0, B, G, ρ, I, h⟩ => cE.okA I h fun r ρ1 x G1 H1 s1 I1 v1 h1 => cA.okA I1 h1 fun rs ρ2 xs G2 H2 s2 I2 v2 h2 =>
    h2 _ G2 H2 (Grow.refl _) I2 (.cons (v1.stay s2) v2)
/-- f(..), f a built-in by its name -/
theorem de_callB {n : Str} {u : Value} {fv : String} {p pos : Pos} {r : List V → Hp → VK → Prop} {q : List D → PR} {fa : AM} (hc : PE X (.Call (.Name n p) es [] pos) (tCB r (cA X.K X.mg W fa))) (hp : PrimN X.K r q) : DE X W (.Call (.Name n p) es [] pos) (eOpN q fa) :=
  iE hc (opN_imp hp)
end
end DL

/-! DL3: displays, methods, tests, statements, calls of defs, the whole def. -/
namespace DL
open PySem PySem.Spec PyProof.Rows L2

/-! ### displays -/
/-- a new tuple, laid with its object -/
def tTupP (t : TA) : TE := fun σ H Q => t σ H fun xs H1 => xs.length ≤ sizeLine ∧ ∀ p o, H1 p = none → PlT o → Q (.ref p) (upd H1 p (.frz o (.tup xs)))
theorem pe_tupP {X : Cx} {es : List Expr} {pos : Pos} {t : TA} {x1} (h : PA X es t) : PE X (.Tuple es x1 pos) (tTupP t) := by
  refine ⟨fun pins s σ H Q I hq => ?_⟩
  refine wpAny_Tuple_spliced (thn (h.run pos pins s σ H _ I hq) fun us s1 ⟨xs, H1, I1, r, z, q⟩ => ⟨by rw [← r.length]; exact z, ?_⟩)
  have hf : H1 s1.heap.objs.size = none := I1.hok.fresh (Nat.le_refl _)
  refine ⟨.ref s1.heap.objs.size, upd H1 s1.heap.objs.size (.frz { cls := .type "tuple", data := .seq us.toArray } (.tup xs)), I1.laid (t' := s1.toks) (fun b u e => Heap.get?_push_of_some _ e) (Nat.le_refl _) ?_, rfl, q _ _ hf ⟨rfl, rfl⟩⟩
  exact ⟨Heap.get?_push_size _ rfl, z, us, r, ⟨_, Heap.get?_push_size _ rfl, rfl, _, rfl⟩⟩

def mkL (rs : List R) (ρ : DEnv) : ER := match fzs ρ rs with
  | some (ds, ρ2) => if ds.length ≤ 16777216 then .ok (.ow (.lst ds)) ρ2 else .bad
  | none => .bad
def mkT (rs : List R) (ρ : DEnv) : ER := match fzs ρ rs with
  | some (ds, ρ2) => if ds.length ≤ 16777216 then .ok (.sh (.tup ds)) ρ2 else .bad
  | none => .bad
def eLst (fa : AM) : EM := fun ρ => (fa ρ).toE mkL
def eTup (fa : AM) : EM := fun ρ => (fa ρ).toE mkT
section
variable {X : Cx} {W : WX} {a b c e : Expr} {es : List Expr} {pos : Pos}
theorem de_lst {fa : AM} (ha : DA X W es fa) : DE X W (.List es pos) (eLst fa) :=
  iE (pe_lst ha) fun σ H Q ⟨H0, B, G, ρ, I, h⟩ => cA.okE I h fun rs ρ1 xs G1 H1 s1 I1 v1 h1 => by
    unfold mkL at h1
    cases q : fzs ρ1 rs with
    | none => rw [q] at h1; exact h1.elim
    | some z =>
      obtain ⟨ds, ρ2⟩ := z
      rw [q] at h1
      dsimp only at h1
      by_cases hl : ds.length ≤ 16777216
      · rw [if_pos hl] at h1
        obtain ⟨G2, s2, I2, r2⟩ := v1.fzs I1 q
        refine ⟨by rw [r2.length, sizeLine_eq]; exact hl, fun p hp => ?_⟩
        exact PPost.of (pr := .nl ds) I2 (EPost.mono h1 s2) p xs hp r2
      · rw [if_neg hl] at h1; exact h1.elim
theorem de_tup {fa : AM} {j} (ha : DA X W es fa) : DE X W (.Tuple es j pos) (eTup fa) :=
  iE (pe_tupP ha) fun σ H Q ⟨H0, B, G, ρ, I, h⟩ => cA.okE I h fun rs ρ1 xs G1 H1 s1 I1 v1 h1 => by
    unfold mkT at h1
    cases q : fzs ρ1 rs with
    | none => rw [q] at h1; exact h1.elim
    | some z =>
      obtain ⟨ds, ρ2⟩ := z
      rw [q] at h1
      dsimp only at h1
      by_cases hl : ds.length ≤ 16777216
      · rw [if_pos hl] at h1
        obtain ⟨G2, s2, I2, r2⟩ := v1.fzs I1 q
        refine ⟨by rw [r2.length, sizeLine_eq]; exact hl, fun p o hp pl => ?_⟩
        exact (PPost.of (pr := .t ds) I2 (EPost.mono h1 s2)).2 p o xs hp pl r2
      · rw [if_neg hl] at h1; exact h1.elim
def eNewD : EM := fun ρ => .ok (.ow (.dct [])) ρ
theorem de_newD : DE X W (.Dict [] [] pos) eNewD := iE pe_dnewK fun σ H Q ⟨H0, B, G, ρ, I, h⟩ => fun p hp =>
  PPost.of (pr := .nd []) I h p [] hp .nil

/-! ### calls of built-ins -/
theorem de_cB {n : Str} {id : String} {r : List V → Hp → VK → Prop} {q : List D → PR} {fa : AM} {p : Pos} (hc : CallR X (.builtin id) r) (hp : PrimN X.K r q) (hg : Gl X n) (hm : X.mg n = none) (hv : bootBuiltins n = some (.builtin id)) (ha : DA X W (e :: es) fa)
    (hn : n ≠ "__name__" := by decide) (hdb : (n == ("__debug__" : Str)) = false := by decide)
    (he : starEach (e :: es) X.env = (false, eval e X.env) :: starEach es X.env := by rfl) (hpl : (backTo pos (starEach es X.env)).any (·.1) = false := by rfl) : DE X W (.Call (.Name n p) (e :: es) [] pos) (eOpN q fa) :=
  iE (pe_callB hc hg hm hv ha hn hdb he hpl) (opN_imp hp)
theorem de_cT {n : Str} {T : String} {r : List V → Hp → VK → Prop} {q : List D → PR} {fa : AM} {p : Pos} (hc : CallR X (.type T) r) (hp : PrimN X.K r q) (hg : Gl X n) (hm : X.mg n = none) (hv : bootBuiltins n = some (.type T)) (ha : DA X W (e :: es) fa)
    (hn : n ≠ "__name__" := by decide) (hdb : (n == ("__debug__" : Str)) = false := by decide)
    (he : starEach (e :: es) X.env = (false, eval e X.env) :: starEach es X.env := by rfl) (hpl : (backTo pos (starEach es X.env)).any (·.1) = false := by rfl) : DE X W (.Call (.Name n p) (e :: es) [] pos) (eOpN q fa) :=
  iE (pe_callTy hc hg hm hv ha hn hdb he hpl) (opN_imp hp)

/-! ### methods of built-in types -/
def kindOk (T : String) : D → Bool
  | .str _ => T == "str"
  | .lst _ => T == "list"
  | .tup _ => T == "tuple"
  | .dct _ => T == "dict"
  | _ => false
/-- the value is of that type, and has no attributes of its own -/
def KindV (K : PySem.W.Frag) (T : String) (x : V) (H : Hp) : Prop := match x with
  | .str _ => T = "str"
  | .ref p => (T = "list" ∧ ∃ xs, SqL K H p xs) ∨ (T = "tuple" ∧ ∃ xs, SqP K H p xs) ∨ (T = "dict" ∧ ∃ kvs, Rd H p (.dK kvs))
  | _ => False
theorem KindV.is {pins : List (Addr × Obj)} {σ : L2.St} {H : Hp} {s : Shared} {T : String} {x : V} {v : Value} (I : Inv X pins σ H s) (r : RelV x v) (ty : KindV X.K T x H) :
    s.TypeIs v T ∧ ∀ a, v = .ref a → ∃ ob, s.heap.get? a = some ob ∧ ob.dict = none := by
  cases x with
  | str z =>
    obtain ⟨t, rfl⟩ := r
    cases (show T = "str" from ty)
    exact ⟨typeIs_str s z t, fun _ e => nomatch e⟩
  | ref p =>
    cases r
    rcases ty with ⟨rfl, xs, hq⟩ | ⟨rfl, xs, hq⟩ | ⟨rfl, kvs, hk⟩
    · obtain ⟨its, _, pl, _⟩ := I.list hq
      refine ⟨pl.isList.typeIs, fun a e => ?_⟩
      cases e
      obtain ⟨o, n, e, c, hd, _⟩ := pl
      exact ⟨o, e, hd⟩
    · rcases hq with ⟨o, hk, hc, hd⟩ | ⟨o, its, n, hk, hc, hd, _⟩
      · have x := I.hok p _ hk
        refine ⟨⟨o, x.1, hc⟩, fun a e => ?_⟩
        cases e
        exact ⟨o, x.1, hd⟩
      · refine ⟨⟨o, I.kIn p o hk, hc⟩, fun a e => ?_⟩
        cases e
        exact ⟨o, I.kIn _ o hk, hd⟩
    · obtain ⟨_, _, _, _, o, _, _, e, ex, _⟩ := dk_rd I.hok hk
      refine ⟨⟨o, e, ex.1⟩, fun a e2 => ?_⟩
      cases e2
      exact ⟨o, e, ex.2.1⟩
  | _ => exact False.elim ty
theorem KindV.of {K : PySem.W.Frag} {T : String} {G H : Hp} {x : V} {d : D} (r : RepT K G H x d) (m : Grow G H) (h : kindOk T d = true) : KindV K T x H := by
  cases r with
  | str x => exact (by simpa [kindOk] using h : T = "str")
  | lst h1 h2 => exact .inl ⟨by simpa [kindOk] using h, _, .inl h1⟩
  | tup h1 h2 => exact .inr (.inl ⟨by simpa [kindOk] using h, _, (Mono.of m).seqT h1⟩)
  | dct h1 h2 => exact .inr (.inr ⟨by simpa [kindOk] using h, _, h1⟩)
  | _ => cases h
def tKM0 (K : PySem.W.Frag) (T : String) (r : V → List V → Hp → VK → Prop) (to : TE) : TE := fun σ H Q => to σ H fun x H1 => KindV K T x H1 ∧ r x [] H1 Q
def tKM (K : PySem.W.Frag) (T : String) (r : V → List V → Hp → VK → Prop) (to : TE) (t : TA) : TE := fun σ H Q => to σ H fun x H1 => KindV K T x H1 ∧ t σ H1 fun xs H2 => r x xs H2 Q
section
variable {o : Expr} {to : TE} {t : TA} {T id : String} {name : Str} {apos cpos : Pos} {r : V → List V → Hp → VK → Prop}
theorem pe_km0 (pa : PlainAttrs T) (slot : Slot T name id) (hty : typeOf (.builtin id) = pure (.type "method_descriptor")) (hm : MtR X id r) (ho : PE X o to)
    (hbase : attributeBase o name X.env (eval o X.env) = eval o X.env := by rfl) (hline : (apos.endLine == cpos.line) = true := by rfl) : PE X (.Call (.Attribute o name apos) [] [] cpos) (tKM0 X.K T r to) := by
  refine ⟨fun pins s σ H Q I h => ?_⟩
  refine wpAny_Call_method0_late hbase hline (thn (ho.run pins s σ H _ I h) fun v s1 ⟨x, H1, I1, r1, ty, q1⟩ => ?_)
  obtain ⟨h1, h2⟩ := KindV.is I1 r1 ty
  exact ⟨T, id, pa, slot, hty, h1, h2, Calls.callWith_builtin rfl (PySem.evalArgs_none (hm pins s1 σ H1 x [] v [] Q I1 r1 .nil q1))⟩
theorem pe_km (pa : PlainAttrs T) (slot : Slot T name id) (hty : typeOf (.builtin id) = pure (.type "method_descriptor")) (hm : MtR X id r) (ho : PE X o to) (ha : PA X (e :: es) t)
    (hbase : attributeBase o name X.env (eval o X.env) = eval o X.env := by rfl)
    (hfew : ((backTo cpos (starEach (e :: es) X.env)).all (fun x => !x.1) && (backToKw cpos (keywordEach [] X.env)).all (fun x => x.1.isSome)
      && decide ((e :: es).length + ([] : List Keyword).length + (if ([] : List Keyword).isEmpty then 0 else 1) < 30)) = true := by rfl)
    (hline : (apos.endLine == cpos.line) = true := by rfl) (hs : starEach (e :: es) X.env = (false, eval e X.env) :: starEach es X.env := by rfl) (hplain : (backTo cpos (starEach es X.env)).any (·.1) = false := by rfl) :
    PE X (.Call (.Attribute o name apos) (e :: es) [] cpos) (tKM X.K T r to t) := by
  refine ⟨fun pins s σ H Q I h => ?_⟩
  refine wpAny_Call_method_late hbase hfew hline rfl (thn (ho.run pins s σ H _ I h) fun v s1 ⟨x, H1, I1, r1, ty, q1⟩ => ?_)
  obtain ⟨h1, h2⟩ := KindV.is I1 r1 ty
  refine ⟨T, id, pa, slot, hty, h1, h2, ?_⟩
  have hA := ha.run cpos pins s1 σ H1 _ I1 q1
  rw [hs] at hA ⊢
  refine Calls.callWith_builtin (by show (false || (backTo cpos (starEach es X.env)).any (·.1)) = false; rw [hplain] <;> rfl) (Calls.evalArgs_plain ?_)
  exact thn hA fun us s2 ⟨vs, H2, I2, r2, q2⟩ => hm pins s2 σ H2 x vs v us Q I2 r1 r2 q2
end
/-- one that reads -/
def PrimM (K : PySem.W.Frag) (r : V → List V → Hp → VK → Prop) (p : D → List D → PR) : Prop := ∀ G H x xs d ds Q, Grow G H → RepT K G H x d → RepTs K G H xs ds → PPost K G H Q (p d ds) → r x xs H Q
def apM (p : D → List D → PR) (r : R) (rs : List R) (ρ : DEnv) : ER := match pk ρ r, pks ρ rs with
  | some d, some ds => (p d ds).er ρ
  | _, _ => .bad
def isK (T : String) (r : R) (ρ : DEnv) : Bool := match pk ρ r with
  | some d => kindOk T d
  | none => false
theorem isK_ok {T : String} {r : R} {ρ : DEnv} (h : isK T r ρ = true) : ∃ d, pk ρ r = some d ∧ kindOk T d = true := by
  unfold isK at h
  cases q : pk ρ r with
  | none => rw [q] at h; cases h
  | some d => rw [q] at h; exact ⟨d, rfl, h⟩
def eMeth (T : String) (p : D → List D → PR) (fo : EM) (fa : AM) : EM := fun ρ => (fo ρ).bind fun r1 ρ1 => if isK T (settle r1) ρ1 = true then (fa ρ1).toE fun rs ρ2 => apM p (settle r1) rs ρ2 else .bad
def eMeth0 (T : String) (p : D → List D → PR) (fo : EM) : EM := fun ρ => (fo ρ).bind fun r1 ρ1 => if isK T (settle r1) ρ1 = true then apM p (settle r1) [] ρ1 else .bad
section
variable {o : Expr} {fo : EM} {fa : AM} {T id : String} {name : Str} {apos cpos : Pos} {r : V → List V → Hp → VK → Prop} {p : D → List D → PR}
theorem apM_go {mg : Str → Option Value} {K : PySem.W.Frag} {H0 B G H : Hp} {σ : L2.St} {ρ : DEnv} {r1 : R} {rs : List R} {Q : VK} {x : V} {xs : List V} (hp : PrimM K r p) (I : StD K H0 B G ρ σ H)
    (v1 : VS K G σ x r1) (v2 : VSs K G σ xs rs) (h : EPost K mg H0 B G W σ Q (apM p r1 rs ρ)) : r x xs H Q := by
  unfold apM at h
  cases q1 : pk ρ r1 with
  | none => rw [q1] at h; exact h.elim
  | some d =>
    cases q2 : pks ρ rs with
    | none => rw [q1, q2] at h; exact h.elim
    | some ds =>
      rw [q1, q2] at h
      exact hp G H x xs d ds Q I.gh (v1.pk I q1) (v2.pks I q2) (PPost.of I h)
theorem de_meth (pa : PlainAttrs T) (slot : Slot T name id) (hty : typeOf (.builtin id) = pure (.type "method_descriptor")) (hm : MtR X id r) (hp : PrimM X.K r p) (ho : DE X W o fo) (ha : DA X W (e :: es) fa)
    (hbase : attributeBase o name X.env (eval o X.env) = eval o X.env := by rfl)
    (hfew : ((backTo cpos (starEach (e :: es) X.env)).all (fun x => !x.1) && (backToKw cpos (keywordEach [] X.env)).all (fun x => x.1.isSome)
      && decide ((e :: es).length + ([] : List Keyword).length + (if ([] : List Keyword).isEmpty then 0 else 1) < 30)) = true := by rfl)
    (hline : (apos.endLine == cpos.line) = true := by rfl) (hs : starEach (e :: es) X.env = (false, eval e X.env) :: starEach es X.env := by rfl) (hplain : (backTo cpos (starEach es X.env)).any (·.1) = false := by rfl) :
    DE X W (.Call (.Attribute o name apos) (e :: es) [] cpos) (eMeth T p fo fa) :=
  iE (pe_km pa slot hty hm ho ha hbase hfew hline hs hplain) fun σ H Q ⟨H0, B, G, ρ, I, h⟩ => cE.okS I h fun r1 ρ1 x G1 H1 s1 I1 v1 h1 => by
    by_cases k : isK T (settle r1) ρ1 = true
    · rw [if_pos k] at h1
      obtain ⟨d, q, kd⟩ := isK_ok k
      exact ⟨KindV.of (v1.pk I1 q) I1.gh kd, cA.okE I1 h1 fun rs ρ2 xs G2 H2 s2 I2 v2 h2 => apM_go hp I2 (v1.stay s2) v2 h2⟩
    · rw [if_neg k] at h1; exact h1.elim
theorem de_meth0 (pa : PlainAttrs T) (slot : Slot T name id) (hty : typeOf (.builtin id) = pure (.type "method_descriptor")) (hm : MtR X id r) (hp : PrimM X.K r p) (ho : DE X W o fo)
    (hbase : attributeBase o name X.env (eval o X.env) = eval o X.env := by rfl) (hline : (apos.endLine == cpos.line) = true := by rfl) : DE X W (.Call (.Attribute o name apos) [] [] cpos) (eMeth0 T p fo) :=
  iE (pe_km0 pa slot hty hm ho hbase hline) fun σ H Q ⟨H0, B, G, ρ, I, h⟩ => cE.okS I h fun r1 ρ1 x G1 H1 s1 I1 v1 h1 => by
    by_cases k : isK T (settle r1) ρ1 = true
    · rw [if_pos k] at h1
      obtain ⟨d, q, kd⟩ := isK_ok k
      exact ⟨KindV.of (v1.pk I1 q) I1.gh kd, apM_go hp I1 v1 .nil h1⟩
    · rw [if_neg k] at h1; exact h1.elim
end

/-! ### methods that change an own slot -/
def MutOk (K : PySem.W.Frag) (r : V → List V → Hp → VK → Prop) (p : D → List D → Option (D × D)) : Prop :=
  ∀ (G H : Hp) (a : Addr) (d : D) (vs : List V) (ds : List D) (ret d' : D) (Q : VK), Grow G H → Cell K G H a d → RepAll K G vs ds → p d ds = some (ret, d') →
    (∀ v o, Rep K G v ret → Cell K G (upd H a o) a d' → Q v (upd H a o)) → r (.ref a) vs H Q
def goMut (i : Nat) (p : D → List D → Option (D × D)) (rs : List R) (ρ : DEnv) : ER := match fzs ρ rs with
  | some (ds, ρ2) => match ρ2[i]? with
    | some (.ow d) => match p d ds with
      | some (ret, d') => .ok (.sh ret) (ρ2.set i (.ow d'))
      | none => .bad
    | _ => .bad
  | none => .bad
def eMut (i : Nat) (T : String) (p : D → List D → Option (D × D)) (fa : AM) : EM := fun ρ => if isK T (.al i) ρ = true then (fa ρ).toE (goMut i p) else .bad
section
variable {K : PySem.W.Frag} {mg : Str → Option Value} {H0 B G G' H : Hp} {ρ : DEnv} {σ : L2.St} {Q : VK}
theorem StD.write (I : StD K H0 B G ρ σ H) {i : Nat} {d d' : D} {p : Addr} {o : HO} (h : ρ[i]? = some (.ow d)) (hp : σ[i]? = some (some (.ref p))) (c : Cell K G (upd H p o) p d') : StD K H0 B G (ρ.set i (.ow d')) σ (upd H p o) := by
  obtain ⟨q, e1, g, h0, c0⟩ := I.ow h
  rw [hp] at e1
  cases e1
  refine ⟨I.gh.off g, I.h0.off h0, I.bg, I.nb, by rw [List.length_set]; exact I.len, fun j s e => ?_, fun j k x y z a b => ?_⟩
  · rcases set_get e with ⟨rfl, rfl⟩ | ⟨nj, e⟩
    · exact ⟨p, by rw [hp]; rfl, g, h0, c⟩
    · have x := I.sl j s e
      cases s with
      | un => trivial
      | sh d2 => exact x
      | ow d2 =>
        obtain ⟨p2, e2, g2, h2, c2⟩ := x
        have np : p2 ≠ p := fun z => nj (I.dj j i d2 d p e h (by rw [← z]; exact join_some e2) hp)
        exact ⟨p2, e2, g2, h2, c2.mono (Mono.refl _) (upd_ne np)⟩
  · rcases set_get a with ⟨ej, _⟩ | ⟨nj, a2⟩
    · rcases set_get b with ⟨ek, _⟩ | ⟨nk, b2⟩
      · exact fun _ _ => ej.trans ek.symm
      · exact fun f1 f2 => I.dj j k d y z (by rw [ej]; exact h) b2 f1 f2
    · rcases set_get b with ⟨ek, _⟩ | ⟨nk, b2⟩
      · exact fun f1 f2 => I.dj j k x d z a2 (by rw [ek]; exact h) f1 f2
      · exact fun f1 f2 => I.dj j k x y z a2 b2 f1 f2
end
section
variable {o : Expr} {fa : AM} {T id : String} {name : Str} {apos cpos npos : Pos} {r : V → List V → Hp → VK → Prop} {p : D → List D → Option (D × D)}
theorem goMut_go {mg : Str → Option Value} {K : PySem.W.Frag} {H0 B G H : Hp} {σ : L2.St} {ρ : DEnv} {i : Nat} {rs : List R} {Q : VK} {x : V} {xs : List V} (hp : MutOk K r p) (I : StD K H0 B G ρ σ H)
    (hx : σ[i]? = some (some x)) (v2 : VSs K G σ xs rs) (h : EPost K mg H0 B G W σ Q (goMut i p rs ρ)) : r x xs H Q := by
  unfold goMut at h
  cases q1 : fzs ρ rs with
  | none => rw [q1] at h; exact h.elim
  | some z =>
    obtain ⟨ds, ρ2⟩ := z
    rw [q1] at h
    dsimp only at h
    obtain ⟨G2, s2, I2, ra⟩ := v2.fzs I q1
    have h := EPost.mono h s2
    cases q2 : ρ2[i]? with
    | none => rw [q2] at h; exact h.elim
    | some sl =>
      rw [q2] at h
      cases sl with
      | un => exact h.elim
      | sh d => exact h.elim
      | ow d =>
        dsimp only at h
        obtain ⟨a, e1, g, h0, c⟩ := I2.ow q2
        rw [hx] at e1
        cases e1
        cases q3 : p d ds with
        | none => rw [q3] at h; exact h.elim
        | some w =>
          obtain ⟨ret, d'⟩ := w
          rw [q3] at h
          exact hp G2 H a d xs ds ret d' Q I2.gh c ra q3 fun v o rv cc => h v G2 _ (Grow.refl _) (I2.write q2 hx cc) rv
theorem isK_al {K : PySem.W.Frag} {H0 B G H : Hp} {σ : L2.St} {ρ : DEnv} {i : Nat} {T : String} (I : StD K H0 B G ρ σ H) (h : isK T (.al i) ρ = true) : ∃ v, σ[i]? = some (some v) ∧ KindV K T v H := by
  obtain ⟨d, q, kd⟩ := isK_ok h
  have q' := q
  dsimp only [pk] at q'
  cases z : ρ[i]? with
  | none => rw [z] at q'; cases q'
  | some sl =>
    rw [z] at q'
    cases sl with
    | un => cases q'
    | sh e =>
      obtain ⟨v, e1, r⟩ := I.sh z
      exact ⟨v, e1, KindV.of (VR.pk (r := .al i) I e1 q) I.gh kd⟩
    | ow e =>
      obtain ⟨a, e1, _⟩ := I.ow z
      exact ⟨_, e1, KindV.of (VR.pk (r := .al i) I e1 q) I.gh kd⟩
theorem de_mut (i : Nat) {x : Str} (pa : PlainAttrs T) (slot : Slot T name id) (hty : typeOf (.builtin id) = pure (.type "method_descriptor")) (hm : MtR X id r) (hp : MutOk X.K r p) (ha : DA X W (e :: es) fa)
    (hN : X.N[i]? = some x := by rfl) (hv : Vis X.env.scope x := by first | exact Or.inl rfl | exact Or.inr (Or.inl rfl) | exact Or.inr (Or.inr rfl)) (hd : (x == ("__debug__" : Str)) = false := by decide)
    (hcd : (x == ("__classdict__" : Str)) = false := by decide)
    (hbase : attributeBase (.Name x npos) name X.env (eval (.Name x npos) X.env) = eval (.Name x npos) X.env := by rfl)
    (hfew : ((backTo cpos (starEach (e :: es) X.env)).all (fun x => !x.1) && (backToKw cpos (keywordEach [] X.env)).all (fun x => x.1.isSome)
      && decide ((e :: es).length + ([] : List Keyword).length + (if ([] : List Keyword).isEmpty then 0 else 1) < 30)) = true := by rfl)
    (hline : (apos.endLine == cpos.line) = true := by rfl) (hs : starEach (e :: es) X.env = (false, eval e X.env) :: starEach es X.env := by rfl) (hplain : (backTo cpos (starEach es X.env)).any (·.1) = false := by rfl) :
    DE X W (.Call (.Attribute (.Name x npos) name apos) (e :: es) [] cpos) (eMut i T p fa) :=
  iE (pe_km pa slot hty hm (pv i hN hv hd hcd) ha hbase hfew hline hs hplain) fun σ H Q ⟨H0, B, G, ρ, I, h⟩ => by
    unfold eMut at h
    by_cases k : isK T (.al i) ρ = true
    · rw [if_pos k] at h
      obtain ⟨v, e1, kv⟩ := isK_al I k
      exact ⟨v, e1, kv, cA.okE I h fun rs ρ2 xs G2 H2 s2 I2 v2 h2 => goMut_go hp I2 e1 v2 h2⟩
    · rw [if_neg k] at h; exact h.elim
theorem de_mut0 (i : Nat) {x : Str} (pa : PlainAttrs T) (slot : Slot T name id) (hty : typeOf (.builtin id) = pure (.type "method_descriptor")) (hm : MtR X id r) (hp : MutOk X.K r p)
    (hN : X.N[i]? = some x := by rfl) (hv : Vis X.env.scope x := by first | exact Or.inl rfl | exact Or.inr (Or.inl rfl) | exact Or.inr (Or.inr rfl)) (hd : (x == ("__debug__" : Str)) = false := by decide)
    (hcd : (x == ("__classdict__" : Str)) = false := by decide)
    (hbase : attributeBase (.Name x npos) name X.env (eval (.Name x npos) X.env) = eval (.Name x npos) X.env := by rfl) (hline : (apos.endLine == cpos.line) = true := by rfl) :
    DE X W (.Call (.Attribute (.Name x npos) name apos) [] [] cpos) (eMut i T p aNil) :=
  iE (pe_km0 pa slot hty hm (pv i hN hv hd hcd) hbase hline) fun σ H Q ⟨H0, B, G, ρ, I, h⟩ => by
    unfold eMut at h
    by_cases k : isK T (.al i) ρ = true
    · rw [if_pos k] at h
      obtain ⟨v, e1, kv⟩ := isK_al I k
      exact ⟨v, e1, kv, goMut_go hp I e1 .nil h⟩
    · rw [if_neg k] at h; exact h.elim
end
end
end DL

/-! DL4: tests, statements, calls of defs, the whole def. -/
namespace DL
open PySem PySem.Spec PyProof.Rows L2

/-! ### tests -/
def truthD : D → Option Bool
  | .non => some false
  | .bl b => some b
  | .int i => some (i != 0)
  | .str x => if x.length ≤ 16777216 then some ((x.length : Int) != 0) else none
  | .lst ds => some (!ds.isEmpty)
  | .tup ds => some (!ds.isEmpty)
  | _ => none
def asB : ER → TR
  | .ok (.sh (.bl b)) ρ => .ok b ρ
  | .ok _ _ => .bad
  | .xc c ρ => .xc c ρ
  | .bad => .bad
def tru (r : R) (ρ : DEnv) : TR := match pk ρ r with
  | some d => match truthD d with
    | some b => .ok b ρ
    | none => .bad
  | none => .bad
def tVal (f : EM) : TM := fun ρ => asB (f ρ)
def tTruth (f : EM) : TM := fun ρ => (f ρ).toT tru
def tAndD (f g : TM) : TM := fun ρ => (f ρ).bind fun b ρ1 => if b = true then g ρ1 else .ok false ρ1
def tOrD (f g : TM) : TM := fun ρ => (f ρ).bind fun b ρ1 => if b = true then .ok true ρ1 else g ρ1
def tNotD (f : TM) : TM := fun ρ => (f ρ).bind fun b ρ1 => .ok (!b) ρ1
/-- bools as values -/
def eAndD (f g : EM) : EM := fun ρ => (f ρ).bind fun r ρ1 => match r with
  | .sh (.bl b) => if b = true then g ρ1 else .ok (.sh (.bl false)) ρ1
  | _ => .bad
def eOrD (f g : EM) : EM := fun ρ => (f ρ).bind fun r ρ1 => match r with
  | .sh (.bl b) => if b = true then .ok (.sh (.bl true)) ρ1 else g ρ1
  | _ => .bad
def eNotD (f : EM) : EM := fun ρ => (f ρ).bind fun r ρ1 => match r with
  | .sh (.bl b) => .ok (.sh (.bl (!b))) ρ1
  | _ => .bad
section
variable {X : Cx} {W : WX} {a b c e : Expr} {es : List Expr} {pos : Pos}
theorem asB_imp {K : PySem.W.Frag} {mg : Str → Option Value} {f : EM} : ∀ σ H Q, cT K mg W (tVal f) σ H Q → tB (cE K mg W f) σ H Q := fun σ H Q ⟨H0, B, G, ρ, I, h⟩ => by
  refine ⟨H0, B, G, ρ, I, ?_⟩
  unfold tVal at h
  cases q : f ρ with
  | ok r ρ1 =>
    rw [q] at h
    cases r with
    | sh d =>
      cases d with
      | bl k =>
        intro v G1 H1 s1 I1 r1
        cases r1
        exact ⟨k, rfl, h G1 H1 s1 I1⟩
      | _ => exact (show False from h).elim
    | ow d => exact (show False from h).elim
    | al i => exact (show False from h).elim
  | xc c ρ1 => rw [q] at h; exact h
  | bad => rw [q] at h; exact h
theorem dt_cmp {op : CmpOp} {r : R2} {p : D → D → PR} {fa fb : EM} (ho : OpR X (compareOp op) r) (hp : Prim2 X.K r p) (ha : DE X W a fa) (hb : DE X W b fb) (hm : behindInMarks op b = false) : DT X W (.Compare a [op] [b] pos) (tVal (eOp2 p fa fb)) :=
  iT (pt_cmpR ho ha hb hm) fun σ H Q h => op2_imp hp σ H _ (asB_imp σ H Q h)
theorem tru_go {K : PySem.W.Frag} {G H : Hp} {v : V} {d : D} {b : Bool} (r : RepT K G H v d) (m : Grow G H) (h : truthD d = some b) : TruV K v H b := by
  cases r with
  | xn => cases h
  | non => cases h; rfl
  | bl b => cases h; rfl
  | int i => cases h; rfl
  | str x =>
    dsimp only [truthD] at h
    by_cases z : x.length ≤ 16777216
    · rw [if_pos z] at h
      cases h
      exact ⟨by rw [sizeLine_eq]; exact z, rfl⟩
    · rw [if_neg z] at h; cases h
  | lst h1 h2 =>
    cases h
    refine .inl ⟨_, .inl h1, ?_⟩
    have := h2.length
    cases h2 <;> rfl
  | tup h1 h2 =>
    cases h
    refine .inr (.inl ⟨_, ((Mono.of m).seqT h1).t, ?_⟩)
    cases h2 <;> rfl
  | dct h1 h2 => cases h
  | scr h1 => cases h
theorem dt_truth {f : EM} (ha : DE X W a f) (he : ∀ whole, isTrue a X.env whole = (do let v ← whole; standAt a.pos; holding [v] (truthy v)) := by exact fun _ => rfl) : DT X W a (tTruth f) :=
  iT (pt_truth ha he) fun σ H Q ⟨H0, B, G, ρ, I, h⟩ => cE.okT I h fun r ρ1 v G1 H1 s1 I1 v1 h1 => by
    unfold tru at h1
    cases q : pk ρ1 r with
    | none => rw [q] at h1; exact h1.elim
    | some d =>
      rw [q] at h1
      dsimp only at h1
      cases q2 : truthD d with
      | none => rw [q2] at h1; exact h1.elim
      | some k =>
        rw [q2] at h1
        exact ⟨k, tru_go (v1.pk I1 q) I1.gh q2, h1 G1 H1 (Grow.refl _) I1⟩
/-- a test whose value is a bool -/
theorem dt_val {f : EM} (ha : DE X W a f) (he : ∀ whole, isTrue a X.env whole = (do let v ← whole; standAt a.pos; holding [v] (truthy v)) := by exact fun _ => rfl) : DT X W a (tVal f) := iT (pt_val ha he) asB_imp
theorem dw_and1 {f : TM} (ha : DT X W a f) : DW X W (.BoolOp .And [a] pos) f := pw_and1 ha
theorem dw_or1 {f : TM} (ha : DT X W a f) : DW X W (.BoolOp .Or [a] pos) f := pw_or1 ha
theorem dw_and {f g : TM} (ha : DT X W a f) (hb : DW X W (.BoolOp .And (b :: es) pos) g) : DW X W (.BoolOp .And (a :: b :: es) pos) (tAndD f g) :=
  iW (pw_and ha hb) fun σ H Q ⟨H0, B, G, ρ, I, h⟩ => cT.okT I h fun k ρ1 G1 H1 s1 I1 h1 => by
    cases k with
    | true => exact ⟨H0, B, G1, ρ1, I1, h1⟩
    | false => exact h1 G1 H1 (Grow.refl _) I1
theorem dw_or {f g : TM} (ha : DT X W a f) (hb : DW X W (.BoolOp .Or (b :: es) pos) g) : DW X W (.BoolOp .Or (a :: b :: es) pos) (tOrD f g) :=
  iW (pw_or ha hb) fun σ H Q ⟨H0, B, G, ρ, I, h⟩ => cT.okT I h fun k ρ1 G1 H1 s1 I1 h1 => by
    cases k with
    | false => exact ⟨H0, B, G1, ρ1, I1, h1⟩
    | true => exact h1 G1 H1 (Grow.refl _) I1
theorem dt_w {f : TM} (h : DW X W a f) : DT X W a f := PW.pt h
theorem dt_not {f : TM} (ha : DT X W a f) : DT X W (.UnaryOp .Not a pos) (tNotD f) :=
  iT (pt_not ha) fun σ H Q ⟨H0, B, G, ρ, I, h⟩ => cT.okT I h fun k ρ1 G1 H1 s1 I1 h1 => h1 G1 H1 (Grow.refl _) I1
theorem de_one {op} {f : EM} (h : DE X W a f) : DE X W (.BoolOp op [a] pos) f := pe_one h
theorem de_and {f g : EM} (ha : DE X W a f) (hb : DE X W (.BoolOp .And (b :: es) pos) g) : DE X W (.BoolOp .And (a :: b :: es) pos) (eAndD f g) :=
  iE (pe_and ha hb) fun σ H Q ⟨H0, B, G, ρ, I, h⟩ => cE.ok I h fun r ρ1 v G1 H1 _ s1 I1 v1 h1 => by
    cases r with
    | sh d =>
      cases d with
      | bl k =>
        cases v1
        cases k with
        | true => exact ⟨true, rfl, H0, B, G1, ρ1, I1, h1⟩
        | false => exact ⟨false, rfl, h1 _ G1 H1 (Grow.refl _) I1 (.bl false)⟩
      | _ => exact (show False from h1).elim
    | ow d => exact (show False from h1).elim
    | al i => exact (show False from h1).elim
theorem de_or {f g : EM} (ha : DE X W a f) (hb : DE X W (.BoolOp .Or (b :: es) pos) g) : DE X W (.BoolOp .Or (a :: b :: es) pos) (eOrD f g) :=
  iE (pe_or ha hb) fun σ H Q ⟨H0, B, G, ρ, I, h⟩ => cE.ok I h fun r ρ1 v G1 H1 _ s1 I1 v1 h1 => by
    cases r with
    | sh d =>
      cases d with
      | bl k =>
        cases v1
        cases k with
        | false => exact ⟨false, rfl, H0, B, G1, ρ1, I1, h1⟩
        | true => exact ⟨true, rfl, h1 _ G1 H1 (Grow.refl _) I1 (.bl true)⟩
      | _ => exact (show False from h1).elim
    | ow d => exact (show False from h1).elim
    | al i => exact (show False from h1).elim
theorem de_not {f : EM} (ha : DE X W a f) : DE X W (.UnaryOp .Not a pos) (eNotD f) :=
  iE (pe_not ha) fun σ H Q ⟨H0, B, G, ρ, I, h⟩ => cE.ok I h fun r ρ1 v G1 H1 _ s1 I1 v1 h1 => by
    cases r with
    | sh d =>
      cases d with
      | bl k =>
        cases v1
        exact ⟨k, rfl, h1 _ G1 H1 (Grow.refl _) I1 (.bl _)⟩
      | _ => exact (show False from h1).elim
    | ow d => exact (show False from h1).elim
    | al i => exact (show False from h1).elim
end

/-! ### statements -/
inductive SR where
  | nx (ρ : DEnv) | rt (r : R) (ρ : DEnv) | bk (ρ : DEnv) | ct (ρ : DEnv) | xc (c : Str) (ρ : DEnv) | bad
abbrev SM := DEnv → SR
def SR.bind (x : SR) (k : DEnv → SR) : SR := match x with
  | .nx ρ => k ρ
  | r => r
def ER.toS (x : ER) (k : R → DEnv → SR) : SR := match x with
  | .ok r ρ => k r ρ
  | .xc c ρ => .xc c ρ
  | .bad => .bad
def TR.toS (x : TR) (k : Bool → DEnv → SR) : SR := match x with
  | .ok r ρ => k r ρ
  | .xc c ρ => .xc c ρ
  | .bad => .bad
section
variable (K : PySem.W.Frag) (mg : Str → Option Value)
def SPost (H0 B : Hp) (W : WX) (D : Ends) : SR → Prop
  | .nx ρ' => ∀ σ' G' H', StD K H0 B G' ρ' σ' H' → D.nx σ' H'
  | .rt r ρ' => ∀ v σ' G' H', StD K H0 B G' ρ' σ' H' → VR K H0 G' ρ' σ' H' v r → D.rt v H'
  | .bk ρ' => ∀ σ' G' H', StD K H0 B G' ρ' σ' H' → D.bk σ' H'
  | .ct ρ' => ∀ σ' G' H', StD K H0 B G' ρ' σ' H' → D.ct σ' H'
  | .xc c ρ' => ∀ cls σ' G' H', StD K H0 B G' ρ' σ' H' → mg c = some cls → W cls none σ' H'
  | .bad => False
def cS (W : WX) (f : SM) : TS := fun D σ H => ∃ H0 B G ρ, StD K H0 B G ρ σ H ∧ SPost K mg H0 B W D (f ρ)
end
abbrev DS (X : Cx) (W : WX) (st : Stmt) (f : SM) : Prop := PS X st (cS X.K X.mg W f)
abbrev DSs (X : Cx) (W : WX) (st : List Stmt) (f : SM) : Prop := PSs X st (cS X.K X.mg W f)
section
variable {K : PySem.W.Frag} {mg : Str → Option Value} {H0 B G G' H : Hp} {ρ : DEnv} {W : WX} {σ : L2.St} {D : Ends}
theorem cE.okSt {f : EM} (I : StD K H0 B G ρ σ H) {k : R → DEnv → SR} (h : SPost K mg H0 B W D ((f ρ).toS k)) {R1 : VK}
    (go : ∀ r ρ1 v G1 H1, Grow G G1 → StD K H0 B G1 ρ1 σ H1 → VR K H0 G1 ρ1 σ H1 v r → SPost K mg H0 B W D (k r ρ1) → R1 v H1) : cE K mg W f σ H R1 := by
  refine ⟨H0, B, G, ρ, I, ?_⟩
  cases e : f ρ with
  | ok r ρ1 =>
    rw [e] at h
    exact fun v G1 H1 s I1 x => go r ρ1 v G1 H1 s I1 x h
  | xc c ρ1 =>
    rw [e] at h
    exact fun cls G1 H1 s I1 q => h cls σ G1 H1 I1 q
  | bad =>
    rw [e] at h
    exact h
theorem cT.okSt {f : TM} (I : StD K H0 B G ρ σ H) {k : Bool → DEnv → SR} (h : SPost K mg H0 B W D ((f ρ).toS k)) {R1 : Bool → Hp → Prop}
    (go : ∀ b ρ1 G1 H1, Grow G G1 → StD K H0 B G1 ρ1 σ H1 → SPost K mg H0 B W D (k b ρ1) → R1 b H1) : cT K mg W f σ H R1 := by
  refine ⟨H0, B, G, ρ, I, ?_⟩
  cases e : f ρ with
  | ok r ρ1 =>
    rw [e] at h
    exact fun G1 H1 s I1 => go r ρ1 G1 H1 s I1 h
  | xc c ρ1 =>
    rw [e] at h
    exact fun cls G1 H1 s I1 q => h cls σ G1 H1 I1 q
  | bad =>
    rw [e] at h
    exact h
end
def sNil : SM := fun ρ => .nx ρ
def sSeq (f g : SM) : SM := fun ρ => (f ρ).bind g
section
variable {X : Cx} {W : WX} {st : Stmt} {sts : List Stmt} {e : Expr} {pos : Pos}
theorem ds_nil : DSs X W [] sNil := iSs pss_nil fun D σ H ⟨H0, B, G, ρ, I, h⟩ => h σ G H I
theorem ds_cons {f g : SM} (h1 : DS X W st f) (h2 : DSs X W sts g) : DSs X W (st :: sts) (sSeq f g) :=
  iSs (pss_cons h1 h2) fun D σ H ⟨H0, B, G, ρ, I, h⟩ => by
    refine ⟨H0, B, G, ρ, I, ?_⟩
    unfold sSeq at h
    cases q : f ρ with
    | nx ρ1 => rw [q] at h; exact fun σ' G' H' I' => ⟨H0, B, G', ρ1, I', h⟩
    | rt r ρ1 => rw [q] at h; exact h
    | bk ρ1 => rw [q] at h; exact h
    | ct ρ1 => rw [q] at h; exact h
    | xc c ρ1 => rw [q] at h; exact h
    | bad => rw [q] at h; exact h
theorem ds_one {f : SM} (h1 : DS X W st f) : DSs X W [st] f := pss_one h1
theorem ds_pass : DS X W (.Pass pos) sNil := iS ps_pass fun D σ H ⟨H0, B, G, ρ, I, h⟩ => h σ G H I
theorem ds_doc {x j pos pos'} : DS X W (.Expr (.Constant (.str x) j pos) pos') sNil := iS ps_doc fun D σ H ⟨H0, B, G, ρ, I, h⟩ => h σ G H I
def sBreak : SM := fun ρ => .bk ρ
def sCont : SM := fun ρ => .ct ρ
theorem ds_break : DS X W (.Break pos) sBreak := iS ps_break fun D σ H ⟨H0, B, G, ρ, I, h⟩ => h σ G H I
theorem ds_continue : DS X W (.Continue pos) sCont := iS ps_continue fun D σ H ⟨H0, B, G, ρ, I, h⟩ => h σ G H I
def sExpr (f : EM) : SM := fun ρ => (f ρ).toS fun _ ρ1 => .nx ρ1
theorem ds_expr {f : EM} (he : DE X W e f) (hs : swapsWith e none pos.line X.env = pure false := by rfl) : DS X W (.Expr e pos) (sExpr f) :=
  iS (ps_expr he hs) fun D σ H ⟨H0, B, G, ρ, I, h⟩ => cE.okSt I h fun r ρ1 v G1 H1 s1 I1 v1 h1 => h1 σ G1 H1 I1
def sRet (f : EM) : SM := fun ρ => (f ρ).toS .rt
theorem ds_ret {f : EM} (he : DE X W e f) : DS X W (.Return (some e) pos) (sRet f) :=
  iS (ps_ret he) fun D σ H ⟨H0, B, G, ρ, I, h⟩ => cE.okSt I h fun r ρ1 v G1 H1 s1 I1 v1 h1 => h1 v σ G1 H1 I1 v1
def sRetN : SM := fun ρ => .rt (.sh .non) ρ
theorem ds_retN : DS X W (.Return none pos) sRetN := iS ps_retN fun D σ H ⟨H0, B, G, ρ, I, h⟩ => h _ σ G H I .non
def sIf (c : TM) (f g : SM) : SM := fun ρ => (c ρ).toS fun b ρ1 => if b = true then f ρ1 else g ρ1
theorem ds_if {c : Expr} {a b : List Stmt} {fc : TM} {f g : SM} (hc : DT X W c fc) (ha : DSs X W a f) (hb : DSs X W b g) : DS X W (.If c a b pos) (sIf fc f g) :=
  iS (ps_if hc ha hb) fun D σ H ⟨H0, B, G, ρ, I, h⟩ => cT.okSt I h fun k ρ1 G1 H1 s1 I1 h1 => by
    cases k with
    | true => exact ⟨H0, B, G1, ρ1, I1, h1⟩
    | false => exact ⟨H0, B, G1, ρ1, I1, h1⟩

/-! ### names stored -/
def asg (i : Nat) (r : R) (ρ : DEnv) : Option DEnv := match r with
  | .sh d => some (ρ.set i (.sh d))
  | .ow d => some (ρ.set i (.ow d))
  | .al j => match fz ρ (.al j) with
    | some (d, ρ') => some (ρ'.set i (.sh d))
    | none => none
theorem StD.setS {K : PySem.W.Frag} {H0 B G H : Hp} {ρ : DEnv} {σ : L2.St} (I : StD K H0 B G ρ σ H) (i : Nat) {v : V} {s : Sl} (h : SlOk K H0 G H (some v) s)
    (nx : ∀ d, s = .ow d → ∀ p, v = .ref p → ∀ (j : Nat) (e : D), ρ[j]? = some (.ow e) → σ[j]? ≠ some (some (.ref p))) : StD K H0 B G (ρ.set i s) (σ.set i (some v)) H := by
  have look : ∀ (j : Nat) (u : Sl), (ρ.set i s)[j]? = some u → (j = i ∧ u = s ∧ (σ.set i (some v))[j]? = some (some v)) ∨ (j ≠ i ∧ ρ[j]? = some u ∧ (σ.set i (some v))[j]? = σ[j]?) := fun j u e => by
    have hl : j < (ρ.set i s).length := (List.getElem?_eq_some_iff.mp e).1
    rcases set_get e with ⟨rfl, rfl⟩ | ⟨nj, e⟩
    · refine .inl ⟨rfl, rfl, ?_⟩
      rw [List.getElem?_set_self (by rw [List.length_set, I.len] at hl; exact hl)]
    · exact .inr ⟨nj, e, List.getElem?_set_ne (Ne.symm nj)⟩
  refine ⟨I.gh, I.h0, I.bg, I.nb, by rw [List.length_set, List.length_set]; exact I.len, fun j u e => ?_, fun j k d e p a b f1 f2 => ?_⟩
  · rcases look j u e with ⟨ej, eu, q⟩ | ⟨nj, e, q⟩
    · rw [q, eu]; exact h
    · rw [q]; exact I.sl j u e
  · rcases look j _ a with ⟨ej, eu, q⟩ | ⟨nj, a2, q⟩
    · rcases look k _ b with ⟨ek, eu2, q2⟩ | ⟨nk, b2, q2⟩
      · exact ej.trans ek.symm
      · rw [q] at f1
        rw [q2] at f2
        exact absurd f2 (nx d eu.symm p (Option.some.inj (Option.some.inj f1)) k e b2)
    · rcases look k _ b with ⟨ek, eu2, q2⟩ | ⟨nk, b2, q2⟩
      · rw [q] at f1
        rw [q2] at f2
        exact absurd f1 (nx e eu2.symm p (Option.some.inj (Option.some.inj f2)) j d a2)
      · rw [q] at f1
        rw [q2] at f2
        exact I.dj j k d e p a2 b2 f1 f2
theorem asg_go {K : PySem.W.Frag} {H0 B G H : Hp} {ρ ρ' : DEnv} {σ : L2.St} {i : Nat} {r : R} {v : V} (I : StD K H0 B G ρ σ H) (x : VR K H0 G ρ σ H v r) (h : asg i r ρ = some ρ') :
    ∃ G', Grow G G' ∧ StD K H0 B G' ρ' (σ.set i (some v)) H := by
  cases r with
  | sh d =>
    cases h
    exact ⟨G, Grow.refl G, I.setS i (s := .sh d) ⟨v, rfl, x⟩ fun _ z => nomatch z⟩
  | ow d =>
    cases h
    obtain ⟨p, rfl, g, h0, nx, c⟩ := x
    refine ⟨G, Grow.refl G, I.setS i (s := .ow d) ⟨p, rfl, g, h0, c⟩ fun _ _ q e => ?_⟩
    cases e
    exact nx
  | al j =>
    unfold asg at h
    cases q : fz ρ (.al j) with
    | none => simp only [q] at h; cases h
    | some z =>
      obtain ⟨d, ρ2⟩ := z
      simp only [q] at h
      cases h
      obtain ⟨G', s, I', rp⟩ := VR.fz I x q
      exact ⟨G', s, I'.setS i (s := .sh d) ⟨v, rfl, rp⟩ fun _ z => nomatch z⟩
def goSet (i : Nat) (r : R) (ρ : DEnv) : SR := match asg i r ρ with
  | some ρ' => .nx ρ'
  | none => .bad
def sSet (i : Nat) (f : EM) : SM := fun ρ => (f ρ).toS (goSet i)
theorem goSet_go {K : PySem.W.Frag} {mg : Str → Option Value} {H0 B G H : Hp} {ρ : DEnv} {σ : L2.St} {D : Ends} {i : Nat} {r : R} {v : V} (I : StD K H0 B G ρ σ H) (x : VR K H0 G ρ σ H v r) (h : SPost K mg H0 B W D (goSet i r ρ)) : D.nx (σ.set i (some v)) H := by
  unfold goSet at h
  cases q : asg i r ρ with
  | none => rw [q] at h; exact h.elim
  | some ρ' =>
    rw [q] at h
    obtain ⟨G', s, I'⟩ := asg_go I x q
    exact h _ G' H I'
theorem ds_set (i : Nat) {x : Str} {f : EM} {pos' : Pos} (hN : X.N.Nodup) (he : DE X W e f) (hi : X.N[i]? = some x := by rfl) (hx : Loc X.env.scope x := by first | exact Or.inl rfl | exact Or.inr rfl) (hs : swapsWith e (some (.Name x pos')) pos.line X.env = pure false := by rfl)
    (hf : X.fn x = true ∨ X.env.scope.names.lookup x = some .local := by first | exact .inl rfl | exact .inr rfl | assumption) : DS X W (.Assign [.Name x pos'] e pos) (sSet i f) :=
  iS (ps_set hN hi hx he hs hf) fun D σ H ⟨H0, B, G, ρ, I, h⟩ => cE.okSt I h fun r ρ1 v G1 H1 s1 I1 v1 h1 => goSet_go I1 v1 h1

/-! ### raise -/
def sRaise (c : Str) : SM := fun ρ => .xc c ρ
theorem ds_raise {C : Addr} {x m : Str} {j : Nat} {p p2 pos pos2 : Pos} {newId initId : String} {bmB : List Value} (hc : X.calm = true) (tk : Takes X W) (F : ExcBaseFacts B newId initId bmB) (q : PySem.W.excIn X.K C bmB newId = true) (gC : X.mg x = some (.ref C)) (kC : PySem.W.keepIn X.K (.ref C) = true) (r : Raises X (.ref C)) (hg : Gl X x)
    (hdb : (x == ("__debug__" : Str)) = false := by decide) : DS X W (.Raise (some (.Call (.Name x p) [.Constant (.str m) j p2] [] pos2)) none pos) (sRaise x) :=
  iS (ps_raise hc tk (pmk_own F q gC kC r hg hdb)) fun D σ H ⟨H0, B, G, ρ, I, h⟩ => h _ σ G H I gC
end

/-! ### defs -/
inductive FR where
  | sh (d : D) | ow (d : D) | xc (c : Str) | bad
def FR.er (ρ : DEnv) : FR → ER
  | .sh d => .ok (.sh d) ρ
  | .ow d => .ok (.ow d) ρ
  | .xc c => .xc c ρ
  | .bad => .bad
section
variable (K : PySem.W.Frag) (mg : Str → Option Value)
/-- behind a call: what the caller's own cells know of the new heap -/
structure Aft (B H G' H' : Hp) : Prop where
  hh : Sm B H H'
  bg : Grow B G'
  gh : Grow G' H'
  new : ∀ a o, G' a = some o → B a = none → H a = none
def FPost (B H : Hp) (Q : VK) (E : XK) : FR → Prop
  | .sh d => ∀ v G' H', Aft B H G' H' → Rep K G' v d → Q v H'
  | .ow d => ∀ p G' H', Aft B H G' H' → G' p = none → H p = none → Cell K G' H' p d → Q (.ref p) H'
  | .xc c => ∀ cls G' H', Aft B H G' H' → mg c = some cls → E cls none H'
  | .bad => False
def spOf (n : Nat) (m : List D → FR) : Sp := fun vs H Q E => ∃ B ds, ds.length = n ∧ Grow B H ∧ RepAll K B vs ds ∧ FPost K mg B H Q E (m ds)
end
section
variable {K : PySem.W.Frag} {mg : Str → Option Value} {H0 B G G' H H' : Hp} {ρ : DEnv} {σ : L2.St}
theorem StD.after (I : StD K H0 B G ρ σ H) (a : Aft G H G' H') : StD K H0 B G' ρ σ H' := by
  have gn : ∀ p o, G p = none → H p = some o → G' p = none := fun p o g h => by
    cases q : G' p with
    | none => rfl
    | some u =>
      have := a.new p u q g
      rw [h] at this
      cases this
  have h0' : Sm B H0 H' := ⟨I.h0.m.trans a.hh.m, fun b o e n => a.hh.own b o (I.h0.own b o e n) (by
    cases q : G b with
    | none => rfl
    | some u =>
      have := I.nb b u q n
      rw [e] at this
      cases this)⟩
  refine ⟨a.gh, h0', I.bg.trans a.bg, fun b o e n => ?_, I.len, fun i s e => ?_, I.dj⟩
  · cases q : G b with
    | some u => exact I.nb b u q n
    | none => exact I.h0.free (a.new b o e q)
  · have x := I.sl i s e
    cases s with
    | un => trivial
    | sh d => obtain ⟨v, e1, r⟩ := x; exact ⟨v, e1, r.mono (Mono.of a.bg)⟩
    | ow d =>
      obtain ⟨p, e1, g, h0, c⟩ := x
      obtain ⟨o, ho⟩ := c.there
      exact ⟨p, e1, gn p o g ho, h0, c.mono (Mono.of a.bg) (by rw [ho]; exact a.hh.own _ _ ho g)⟩
end
def goCall (n : Nat) (m : List D → FR) (rs : List R) (ρ : DEnv) : ER := match fzs ρ rs with
  | some (ds, ρ2) => if ds.length = n then (m ds).er ρ2 else .bad
  | none => .bad
def eCall (n : Nat) (m : List D → FR) (fa : AM) : EM := fun ρ => (fa ρ).toE (goCall n m)
section
variable {X : Cx} {W : WX} {e : Expr} {es : List Expr} {pos : Pos}
theorem de_call {k n : Nat} {f : Addr} {fd : FuncData} {ps : List Str} {m : List D → FR} {x : Str} {p : Pos} {fa : AM} (F : FnOk X.prog X.w X.K X.mg X.base (L2.CX X.prog X.w) k f fd ps (spOf X.K X.mg n m)) (tk : Takes X W) (hr : Room k X.A) (hg : Gl X x) (hm : X.mg x = some (.ref f))
    (hk : PySem.W.keepIn X.K (.ref f) = true) (hb : Binds X.K fd ps []) (ha : DA X W (e :: es) fa) (hdb : (x == ("__debug__" : Str)) = false := by decide) (he : starEach (e :: es) X.env = (false, eval e X.env) :: starEach es X.env := by rfl)
    (hpl : (backTo pos (starEach es X.env)).any (·.1) = false := by rfl) : DE X W (.Call (.Name x p) (e :: es) [] pos) (eCall n m fa) :=
  iE (pe_callS (E := WE W) F hr hg hm hk hb (fun σ => passAt tk σ) ha hdb he hpl) fun σ H Q ⟨H0, B, G, ρ, I, h⟩ => cA.okE I h fun rs ρ1 xs G1 H1 s1 I1 v1 h1 => by
    unfold goCall at h1
    cases q : fzs ρ1 rs with
    | none => rw [q] at h1; exact h1.elim
    | some z =>
      obtain ⟨ds, ρ2⟩ := z
      rw [q] at h1
      dsimp only at h1
      by_cases hl : ds.length = n
      · rw [if_pos hl] at h1
        obtain ⟨G2, s2, I2, r2⟩ := v1.fzs I1 q
        have h1 := EPost.mono h1 s2
        refine ⟨G2, ds, hl, I2.gh, r2, ?_⟩
        cases q2 : m ds with
        | sh d =>
          rw [q2] at h1
          exact fun v G' H' a r => h1 v G' H' a.bg (I2.after a) r
        | ow d =>
          rw [q2] at h1
          exact fun p G' H' a g hp c => h1 _ G' H' a.bg (I2.after a) ⟨p, rfl, g, I2.h0.free hp, I2.notown hp, c⟩
        | xc c =>
          rw [q2] at h1
          exact fun cls G' H' a e => h1 cls G' H' a.bg (I2.after a) e
        | bad => rw [q2] at h1; exact h1
      · rw [if_neg hl] at h1; exact h1.elim
end
def fin : SR → FR
  | .nx _ => .sh .non
  | .rt r ρ => (match r with
    | .sh d => .sh d
    | .ow d => .ow d
    | .al i => match ρ[i]? with
      | some (.ow d) => .ow d
      | some (.sh d) => .sh d
      | _ => .bad)
  | .xc c _ => .xc c
  | _ => .bad
/-- a def with L slots, run -/
def runF (L : Nat) (body : SM) (ds : List D) : FR := fin (body (ds.map .sh ++ List.replicate (L - ds.length) .un))
section
variable {P : Program} {w : World} {K : PySem.W.Frag} {mg : Str → Option Value} {base : Heap}
theorem StD.entry {B H : Hp} {vs : List V} {ds : List D} {N : List Str} (s : Grow B H) (r : RepAll K B vs ds) : StD K H B B (ds.map .sh ++ List.replicate (N.length - ds.length) .un) (L2.start N vs) H := by
  have hl := r.length
  have look : ∀ (i : Nat) (u : Sl), (ds.map Sl.sh ++ List.replicate (N.length - ds.length) Sl.un)[i]? = some u → u = .un ∨ ∃ d, ds[i]? = some d ∧ u = .sh d := fun i u e => by
    by_cases h : i < ds.length
    · rw [List.getElem?_append_left (by rw [List.length_map]; exact h), List.getElem?_map] at e
      cases q : ds[i]? with
      | none => rw [q] at e; cases e
      | some d => rw [q] at e; exact .inr ⟨d, rfl, (Option.some.inj e).symm⟩
    · rw [List.getElem?_append_right (by rw [List.length_map]; omega)] at e
      have := List.mem_of_getElem? e
      exact .inl (List.eq_of_mem_replicate this)
  refine ⟨s, Sm.refl B H, Grow.refl B, fun a o e n => ?_, ?_, fun i u e => ?_, fun i j d e p a b => ?_⟩
  · rw [n] at e; cases e
  · unfold L2.start
    simp only [List.length_append, List.length_map, List.length_replicate, hl]
  · rcases look i u e with rfl | ⟨d, q, rfl⟩
    · trivial
    · obtain ⟨v, hv, rv⟩ := r.get q
      refine ⟨v, ?_, rv⟩
      have hi : i < vs.length := (List.getElem?_eq_some_iff.mp hv).1
      unfold L2.start
      rw [List.getElem?_append_left (by rw [List.length_map]; exact hi), List.getElem?_map, hv]
      rfl
  · rcases look i _ a with z | ⟨_, _, z⟩ <;> cases z
theorem fn_ok {x qual : Str} {st : Stmt} {f : Addr} {fd : FuncData} {N ps : List Str} {k L n : Nat} {body : SM} (F : Fun K x qual st f fd) (S : FnScope N ps (defScope st)) (hL : N.length = L := by rfl) (hn : ps.length = n := by rfl)
    (hb : ∀ (cdv : Value) (A : Around) (outer : List Env) (s : Shared) (H : Hp) (E : XK), Room k (A.deeper (envOfC qual (defScope st) s.heap.objs.size f cdv)) →
      DSs (cxOf (L2.CX P w) P w K mg base N qual (defScope st) f cdv A outer s H E) (fun cls d _ H => E cls d H) (defBody st) body) : FnOk P w K mg base (L2.CX P w) (k + 1) f fd ps (spOf K mg n (runF L body)) := by
  subst hL hn
  refine F.okX S (fun vs H Q E ⟨B, ds, hl, _, r, _⟩ => by rw [r.length, hl]) fun cdv A outer s H vs Q E hr hsp => ?_
  obtain ⟨B, ds, hl, sb, r, fp⟩ := hsp
  refine ⟨_, hb cdv A outer s H E hr, H, B, B, _, StD.entry (N := N) sb r, ?_⟩
  have aft : ∀ {G' : Hp} {ρ' : DEnv} {σ' : L2.St} {H' : Hp}, StD K H B G' ρ' σ' H' → Aft B H G' H' := fun I => ⟨I.h0, I.bg, I.gh, I.nb⟩
  unfold runF at fp
  show SPost K mg H B _ _ (body (ds.map Sl.sh ++ List.replicate (N.length - ds.length) Sl.un))
  cases q : body (ds.map Sl.sh ++ List.replicate (N.length - ds.length) Sl.un) with
  | nx ρ' => rw [q] at fp; exact fun σ' G' H' I => fp _ G' H' (aft I) .non
  | rt r ρ' =>
    rw [q] at fp
    intro v σ' G' H' I x
    cases r with
    | sh d => exact fp v G' H' (aft I) x
    | ow d =>
      obtain ⟨p, rfl, g, h0, _, c⟩ := x
      exact fp p G' H' (aft I) g h0 c
    | al i =>
      dsimp only [fin] at fp
      have x' : σ'[i]? = some (some v) := x
      cases q2 : ρ'[i]? with
      | none => simp only [q2] at fp; exact fp.elim
      | some sl =>
        simp only [q2] at fp
        cases sl with
        | un => exact fp.elim
        | sh d =>
          obtain ⟨v2, e1, rp⟩ := I.sh q2
          rw [x'] at e1
          cases e1
          exact fp v G' H' (aft I) rp
        | ow d =>
          obtain ⟨p, e1, g, h0, c⟩ := I.ow q2
          rw [x'] at e1
          cases e1
          exact fp p G' H' (aft I) g h0 c
  | bk ρ' => rw [q] at fp; exact fp.elim
  | ct ρ' => rw [q] at fp; exact fp.elim
  | xc c ρ' => rw [q] at fp; exact fun cls σ' G' H' I e => fp cls G' H' (aft I) e
  | bad => rw [q] at fp; exact fp
end
end DL

/-! DL5: primitives: operators, comparisons, subscripts, slices, built-ins, methods. -/
namespace DL
open PySem PySem.Spec PyProof.Rows L2

theorem line16 : (16777216 : Nat) = sizeLine := sizeLine_eq.symm
instance {i j : Int} : Decidable (CMul i j) := by unfold CMul; infer_instance
instance {i j : Int} : Decidable (CMulW i j) := by unfold CMulW; infer_instance
instance {i j : Int} : Decidable (CDivW i j) := by unfold CDivW; infer_instance
instance {i j : Int} : Decidable (CPow i j) := by unfold CPow; infer_instance

section
variable {K : PySem.W.Frag} {G H : Hp} {X : Cx}
/-! ### new tuples, laid with their object -/
theorem Inv.layT {pins : List (Addr × Obj)} {σ : L2.St} {s : Shared} {xs : List V} {us : List Value} (I : Inv X pins σ H s) (r : Vals xs us) (z : xs.length ≤ sizeLine) (tk : Nat) :
    Inv X pins σ (upd H s.heap.objs.size (.frz { cls := .type "tuple", data := .seq us.toArray } (.tup xs))) { s with heap := s.heap.push { cls := .type "tuple", data := .seq us.toArray }, toks := tk } :=
  I.laid (t' := tk) (fun b u e => Heap.get?_push_of_some _ e) (Nat.le_refl _) ⟨Heap.get?_push_size _ rfl, z, us, r, ⟨_, Heap.get?_push_size _ rfl, rfl, _, rfl⟩⟩
def rCatP (K : PySem.W.Frag) : R2 := fun x y H Q => ∃ a b xs ys, x = .ref a ∧ y = .ref b ∧ SqT K H a xs ∧ SqT K H b ys ∧ xs.length + ys.length ≤ sizeLine ∧
  (xs = [] → Q (.ref b) H) ∧ (xs ≠ [] → ys = [] → Q (.ref a) H) ∧ (xs ≠ [] → ys ≠ [] → ∀ p o, H p = none → PlT o → Q (.ref p) (upd H p (.frz o (.tup (xs ++ ys)))))
theorem op_catP : OpR X (binaryOp .Add) (rCatP X.K) := by
  intro pins s σ H x y v u Q I rx ry h
  obtain ⟨a, b, xs, ys, rfl, rfl, ha, hb, hz, q0, q1, q2⟩ := h
  cases rx
  cases ry
  obtain ⟨its, r1, p1, _⟩ := I.tuple ha
  obtain ⟨its2, r2, p2, _⟩ := I.tuple hb
  by_cases hx : xs = []
  · subst hx
    cases r1
    exact cat_tup0 p1 p2 ⟨.ref b, H, I, rfl, q0 rfl⟩
  · refine HT.cat_tup p1 p2 (fun z => hx (r1.nil_iff.mp z)) (fun z => ⟨.ref a, H, I, rfl, q1 hx (r2.nil_iff.mp z)⟩) (fun z => ?_) (by rw [← r1.length, ← r2.length]; exact hz)
    exact ⟨.ref s.heap.objs.size, _, Inv.layT I (r1.append r2) (by rw [List.length_append]; exact hz) s.toks, rfl, q2 hx (fun w => z (r2.nil_iff.mpr w)) _ _ (I.hok.fresh (Nat.le_refl _)) ⟨rfl, rfl⟩⟩
def rSlP (K : PySem.W.Frag) : V → Option Int → Option Int → Hp → VK → Prop := fun x lo hi H Q => ∃ a xs, x = .ref a ∧ SqT K H a xs ∧
  (HT.sIx xs.length 0 lo = 0 ∧ HT.sIx xs.length xs.length hi = xs.length → Q (.ref a) H) ∧ (¬ (HT.sIx xs.length 0 lo = 0 ∧ HT.sIx xs.length xs.length hi = xs.length) → ∀ p o, H p = none → PlT o → Q (.ref p) (upd H p (.frz o (.tup (cutV xs lo hi)))))
theorem sl_tupP : SlR X (rSlP X.K) := by
  intro pins s σ H x v vl vu lo hi sl Q I rx hs pl pu h
  obtain ⟨a, xs, rfl, hx, q1, q2⟩ := h
  cases rx
  obtain ⟨its, r, ht, hz⟩ := I.tuple hx
  have hlen : its.toArray.size = xs.length := by rw [List.size_toArray]; exact r.length.symm
  by_cases hw : HT.sIx xs.length 0 lo = 0 ∧ HT.sIx xs.length xs.length hi = xs.length
  · refine ⟨"tuple", _, PyProof.Rows.slot_tuple_getitem.lookup, ht.typeIs, ?_⟩
    exact getItem_tuple_whole ht hs pl pu (by rw [hlen]; exact hw) ⟨.ref a, H, I, rfl, q1 hw⟩
  · refine ⟨"tuple", _, PyProof.Rows.slot_tuple_getitem.lookup, ht.typeIs, ?_⟩
    refine HT.getItem_tuple_cut ht hs pl pu (by rw [hlen]; exact hw) ?_ (by rw [hlen]; exact hz)
    rw [hlen]
    exact ⟨.ref s.heap.objs.size, _, Inv.layT I ((r.drop (HT.sIx xs.length 0 lo)).take (HT.sIx xs.length xs.length hi - HT.sIx xs.length 0 lo)) (Nat.le_trans (cutV_length xs lo hi) hz) s.toks, rfl, q2 hw _ _ (I.hok.fresh (Nat.le_refl _)) ⟨rfl, rfl⟩⟩
def rTupP (K : PySem.W.Frag) : List V → Hp → VK → Prop := fun xs H Q => ∃ p ys, xs = [.ref p] ∧ ((SqL K H p ys ∧ ∀ l o, H l = none → PlT o → Q (.ref l) (upd H l (.frz o (.tup ys)))) ∨ (SqT K H p ys ∧ Q (.ref p) H))
theorem call_tupP : CallR X (.type "tuple") (rTupP X.K) := by
  intro pins s σ H xs us Q I r h
  obtain ⟨p, ys, rfl, h⟩ := h
  obtain ⟨u, rfl, rx⟩ := vals1 r
  cases rx
  rcases h with ⟨hq, q⟩ | ⟨hq, q⟩
  · obtain ⟨its, r', pl, hz⟩ := I.list hq
    have hlen := r'.length
    refine call_tuple_list pl.isList (fun h' kp => ?_) (by simp only [List.size_toArray] <;> omega)
    have I1 : Inv X pins σ H { s with heap := h' } := I.kept (t' := s.toks) kp
    exact ⟨.ref h'.objs.size, _, Inv.layT I1 r' hz s.toks, rfl, q _ _ (I1.hok.fresh (Nat.le_refl _)) ⟨rfl, rfl⟩⟩
  · obtain ⟨its, r', pl, hz⟩ := I.tuple hq
    exact call_tuple_same pl ⟨.ref p, H, I, rfl, q⟩
def rDivmodP : List V → Hp → VK → Prop := fun xs H Q => ∃ i j, xs = [.int i, .int j] ∧ CDivW i j ∧ ∀ p o, H p = none → PlT o → Q (.ref p) (upd H p (.frz o (.tup [.int (i / j), .int (i % j)])))
theorem call_divmodP : CallR X (.builtin "divmod") rDivmodP := by
  intro pins s σ H xs us Q I r h
  obtain ⟨i, j, rfl, ⟨h1, h2⟩, q⟩ := h
  obtain ⟨u, w', rfl, ⟨t, rfl⟩, ⟨t', rfl⟩⟩ := vals2 r
  refine divmod_int (by omega) ?_ (.inl (PyProof.noPylong_of_log2 h2))
  rw [Int.fdiv_eq_ediv_of_nonneg i (by omega), Int.fmod_eq_emod_of_nonneg i (by omega)]
  have hn : H s.heap.objs.size = none := I.hok.fresh (Nat.le_refl _)
  exact ⟨.ref s.heap.objs.size, _, Inv.layT (xs := [.int (i / j), .int (i % j)]) (us := [.int (i / j) s.toks, .int (i % j) (s.toks + 1)]) I (.cons ⟨_, rfl⟩ (.cons ⟨_, rfl⟩ .nil)) (by simp only [List.length_cons, List.length_nil]; rw [sizeLine_eq]; decide) (s.toks + 1 + 1), rfl, q _ _ hn ⟨rfl, rfl⟩⟩

/-! ### lists, read wherever they stand -/
theorem rd_list {pins : List (Addr × Obj)} {σ : L2.St} {s : Shared} {a : Addr} {xs : List V} (I : Inv X pins σ H s) (h : Rd H a (.lst xs)) :
    xs.length ≤ sizeLine ∧ ∃ (its : List Value) (n : Nat), Vals xs its ∧ xs.length = its.length ∧ s.heap.get? a = some { cls := .type "list", data := .seq its.toArray n } := by
  obtain ⟨z, its, n, r, e⟩ := h.ok I.hok
  exact ⟨z, its, n, r, r.length, e⟩
def rCatL : R2 := fun x y H Q => ∃ l b xs zs, x = .ref l ∧ y = .ref b ∧ Rd H l (.lst xs) ∧ Rd H b (.lst zs) ∧ xs.length + zs.length ≤ sizeLine ∧ ∀ p, H p = none → Q (.ref p) (upd H p (.lst (xs ++ zs)))
theorem op_catL : OpR X (binaryOp .Add) rCatL := by
  intro pins s σ H x y v u Q I rx ry h
  obtain ⟨l, b, xs, zs, rfl, rfl, hH, hB, hz, q⟩ := h
  cases rx
  cases ry
  obtain ⟨z, its, n, r, hl, e⟩ := rd_list I hH
  obtain ⟨z2, its2, n2, r2, hl2, e2⟩ := rd_list I hB
  refine PySem.P.add_list e e2 ?_ (by rw [List.size_toArray, List.size_toArray]; omega)
  have ea : its.toArray ++ its2.toArray = (its ++ its2).toArray := by simp
  rw [ea]
  exact ⟨.ref _, _, I.lnew (t' := s.toks) (r.append r2) (by rw [List.length_append]; omega), rfl, q _ I.fresh⟩
def rRepL : R2 := fun x y H Q => ∃ l k xs, x = .ref l ∧ y = .int k ∧ Rd H l (.lst xs) ∧ -(2 ^ 63) ≤ k ∧ k < 2 ^ 63 ∧ xs.length * k.toNat ≤ sizeLine ∧
  ∀ p, H p = none → Q (.ref p) (upd H p (.lst (List.replicate k.toNat xs).flatten))
theorem op_repL : OpR X (binaryOp .Mult) rRepL := by
  intro pins s σ H x y v u Q I rx ry h
  obtain ⟨l, k, xs, rfl, rfl, hH, h1, h2, hz, q⟩ := h
  cases rx
  obtain ⟨t, rfl⟩ := ry
  obtain ⟨z, its, n, r, hl, e⟩ := rd_list I hH
  have hlen : its.toArray.size * k.toNat ≤ sizeLine := by rw [List.size_toArray, ← hl]; exact hz
  have hcap : ¬ its.toArray.size * k.toNat > (2 ^ 63 - 1) / 8 := by
    have : (sizeLine : Nat) ≤ (2 ^ 63 - 1) / 8 := by decide
    omega
  have hfit : ¬ (!Builtin.List.listFitsIndex k) = true := by
    rw [fitsIndex_both h1 h2]
    exact Bool.false_ne_true
  have hlong : ¬ Builtin.List.listTooLong (its.toArray.size * k.toNat) = true := by
    rw [notLongL hlen]
    exact Bool.false_ne_true
  have hnew : List.foldl (fun x1 x2 => x1 ++ x2) #[] (List.replicate (if its.toArray.isEmpty = true then 0 else k.toNat) its.toArray) = (List.replicate k.toNat its).flatten.toArray := by
    have f0 : ∀ m : Nat, List.foldl (fun x1 x2 => x1 ++ x2) #[] (List.replicate m its.toArray) = (List.replicate m its).flatten.toArray := fun m => by
      have := foldl_rep its m []
      rw [List.nil_append] at this
      exact this
    rw [f0]
    cases its with
    | nil => simp
    | cons a r' => rw [if_neg (by simp)]
  refine wpAny_binaryOp_repeat_ref (T := "list") (U := "int") (by decide) ⟨_, e, rfl⟩ (fun s' => typeIs_int s' k t) noFill_list_mul F.fills_int_mul F.slot_int_rmul repeat_list F.slot_int_index.lookup
    (call_meets F.slot_int_rmul (typeIs_int s k t) F.entry_int_rmul (F.args_int_rmul_2 _ _) (int___rmul___int_list k t l its.toArray n)
      ⟨e, rfl, ⟨_, e, rfl⟩, call_meets F.slot_list_mul ⟨_, e, rfl⟩ F.entry_list_mul (F.args_list_mul_2 _ _) (AutoListH.list___mul___list_int_3 l its.toArray n k t hfit hcap hlong) ⟨e, ?_⟩⟩)
  rw [hnew]
  exact ⟨.ref _, _, I.lnew (t' := s.toks) (r.rep k.toNat) (by rw [PyProof.Rows.lm_len_rep_flat, Nat.mul_comm]; exact hz), rfl, q _ I.fresh⟩
/-- a text times an int -/
def repS (x : Str) (n : Int) : Str := ⟨(List.replicate n.toNat x.cps.toList).flatten.toArray⟩
theorem repS_fold (x : Str) : ∀ (k : Nat) (acc : Array Nat), (List.replicate k x.cps).foldl (· ++ ·) acc = acc ++ (List.replicate k x.cps.toList).flatten.toArray
  | 0, acc => by simp
  | k + 1, acc => by
    rw [List.replicate_succ, List.foldl_cons, repS_fold x k, List.replicate_succ, List.flatten_cons]
    apply Array.ext'
    simp
def rRepS : R2 := fun x y H Q => ∃ z k, x = .str z ∧ y = .int k ∧ -(2 ^ 63) ≤ k ∧ k < 1000000 ∧ z.length * k.toNat ≤ 16777216 ∧ Q (.str (repS z k)) H
theorem op_repS : OpR X (binaryOp .Mult) rRepS := by
  intro pins s σ H x y v u Q I rx ry h
  obtain ⟨z, k, rfl, rfl, h1, h2, hz, q⟩ := h
  obtain ⟨t, rfl⟩ := rx
  obtain ⟨t', rfl⟩ := ry
  have hl : z.length ≤ 16777216 ∨ k.toNat = 0 := by
    rcases Nat.eq_zero_or_pos k.toNat with e | e
    · exact .inr e
    · exact .inl (Nat.le_trans (Nat.le_mul_of_pos_right _ e) hz)
  refine PySem.P.mul_str (by
      rw [decide_eq_false (by omega), decide_eq_false (by omega)]; rfl) (fun h3 _ => ?_) (fun h3 _ => ?_) ?_
  · have hk : 1 ≤ k := by omega
    have : (z.length : Int) ≤ 16777216 := by omega
    have h5 : (9223372036854775807 : Int) / 1000000 ≤ (2 ^ 63 - 1) / k := by
      apply Int.le_ediv_of_mul_le (by omega)
      omega
    omega
  · unfold Builtin.Str.tooLong
    rw [decide_eq_false]
    rw [sizeLine_eq]
    omega
  · by_cases h3 : k < 1
    · rw [if_pos h3]
      have e0 : k.toNat = 0 := by omega
      have e : repS z k = Str.empty := by
        unfold repS
        rw [e0]
        rfl
      rw [e] at q
      exact ⟨by decide, .str _, H, I.tok _, ⟨_, rfl⟩, q⟩
    · rw [if_neg h3]
      by_cases h4 : (k == 1 || z.length == 0) = true
      · rw [if_pos h4]
        have e : repS z k = z := by
          unfold repS
          simp only [Bool.or_eq_true, beq_iff_eq] at h4
          rcases h4 with h4 | h4
          · subst h4
            obtain ⟨c⟩ := z
            simp
          · obtain ⟨c⟩ := z
            have : c = #[] := Array.eq_empty_of_size_eq_zero h4
            subst this
            simp
        rw [e] at q
        exact ⟨.str _, H, I, ⟨_, rfl⟩, q⟩
      · rw [if_neg h4]
        have e : (⟨(List.replicate k.toNat z.cps).foldl (· ++ ·) #[]⟩ : Str) = repS z k := by
          rw [repS_fold]
          unfold repS
          simp
        rw [e]
        refine ⟨?_, .str _, H, I.tok _, ⟨_, rfl⟩, q⟩
        show (repS z k).length ≤ sizeLine
        unfold repS
        show (List.replicate k.toNat z.cps.toList).flatten.toArray.size ≤ sizeLine
        rw [List.size_toArray, PyProof.Rows.lm_len_rep_flat, sizeLine_eq, Array.length_toList, Nat.mul_comm]
        exact hz
end
end DL

/-! DL6: the primitives over data. -/
namespace DL
open PySem PySem.Spec PyProof.Rows L2
section
variable {K : PySem.W.Frag} {X : Cx}

/-! ### + - * // % << ** -/
def rAddA (K : PySem.W.Frag) : R2 := fun x y H Q => (∃ i j, x = .int i ∧ y = .int j ∧ Q (.int (i + j)) H) ∨ (∃ i j, x = .str i ∧ y = .str j ∧ i.length + j.length ≤ sizeLine ∧ Q (.str (i ++ j)) H) ∨ rCatL x y H Q ∨ rCatP K x y H Q
theorem op_addA : OpR X (binaryOp .Add) (rAddA X.K) := OpR.or op_add (OpR.or op_add_str (OpR.or op_catL op_catP))
def pAdd : D → D → PR
  | .int i, .int j => .v (.int (i + j))
  | .str x, .str y => if x.length + y.length ≤ 16777216 then .v (.str (x ++ y)) else .bad
  | .lst a, .lst b => if a.length + b.length ≤ 16777216 then .nl (a ++ b) else .bad
  | .tup a, .tup b => if a.length + b.length ≤ 16777216 then .t (a ++ b) else .bad
  | _, _ => .bad
theorem p_add : Prim2 K (rAddA K) pAdd := by
  intro G H x y d e Q m rx ry h
  cases rx with
  | int i => cases ry with
    | int j => exact .inl ⟨i, j, rfl, rfl, h _ (.int _)⟩
    | _ => exact h.elim
  | str i => cases ry with
    | str j =>
      dsimp only [pAdd] at h
      by_cases z : i.length + j.length ≤ 16777216
      · rw [if_pos z] at h
        exact .inr (.inl ⟨i, j, rfl, rfl, by rw [sizeLine_eq]; exact z, h _ (.str _)⟩)
      · rw [if_neg z] at h; exact h.elim
    | _ => exact h.elim
  | lst h1 r1 => cases ry with
    | lst h2 r2 =>
      dsimp only [pAdd] at h
      rename_i a vs ds b ws es
      by_cases z : ds.length + es.length ≤ 16777216
      · rw [if_pos z] at h
        exact .inr (.inr (.inl ⟨a, b, _, _, rfl, rfl, h1, h2, by rw [sizeLine_eq, r1.length, r2.length]; exact z, fun p hp => h p _ hp (r1.append r2)⟩))
      · rw [if_neg z] at h; exact h.elim
    | _ => exact h.elim
  | tup h1 r1 => cases ry with
    | tup h2 r2 =>
      dsimp only [pAdd] at h
      rename_i a vs ds b ws es
      by_cases z : ds.length + es.length ≤ 16777216
      · rw [if_pos z] at h
        refine .inr (.inr (.inr ⟨a, b, _, _, rfl, rfl, ((Mono.of m).seqT h1).t, ((Mono.of m).seqT h2).t, by rw [sizeLine_eq, r1.length, r2.length]; exact z, fun e => ?_, fun _ e => ?_, fun _ _ p o hp pl => h.2 p o _ hp pl (r1.append r2)⟩))
        · subst e
          cases r1
          exact h.1 _ (.tup h2 r2)
        · subst e
          cases r2
          exact h.1 _ (.tup h1 (by rw [List.append_nil]; exact r1))
      · rw [if_neg z] at h; exact h.elim
    | _ => exact h.elim
  | _ => exact h.elim
def pSub : D → D → PR
  | .int i, .int j => .v (.int (i - j))
  | _, _ => .bad
theorem p_sub : Prim2 K (rI0 fun i j => .int (i - j)) pSub := by
  intro G H x y d e Q m rx ry h
  cases rx with
  | int i => cases ry with
    | int j => exact ⟨i, j, rfl, rfl, h _ (.int _)⟩
    | _ => exact h.elim
  | _ => exact h.elim
def rMulA : R2 := fun x y H Q => rI (fun i j => CMul i j) (fun i j => .int (i * j)) x y H Q ∨ rI (fun i j => CMulW i j) (fun i j => .int (i * j)) x y H Q ∨ rRepS x y H Q ∨ rRepL x y H Q
theorem op_mulA : OpR X (binaryOp .Mult) rMulA := OpR.or op_mul (OpR.or op_mulW (OpR.or op_repS op_repL))
def pMul : D → D → PR
  | .int i, .int j => if CMul i j ∨ CMulW i j then .v (.int (i * j)) else .bad
  | .str x, .int k => if -(2 ^ 63) ≤ k ∧ k < 1000000 ∧ x.length * k.toNat ≤ 16777216 then .v (.str (repS x k)) else .bad
  | .lst a, .int k => if -(2 ^ 63) ≤ k ∧ k < 2 ^ 63 ∧ a.length * k.toNat ≤ 16777216 then .nl (List.replicate k.toNat a).flatten else .bad
  | _, _ => .bad
theorem p_mul : Prim2 K rMulA pMul := by
  intro G H x y d e Q m rx ry h
  cases rx with
  | int i => cases ry with
    | int j =>
      dsimp only [pMul] at h
      by_cases z : CMul i j ∨ CMulW i j
      · rw [if_pos z] at h
        rcases z with z | z
        · exact .inl ⟨i, j, rfl, rfl, z, h _ (.int _)⟩
        · exact .inr (.inl ⟨i, j, rfl, rfl, z, h _ (.int _)⟩)
      · rw [if_neg z] at h; exact h.elim
    | _ => exact h.elim
  | str i => cases ry with
    | int k =>
      dsimp only [pMul] at h
      by_cases z : -(2 ^ 63) ≤ k ∧ k < 1000000 ∧ i.length * k.toNat ≤ 16777216
      · rw [if_pos z] at h
        exact .inr (.inr (.inl ⟨i, k, rfl, rfl, z.1, z.2.1, z.2.2, h _ (.str _)⟩))
      · rw [if_neg z] at h; exact h.elim
    | _ => exact h.elim
  | lst h1 r1 => cases ry with
    | int k =>
      dsimp only [pMul] at h
      rename_i a vs ds
      by_cases z : -(2 ^ 63) ≤ k ∧ k < 2 ^ 63 ∧ ds.length * k.toNat ≤ 16777216
      · rw [if_pos z] at h
        exact .inr (.inr (.inr ⟨a, k, _, rfl, rfl, h1, z.1, z.2.1, by rw [sizeLine_eq, r1.length]; exact z.2.2, fun p hp => h p _ hp (r1.flatRep _)⟩))
      · rw [if_neg z] at h; exact h.elim
    | _ => exact h.elim
  | _ => exact h.elim
def pFdiv : D → D → PR
  | .int i, .int j => if CDivW i j then .v (.int (i / j)) else .bad
  | _, _ => .bad
theorem p_fdiv : Prim2 K (rI CDivW fun i j => .int (i / j)) pFdiv := by
  intro G H x y d e Q m rx ry h
  cases rx with
  | int i => cases ry with
    | int j =>
      dsimp only [pFdiv] at h
      by_cases z : CDivW i j
      · rw [if_pos z] at h; exact ⟨i, j, rfl, rfl, z, h _ (.int _)⟩
      · rw [if_neg z] at h; exact h.elim
    | _ => exact h.elim
  | _ => exact h.elim
def pMod : D → D → PR
  | .int i, .int j => if 0 < j then .v (.int (i % j)) else .bad
  | _, _ => .bad
theorem p_mod : Prim2 K (rI (fun _ j => 0 < j) fun i j => .int (i % j)) pMod := by
  intro G H x y d e Q m rx ry h
  cases rx with
  | int i => cases ry with
    | int j =>
      dsimp only [pMod] at h
      by_cases z : 0 < j
      · rw [if_pos z] at h; exact ⟨i, j, rfl, rfl, z, h _ (.int _)⟩
      · rw [if_neg z] at h; exact h.elim
    | _ => exact h.elim
  | _ => exact h.elim
def pPow : D → D → PR
  | .int i, .int j => if CPow i j then .v (.int (i ^ j.toNat)) else .bad
  | _, _ => .bad
theorem p_pow : Prim2 K (rI CPow fun i j => .int (i ^ j.toNat)) pPow := by
  intro G H x y d e Q m rx ry h
  cases rx with
  | int i => cases ry with
    | int j =>
      dsimp only [pPow] at h
      by_cases z : CPow i j
      · rw [if_pos z] at h; exact ⟨i, j, rfl, rfl, z, h _ (.int _)⟩
      · rw [if_neg z] at h; exact h.elim
    | _ => exact h.elim
  | _ => exact h.elim
def pShl : D → D → PR
  | .int i, .int j => if CPow i j then .v (.int (i * 2 ^ j.toNat)) else .bad
  | _, _ => .bad
theorem p_shl : Prim2 K (rI CPow fun i j => .int (i * 2 ^ j.toNat)) pShl := by
  intro G H x y d e Q m rx ry h
  cases rx with
  | int i => cases ry with
    | int j =>
      dsimp only [pShl] at h
      by_cases z : CPow i j
      · rw [if_pos z] at h; exact ⟨i, j, rfl, rfl, z, h _ (.int _)⟩
      · rw [if_neg z] at h; exact h.elim
    | _ => exact h.elim
  | _ => exact h.elim
def pNeg : D → PR
  | .int i => .v (.int (-i))
  | _ => .bad
theorem p_neg : Prim1 K (rU fun i => .int (-i)) pNeg := by
  intro G H x d Q m rx h
  cases rx with
  | int i => exact ⟨i, rfl, h _ (.int _)⟩
  | _ => exact h.elim

/-! ### comparisons -/
def pLt : D → D → PR
  | .int i, .int j => .v (.bl (decide (i < j)))
  | _, _ => .bad
def pLe : D → D → PR
  | .int i, .int j => .v (.bl (decide (i ≤ j)))
  | _, _ => .bad
def pGt : D → D → PR
  | .int i, .int j => .v (.bl (decide (j < i)))
  | _, _ => .bad
def pGe : D → D → PR
  | .int i, .int j => .v (.bl (decide (j ≤ i)))
  | _, _ => .bad
theorem p_lt : Prim2 K (rI0 fun i j => .bl (decide (i < j))) pLt := by
  intro G H x y d e Q m rx ry h
  cases rx with
  | int i => cases ry with
    | int j => exact ⟨i, j, rfl, rfl, h _ (.bl _)⟩
    | _ => exact h.elim
  | _ => exact h.elim
theorem p_le : Prim2 K (rI0 fun i j => .bl (decide (i ≤ j))) pLe := by
  intro G H x y d e Q m rx ry h
  cases rx with
  | int i => cases ry with
    | int j => exact ⟨i, j, rfl, rfl, h _ (.bl _)⟩
    | _ => exact h.elim
  | _ => exact h.elim
theorem p_gt : Prim2 K (rI0 fun i j => .bl (decide (j < i))) pGt := by
  intro G H x y d e Q m rx ry h
  cases rx with
  | int i => cases ry with
    | int j => exact ⟨i, j, rfl, rfl, h _ (.bl _)⟩
    | _ => exact h.elim
  | _ => exact h.elim
theorem p_ge : Prim2 K (rI0 fun i j => .bl (decide (j ≤ i))) pGe := by
  intro G H x y d e Q m rx ry h
  cases rx with
  | int i => cases ry with
    | int j => exact ⟨i, j, rfl, rfl, h _ (.bl _)⟩
    | _ => exact h.elim
  | _ => exact h.elim
/-! data as the library's == reads it -/
mutual
def toPy : D → PyData
  | .non => .none
  | .bl b => .bool b
  | .int i => .int i
  | .str x => .str x
  | .tup ds => .tuple (toPys ds)
  | .lst ds => .list (toPys ds)
  | .dct _ => .dict []
  | .scr ns => .list (ns.map .int)
  | .xn _ => .dict []
def toPys : List D → List PyData
  | [] => []
  | d :: ds => toPy d :: toPys ds
end
theorem dp_ints {K : PySem.W.Frag} {H : Hp} : ∀ ns : List Int, DpAll K H (ns.map V.int) (ns.map PyData.int)
  | [] => .nil
  | n :: ns => .cons (.int n) (dp_ints ns)
mutual
theorem toPy_ok : ∀ {d : D} {v : V} {H : Hp}, Rep K H v d → (toPy d).canLay0 = true → Dp K H v (toPy d)
  | .non, _, _, .non, _ => .non
  | .bl b, _, _, .bl _, _ => .bl b
  | .int b, _, _, .int _, _ => .int b
  | .str b, _, _, .str _, _ => .str b
  | .tup ds, _, _, .tup h r, c => .tup h.t (toPys_ok r (by simpa [toPy, PyData.canLay0] using c))
  | .lst ds, _, _, .lst h r, c => .lst (.inl h) (toPys_ok r (by simpa [toPy, PyData.canLay0] using c))
  | .dct ds, _, _, .dct h r, c => by simp [toPy, PyData.canLay0] at c
  | .scr ns, _, _, .scr h, c => .lst h (dp_ints ns)
theorem toPys_ok : ∀ {ds : List D} {vs : List V} {H : Hp}, RepAll K H vs ds → PyData.canLayAll0 (toPys ds) = true → DpAll K H vs (toPys ds)
  | [], _, _, .nil, _ => .nil
  | d :: ds, _, _, .cons h r, c => by
    have c' : (toPy d).canLay0 = true ∧ PyData.canLayAll0 (toPys ds) = true := by simpa [toPys, PyData.canLayAll0] using c
    exact .cons (toPy_ok h c'.1) (toPys_ok r c'.2)
end
def pEq : D → D → PR
  | .int i, .int j => .v (.bl (decide (i = j)))
  | .str i, .str j => .v (.bl (decide (i = j)))
  | .bl i, .bl j => .v (.bl (decide (i = j)))
  | .non, .non => .v (.bl true)
  | .non, .str _ => .v (.bl false)
  | .str _, .non => .v (.bl false)
  | d, e => if SeqAt.shaped (toPy d) = true ∧ SeqAt.shaped (toPy e) = true then .v (.bl (PyData.eqv (toPy d) (toPy e))) else .bad
def pNe : D → D → PR
  | .int i, .int j => .v (.bl (!decide (i = j)))
  | .str i, .str j => .v (.bl (!decide (i = j)))
  | .bl i, .bl j => .v (.bl (!decide (i = j)))
  | .non, .non => .v (.bl false)
  | .non, .str _ => .v (.bl true)
  | .str _, .non => .v (.bl true)
  | d, e => if SeqAt.shaped (toPy d) = true ∧ SeqAt.shaped (toPy e) = true then .v (.bl (!PyData.eqv (toPy d) (toPy e))) else .bad
def rEqA (K : PySem.W.Frag) : R2 := fun x y H Q => rEq x y H Q ∨ rEqD K x y H Q
def rNeA (K : PySem.W.Frag) : R2 := fun x y H Q => rNe x y H Q ∨ rNeD K x y H Q
theorem op_eqA (hu : X.A.units + 64 < cLine) : OpR X (compareOp .Eq) (rEqA X.K) := OpR.or op_eq (op_eqD hu)
theorem op_neA (hu : X.A.units + 64 < cLine) : OpR X (compareOp .NotEq) (rNeA X.K) := OpR.or op_ne (op_neD hu)
theorem shaped_lay {d : PyData} (h : SeqAt.shaped d = true) : d.canLay0 = true := by
  unfold SeqAt.shaped at h
  exact (Bool.and_eq_true_iff.mp h).1
theorem deep_eq {G H : Hp} {x y : V} {d e : D} {Q : VK} (m : Grow G H) (rx : RepT K G H x d) (ry : RepT K G H y e)
    (h : PPost K G H Q (if SeqAt.shaped (toPy d) = true ∧ SeqAt.shaped (toPy e) = true then .v (.bl (PyData.eqv (toPy d) (toPy e))) else .bad)) : rEqA K x y H Q := by
  by_cases z : SeqAt.shaped (toPy d) = true ∧ SeqAt.shaped (toPy e) = true
  · rw [if_pos z] at h
    exact .inr ⟨_, _, toPy_ok (rx.rep (Mono.of m)) (shaped_lay z.1), toPy_ok (ry.rep (Mono.of m)) (shaped_lay z.2), z.1, z.2, h _ (.bl _)⟩
  · rw [if_neg z] at h; exact h.elim
theorem deep_ne {G H : Hp} {x y : V} {d e : D} {Q : VK} (m : Grow G H) (rx : RepT K G H x d) (ry : RepT K G H y e)
    (h : PPost K G H Q (if SeqAt.shaped (toPy d) = true ∧ SeqAt.shaped (toPy e) = true then .v (.bl (!PyData.eqv (toPy d) (toPy e))) else .bad)) : rNeA K x y H Q := by
  by_cases z : SeqAt.shaped (toPy d) = true ∧ SeqAt.shaped (toPy e) = true
  · rw [if_pos z] at h
    exact .inr ⟨_, _, toPy_ok (rx.rep (Mono.of m)) (shaped_lay z.1), toPy_ok (ry.rep (Mono.of m)) (shaped_lay z.2), z.1, z.2, h _ (.bl _)⟩
  · rw [if_neg z] at h; exact h.elim
theorem vd_int {i j : Int} : decide (V.int i = V.int j) = decide (i = j) := by simp
theorem vd_str {i j : Str} : decide (V.str i = V.str j) = decide (i = j) := by simp
theorem vd_bl {i j : Bool} : decide (V.bl i = V.bl j) = decide (i = j) := by simp
theorem p_eq : Prim2 K (rEqA K) pEq := by
  intro G H x y d e Q m rx ry h
  have deep := deep_eq (Q := Q) m rx ry
  cases rx with
  | int i =>
    cases ry with
    | int j => exact .inl ⟨rfl, by rw [vd_int]; exact h _ (.bl _)⟩
    | _ => exact deep h
  | str i =>
    cases ry with
    | str j => exact .inl ⟨rfl, by rw [vd_str]; exact h _ (.bl _)⟩
    | non => exact .inl ⟨rfl, h _ (.bl _)⟩
    | _ => exact deep h
  | bl i =>
    cases ry with
    | bl j => exact .inl ⟨rfl, by rw [vd_bl]; exact h _ (.bl _)⟩
    | _ => exact deep h
  | non =>
    cases ry with
    | non => exact .inl ⟨rfl, h _ (.bl _)⟩
    | str j => exact .inl ⟨rfl, h _ (.bl _)⟩
    | _ => exact deep h
  | lst h1 h2 => exact deep (by cases ry <;> exact h)
  | tup h1 h2 => exact deep (by cases ry <;> exact h)
  | dct h1 h2 => exact deep (by cases ry <;> exact h)
  | scr h1 => exact deep (by cases ry <;> exact h)
  | xn => exact deep (by cases ry <;> exact h)
theorem p_ne : Prim2 K (rNeA K) pNe := by
  intro G H x y d e Q m rx ry h
  have deep := deep_ne (Q := Q) m rx ry
  cases rx with
  | int i =>
    cases ry with
    | int j => exact .inl ⟨rfl, by rw [vd_int]; exact h _ (.bl _)⟩
    | _ => exact deep h
  | str i =>
    cases ry with
    | str j => exact .inl ⟨rfl, by rw [vd_str]; exact h _ (.bl _)⟩
    | non => exact .inl ⟨rfl, h _ (.bl _)⟩
    | _ => exact deep h
  | bl i =>
    cases ry with
    | bl j => exact .inl ⟨rfl, by rw [vd_bl]; exact h _ (.bl _)⟩
    | _ => exact deep h
  | non =>
    cases ry with
    | non => exact .inl ⟨rfl, h _ (.bl _)⟩
    | str j => exact .inl ⟨rfl, h _ (.bl _)⟩
    | _ => exact deep h
  | lst h1 h2 => exact deep (by cases ry <;> exact h)
  | tup h1 h2 => exact deep (by cases ry <;> exact h)
  | dct h1 h2 => exact deep (by cases ry <;> exact h)
  | scr h1 => exact deep (by cases ry <;> exact h)
  | xn => exact deep (by cases ry <;> exact h)
/-! is None -/
def pIsN : D → D → PR
  | .non, .non => .v (.bl true)
  | .bl _, .non => .v (.bl false)
  | .int _, .non => .v (.bl false)
  | .str _, .non => .v (.bl false)
  | .lst _, .non => .v (.bl false)
  | .tup _, .non => .v (.bl false)
  | .dct _, .non => .v (.bl false)
  | _, _ => .bad
def pNotN : D → D → PR
  | .non, .non => .v (.bl false)
  | .bl _, .non => .v (.bl true)
  | .int _, .non => .v (.bl true)
  | .str _, .non => .v (.bl true)
  | .lst _, .non => .v (.bl true)
  | .tup _, .non => .v (.bl true)
  | .dct _, .non => .v (.bl true)
  | _, _ => .bad
theorem p_isN : Prim2 K (fun x y H Q => y = .non ∧ Q (.bl (decide (x = .non))) H) pIsN := by
  intro G H x y d e Q m rx ry h
  cases rx <;> cases ry <;> first
    | exact h.elim
    | exact ⟨rfl, h _ (.bl _)⟩
theorem p_notN : Prim2 K (fun x y H Q => y = .non ∧ Q (.bl (!decide (x = .non))) H) pNotN := by
  intro G H x y d e Q m rx ry h
  cases rx <;> cases ry <;> first
    | exact h.elim
    | exact ⟨rfl, h _ (.bl _)⟩
end
end DL

/-! DL7: in, subscripts, slices, built-ins over data. -/
namespace DL
open PySem PySem.Spec PyProof.Rows L2
section
variable {K : PySem.W.Frag} {X : Cx}
/-! ### flat data -/
def flatD : D → Bool
  | .non => true
  | .bl _ => true
  | .int _ => true
  | .str _ => true
  | _ => false
def eqF : D → D → Bool
  | .non, .non => true
  | .bl a, .bl b => a == b
  | .bl a, .int b => (if a then 1 else 0) == b
  | .int a, .bl b => a == (if b then 1 else 0)
  | .int a, .int b => a == b
  | .str a, .str b => a == b
  | _, _ => false
def inF (x : D) (ds : List D) : Bool := ds.any fun y => eqF y x
theorem flat_v {G : Hp} {v : V} {d : D} (r : Rep K G v d) (h : flatD d = true) : flatV v = true := by
  cases r <;> first
    | rfl
    | (cases h; done)
theorem flat_vs {G : Hp} : ∀ {vs : List V} {ds : List D}, RepAll K G vs ds → ds.all flatD = true → vs.all flatV = true
  | _, _, .nil, _ => rfl
  | _, _, .cons r t, h => by
    rw [List.all_cons] at h
    obtain ⟨h1, h2⟩ := Bool.and_eq_true_iff.mp h
    rw [List.all_cons, flat_v r h1, flat_vs t h2]
    rfl
theorem eq_v {G : Hp} {v w : V} {d e : D} (r : Rep K G v d) (q : Rep K G w e) (h : flatD d = true) (h2 : flatD e = true) : eqV v w = eqF d e := by
  cases r <;> first
    | (cases h; done)
    | (cases q <;> first
        | rfl
        | (cases h2; done))
theorem in_v {G : Hp} {v : V} {d : D} (r : Rep K G v d) (h : flatD d = true) : ∀ {vs : List V} {ds : List D}, RepAll K G vs ds → ds.all flatD = true → inV v vs = inF d ds
  | _, _, .nil, _ => rfl
  | _, _, .cons q t, k => by
    rw [List.all_cons] at k
    obtain ⟨h1, h2⟩ := Bool.and_eq_true_iff.mp k
    have ih := in_v r h t h2
    unfold inV inF at ih ⊢
    rw [List.any_cons, List.any_cons, eq_v q r h1 h, ih]
theorem RepT.flat {G H : Hp} {v : V} {d : D} (r : RepT K G H v d) (h : flatD d = true) : Rep K G v d := by
  cases r with
  | non => exact .non
  | bl b => exact .bl b
  | int b => exact .int b
  | str b => exact .str b
  | _ => cases h
def keyD : D → Option Key
  | .int i => some (.inl i)
  | .str x => some (.inr x)
  | _ => none
theorem key_v {G H : Hp} {v : V} {d : D} {k : Key} (r : RepT K G H v d) (h : keyD d = some k) : v = kV k := by
  cases r with
  | int i => cases h; rfl
  | str i => cases h; rfl
  | _ => cases h
def rDIn : R2 := fun x y H Q => ∃ a o, y = .ref a ∧ DGet H a x o ∧ Q (.bl o.isSome) H
def rDNotIn : R2 := fun x y H Q => ∃ a o, y = .ref a ∧ DGet H a x o ∧ Q (.bl (!o.isSome)) H
theorem op_din (hu : X.A.units + 1 < cLine) : OpR X (compareOp .In) rDIn := by
  intro pins s σ H x y v u Q I rx ry h
  obtain ⟨a, o, rfl, g, q⟩ := h
  cases ry
  exact d_in hu I g rx fun s' I' => ⟨.bl _, H, I', rfl, q⟩
theorem op_dnotIn (hu : X.A.units + 1 < cLine) : OpR X (compareOp .NotIn) rDNotIn := by
  intro pins s σ H x y v u Q I rx ry h
  obtain ⟨a, o, rfl, g, q⟩ := h
  cases ry
  exact d_notIn hu I g rx fun s' I' => ⟨.bl _, H, I', rfl, q⟩
def rInS : R2 := fun x y H Q => ∃ (c : Nat) (z : Str), x = .str ⟨#[c]⟩ ∧ y = .str z ∧ Q (.bl (decide (c ∈ z.cps.toList))) H
def rNotInS : R2 := fun x y H Q => ∃ (c : Nat) (z : Str), x = .str ⟨#[c]⟩ ∧ y = .str z ∧ Q (.bl (!decide (c ∈ z.cps.toList))) H
def rInA (K : PySem.W.Frag) : R2 := fun x y H Q => rIn K false x y H Q ∨ rInD K x y H Q ∨ rDIn x y H Q ∨ rInS x y H Q
def rNotInA (K : PySem.W.Frag) : R2 := fun x y H Q => rIn K true x y H Q ∨ rNotInD K x y H Q ∨ rDNotIn x y H Q ∨ rNotInS x y H Q
theorem op_inA (hu : X.A.units + 65 < cLine) : OpR X (compareOp .In) (rInA X.K) := OpR.or op_in_seq (OpR.or (op_inD hu) (OpR.or (op_din (by omega)) op_in_sign))
theorem op_notInA (hu : X.A.units + 65 < cLine) : OpR X (compareOp .NotIn) (rNotInA X.K) := OpR.or op_notIn_seq (OpR.or (op_notInD hu) (OpR.or (op_dnotIn (by omega)) op_notIn_sign))
def sgn : D → Option Nat
  | .str z => match z.cps.toList with
    | [c] => some c
    | _ => none
  | _ => none
theorem sgn_v {G H : Hp} {v : V} {d : D} {c : Nat} (r : RepT K G H v d) (h : sgn d = some c) : v = .str ⟨#[c]⟩ := by
  cases r with
  | str z =>
    dsimp only [sgn] at h
    obtain ⟨⟨l⟩⟩ := z
    match l, h with
    | [a], h => cases h; rfl
  | _ => cases h
/-- b: whether it is «not in» -/
def inB (x y : D) : Option Bool := match y with
  | .lst ds => if flatD x = true ∧ ds.all flatD = true then some (inF x ds) else if SeqAt.shaped (toPy x) = true ∧ SeqAt.shaped (.list (toPys ds)) = true then some ((toPys ds).any fun z => PyData.eqv z (toPy x)) else none
  | .tup ds => if flatD x = true ∧ ds.all flatD = true then some (inF x ds) else none
  | .dct ds => (keyD x).map fun k => (valD ds k).isSome
  | .str z => (sgn x).map fun c => decide (c ∈ z.cps.toList)
  | _ => none
def ofB : Option Bool → PR
  | some b => .v (.bl b)
  | none => .bad
def pIn (x y : D) : PR := ofB (inB x y)
def pNotIn (x y : D) : PR := ofB ((inB x y).map not)
theorem RepO.isSome {G : Hp} {o : Option V} {u : Option D} (r : RepO K G o u) : o.isSome = u.isSome := by
  cases r <;> rfl
theorem inB_go {G H : Hp} {x y : V} {d e : D} {b : Bool} (m : Grow G H) (rx : RepT K G H x d) (ry : RepT K G H y e) (h : inB d e = some b) (Q : VK) :
    (Q (.bl b) H → rInA K x y H Q) ∧ (Q (.bl (!b)) H → rNotInA K x y H Q) := by
  cases ry with
  | lst h1 r1 =>
    dsimp only [inB] at h
    rename_i a vs ds
    by_cases z : flatD d = true ∧ ds.all flatD = true
    · rw [if_pos z] at h
      cases h
      have e := in_v (rx.flat z.1) z.1 r1 z.2
      exact ⟨fun q => .inl ⟨a, vs, rfl, .inl (.inl h1), flat_v (rx.flat z.1) z.1, flat_vs r1 z.2, by rw [if_neg Bool.false_ne_true, e]; exact q⟩,
        fun q => .inl ⟨a, vs, rfl, .inl (.inl h1), flat_v (rx.flat z.1) z.1, flat_vs r1 z.2, by rw [if_pos rfl, e]; exact q⟩⟩
    · rw [if_neg z] at h
      by_cases z2 : SeqAt.shaped (toPy d) = true ∧ SeqAt.shaped (.list (toPys ds)) = true
      · rw [if_pos z2] at h
        cases h
        have w1 := toPy_ok (rx.rep (Mono.of m)) (shaped_lay z2.1)
        have w2 : Dp K H (.ref a) (toPy (.lst ds)) := toPy_ok (.lst h1 (r1.mono (Mono.of m))) (by
          have := shaped_lay z2.2
          simpa [toPy] using this)
        have w2 : Dp K H (.ref a) (.list (toPys ds)) := by simpa [toPy] using w2
        exact ⟨fun q => .inr (.inl ⟨_, _, w1, w2, z2.1, z2.2, q⟩), fun q => .inr (.inl ⟨_, _, w1, w2, z2.1, z2.2, q⟩)⟩
      · rw [if_neg z2] at h; cases h
  | tup h1 r1 =>
    dsimp only [inB] at h
    rename_i a vs ds
    by_cases z : flatD d = true ∧ ds.all flatD = true
    · rw [if_pos z] at h
      cases h
      have e := in_v (rx.flat z.1) z.1 r1 z.2
      have h1 := ((Mono.of m).seqT h1).t
      exact ⟨fun q => .inl ⟨a, vs, rfl, .inr h1, flat_v (rx.flat z.1) z.1, flat_vs r1 z.2, by rw [if_neg Bool.false_ne_true, e]; exact q⟩,
        fun q => .inl ⟨a, vs, rfl, .inr h1, flat_v (rx.flat z.1) z.1, flat_vs r1 z.2, by rw [if_pos rfl, e]; exact q⟩⟩
    · rw [if_neg z] at h; cases h
  | dct h1 r1 =>
    dsimp only [inB] at h
    rename_i a vs ds
    cases k : keyD d with
    | none => rw [k] at h; cases h
    | some k1 =>
      rw [k] at h
      cases h
      have g : DGet H a x (valV vs k1) := .inl ⟨vs, k1, h1, key_v rx k, rfl⟩
      have e := (r1.val k1).isSome
      exact ⟨fun q => .inr (.inr (.inl ⟨a, _, rfl, g, by rw [e]; exact q⟩)), fun q => .inr (.inr (.inl ⟨a, _, rfl, g, by rw [e]; exact q⟩))⟩
  | str z =>
    dsimp only [inB] at h
    cases k : sgn d with
    | none => rw [k] at h; cases h
    | some c =>
      rw [k] at h
      cases h
      exact ⟨fun q => .inr (.inr (.inr ⟨c, z, sgn_v rx k, rfl, q⟩)), fun q => .inr (.inr (.inr ⟨c, z, sgn_v rx k, rfl, q⟩))⟩
  | _ => cases h
theorem p_in : Prim2 K (rInA K) pIn := by
  intro G H x y d e Q m rx ry h
  unfold pIn at h
  cases k : inB d e with
  | none => rw [k] at h; exact h.elim
  | some b => rw [k] at h; exact (inB_go m rx ry k Q).1 (h _ (.bl _))
theorem p_notIn : Prim2 K (rNotInA K) pNotIn := by
  intro G H x y d e Q m rx ry h
  unfold pNotIn at h
  cases k : inB d e with
  | none => rw [k] at h; exact h.elim
  | some b => rw [k] at h; exact (inB_go m rx ry k Q).2 (h _ (.bl _))

/-! ### subscripts -/
def rIxDct : R2 := fun x y H Q => ∃ a v, x = .ref a ∧ DGet H a y (some v) ∧ Q v H
theorem ix_dct (hu : X.A.units + 1 < cLine) : IxR X rIxDct := by
  intro value slice pins s σ H x y v u Q I rx ry h hs
  obtain ⟨a, w, rfl, g, q⟩ := h
  obtain rfl : v = Value.ref a := rx
  exact tail_any (dict_typeIs I g) PySem.F.slot_dict_getitem.lookup (d_getItem hu I g ry fun w' s' I' r => ⟨w, H, I', r, q⟩) hs
def rIxA (K : PySem.W.Frag) : R2 := fun x y H Q => rIx K x y H Q ∨ rIxDct x y H Q
theorem ix_A (hu : X.A.units + 1 < cLine) : IxR X (rIxA X.K) := IxR.or ix_seq (ix_dct hu)
def ofD : Option D → PR
  | some d => .v d
  | none => .bad
def pIx : D → D → PR
  | .lst ds, .int i => ofD (atI ds i)
  | .tup ds, .int i => ofD (atI ds i)
  | .scr ns, .int i => ofD ((atI ns i).map .int)
  | .str z, .int i => if z.length ≤ 16777216 then ofD ((atI z.cps.toList i).map fun c => .str ⟨#[c]⟩) else .bad
  | .dct ds, k => ofD ((keyD k).bind (valD ds))
  | _, _ => .bad
theorem RepAll.atI {G : Hp} {vs : List V} {ds : List D} {i : Int} {d : D} (r : RepAll K G vs ds) (h : L2.atI ds i = some d) : ∃ v, L2.atI vs i = some v ∧ Rep K G v d := by
  unfold L2.atI at h ⊢
  rw [r.length]
  cases q : ixN ds.length i with
  | none => rw [q] at h; cases h
  | some j =>
    rw [q] at h
    exact r.get h
theorem RepO.some_of {G : Hp} {o : Option V} {d : D} (r : RepO K G o (Option.some d)) : ∃ v, o = Option.some v ∧ Rep K G v d := by
  cases r with
  | some r => exact ⟨_, rfl, r⟩
theorem p_ix : Prim2 K (rIxA K) pIx := by
  intro G H x y d e Q m rx ry h
  cases rx with
  | lst h1 r1 => cases ry with
    | int i =>
      dsimp only [pIx] at h
      rename_i a vs ds
      cases k : L2.atI ds i with
      | none => rw [k] at h; exact h.elim
      | some z =>
        rw [k] at h
        obtain ⟨v, hv, rv⟩ := r1.atI k
        exact .inl (.inl ⟨a, vs, i, v, rfl, rfl, .inl h1, hv, h _ rv⟩)
    | _ => exact h.elim
  | tup h1 r1 => cases ry with
    | int i =>
      dsimp only [pIx] at h
      rename_i a vs ds
      cases k : L2.atI ds i with
      | none => rw [k] at h; exact h.elim
      | some z =>
        rw [k] at h
        obtain ⟨v, hv, rv⟩ := r1.atI k
        exact .inl (.inr (.inl ⟨a, vs, i, v, rfl, rfl, ((Mono.of m).seqT h1).t, hv, h _ rv⟩))
    | _ => exact h.elim
  | scr h1 => cases ry with
    | int i =>
      dsimp only [pIx] at h
      rename_i a ns
      cases k : L2.atI ns i with
      | none => rw [k] at h; exact h.elim
      | some z =>
        rw [k] at h
        refine .inl (.inl ⟨a, _, i, .int z, rfl, rfl, h1, ?_, h _ (.int _)⟩)
        unfold L2.atI at k ⊢
        rw [List.length_map]
        cases q : ixN ns.length i with
        | none => rw [q] at k; cases k
        | some j =>
          rw [q] at k
          show (ns.map V.int)[j]? = _
          rw [List.getElem?_map, show ns[j]? = some z from k]
          rfl
    | _ => exact h.elim
  | str z => cases ry with
    | int i =>
      dsimp only [pIx] at h
      by_cases w : z.length ≤ 16777216
      · rw [if_pos w] at h
        cases k : L2.atI z.cps.toList i with
        | none => rw [k] at h; exact h.elim
        | some c =>
          rw [k] at h
          exact .inl (.inr (.inr ⟨z, i, c, rfl, rfl, by rw [sizeLine_eq]; exact w, k, h _ (.str _)⟩))
      · rw [if_neg w] at h; exact h.elim
    | _ => exact h.elim
  | dct h1 r1 =>
    rename_i a vs ds
    have h : PPost K G H Q (ofD ((keyD e).bind (valD ds))) := by cases ry <;> exact h
    cases k : keyD e with
    | none => rw [k] at h; exact h.elim
    | some k1 =>
      rw [k] at h
      cases q : valD ds k1 with
      | none => simp only [Option.bind_some, q] at h; exact h.elim
      | some z =>
        simp only [Option.bind_some, q] at h
        have r := r1.val k1
        rw [q] at r
        obtain ⟨v, hv, rv⟩ := r.some_of
        exact .inr ⟨a, v, rfl, .inl ⟨vs, k1, h1, key_v ry k, hv.symm⟩, h _ rv⟩
  | _ => exact h.elim
end
/-! ### slices -/
abbrev SlR3 := V → Option Int → Option Int → Hp → VK → Prop
def OM := Option EM
inductive PrO where
  | ok (i : Option Int) (ρ : DEnv) | xc (c : Str) (ρ : DEnv) | bad
def ER.toO (x : ER) : PrO := match x with
  | .ok (.sh (.int i)) ρ => .ok (some i) ρ
  | .ok _ _ => .bad
  | .xc c ρ => .xc c ρ
  | .bad => .bad
def oNone : DEnv → PrO := fun ρ => .ok none ρ
def oSome (f : EM) : DEnv → PrO := fun ρ => (f ρ).toO
def PrO.toE (x : PrO) (k : Option Int → DEnv → ER) : ER := match x with
  | .ok i ρ => k i ρ
  | .xc c ρ => .xc c ρ
  | .bad => .bad
def OPost (K : PySem.W.Frag) (mg : Str → Option Value) (H0 B G : Hp) (W : WX) (σ : L2.St) (Q : Option Int → Hp → Prop) : PrO → Prop
  | .ok r ρ' => ∀ G' H', Grow G G' → StD K H0 B G' ρ' σ H' → Q r H'
  | .xc c ρ' => ∀ cls G' H', Grow G G' → StD K H0 B G' ρ' σ H' → mg c = some cls → W cls none σ H'
  | .bad => False
def cO (K : PySem.W.Frag) (mg : Str → Option Value) (W : WX) (f : DEnv → PrO) : TO := fun σ H Q => ∃ H0 B G ρ, StD K H0 B G ρ σ H ∧ OPost K mg H0 B G W σ Q (f ρ)
abbrev DO (X : Cx) (W : WX) (e : Option Expr) (f : DEnv → PrO) : Prop := PO X e (cO X.K X.mg W f)
theorem iO {X : Cx} {e : Option Expr} {t t' : TO} (h : PO X e t) (i : ∀ σ H Q, t' σ H Q → t σ H Q) : PO X e t' := ⟨fun pins s σ H Q I q => h.run pins s σ H Q I (i _ _ _ q)⟩
theorem cO.okE {K : PySem.W.Frag} {mg : Str → Option Value} {H0 B G H : Hp} {ρ : DEnv} {W : WX} {σ : L2.St} {Q : VK} {f : DEnv → PrO} (I : StD K H0 B G ρ σ H) {k : Option Int → DEnv → ER} (h : EPost K mg H0 B G W σ Q ((f ρ).toE k)) {R1 : Option Int → Hp → Prop}
    (go : ∀ r ρ1 G1 H1, Grow G G1 → StD K H0 B G1 ρ1 σ H1 → EPost K mg H0 B G1 W σ Q (k r ρ1) → R1 r H1) : cO K mg W f σ H R1 := by
  refine ⟨H0, B, G, ρ, I, ?_⟩
  cases e : f ρ with
  | ok r ρ1 =>
    rw [e] at h
    exact fun G1 H1 s I1 => go r ρ1 G1 H1 s I1 (EPost.mono h s)
  | xc c ρ1 =>
    rw [e] at h
    exact h
  | bad =>
    rw [e] at h
    exact h
def PrimS (K : PySem.W.Frag) (r : SlR3) (p : D → Option Int → Option Int → PR) : Prop := ∀ G H x d lo hi Q, Grow G H → RepT K G H x d → PPost K G H Q (p d lo hi) → r x lo hi H Q
def apS (p : D → Option Int → Option Int → PR) (r : R) (lo hi : Option Int) (ρ : DEnv) : ER := match pk ρ r with
  | some d => (p d lo hi).er ρ
  | none => .bad
def eSl (p : D → Option Int → Option Int → PR) (fa : EM) (fl fh : DEnv → PrO) : EM := fun ρ => (fa ρ).bind fun r1 ρ1 => (fl ρ1).toE fun lo ρ2 => (fh ρ2).toE fun hi ρ3 => apS p (settle r1) lo hi ρ3
section
variable {X : Cx} {W : WX} {a : Expr} {e : Expr} {lo hi : Option Expr} {pos p2 : Pos}
theorem do_none : DO X W none oNone := iO po_none fun σ H Q ⟨H0, B, G, ρ, I, h⟩ => h G H (Grow.refl _) I
theorem do_some {f : EM} (he : DE X W e f) : DO X W (some e) (oSome f) :=
  iO (po_some he) fun σ H Q ⟨H0, B, G, ρ, I, h⟩ => by
    refine ⟨H0, B, G, ρ, I, ?_⟩
    unfold oSome at h
    cases q : f ρ with
    | ok r ρ1 =>
      rw [q] at h
      cases r with
      | sh d =>
        cases d with
        | int i =>
          intro v G' H' s I' x
          cases x
          exact ⟨i, rfl, h G' H' s I'⟩
        | _ => exact (show False from h).elim
      | ow d => exact (show False from h).elim
      | al i => exact (show False from h).elim
    | xc c ρ1 => rw [q] at h; exact h
    | bad => rw [q] at h; exact h
theorem de_slice {r : SlR3} {p : D → Option Int → Option Int → PR} {fa : EM} {fl fh : DEnv → PrO} (hr : SlR X r) (hp : PrimS X.K r p) (ha : DE X W a fa) (hl : DO X W lo fl) (hh : DO X W hi fh) : DE X W (.Subscript a (.Slice lo hi none p2) pos) (eSl p fa fl fh) :=
  iE (pe_slice hr ha hl hh) fun σ H Q ⟨H0, B, G, ρ, I, h⟩ => cE.okS I h fun r1 ρ1 x G1 H1 s1 I1 v1 h1 => cO.okE I1 h1 fun lo ρ2 G2 H2 s2 I2 h2 => cO.okE I2 h2 fun hi ρ3 G3 H3 s3 I3 h3 => by
    unfold apS at h3
    cases q : pk ρ3 (settle r1) with
    | none => rw [q] at h3; exact h3.elim
    | some d =>
      rw [q] at h3
      exact hp G3 H3 x d lo hi Q I3.gh (((v1.stay s2).stay s3).pk I3 q) (PPost.of I3 h3)
end
section
variable {K : PySem.W.Frag} {X : Cx}
def cutD {α : Type} (xs : List α) (lo hi : Option Int) : List α := (xs.drop (HT.sIx xs.length 0 lo)).take (HT.sIx xs.length xs.length hi - HT.sIx xs.length 0 lo)
def rSlA3 (K : PySem.W.Frag) : SlR3 := fun x lo hi H Q => rSlL K x lo hi H Q ∨ rSlP K x lo hi H Q ∨ rSlS x lo hi H Q
theorem sl_A : SlR X (rSlA3 X.K) := SlR.or sl_list (SlR.or sl_tupP sl_str)
def pSl : D → Option Int → Option Int → PR
  | .lst ds, lo, hi => .nl (cutD ds lo hi)
  | .scr ns, lo, hi => .nl ((cutD ns lo hi).map .int)
  | .tup ds, lo, hi => .t (cutD ds lo hi)
  | .str z, lo, hi => if z.length ≤ 16777216 then .v (.str (cutS z lo hi)) else .bad
  | _, _, _ => .bad
theorem RepAll.cut {G : Hp} {vs : List V} {ds : List D} (r : RepAll K G vs ds) (lo hi : Option Int) : RepAll K G (cutV vs lo hi) (cutD ds lo hi) := by
  unfold cutV cutD
  rw [r.length]
  exact (r.drop _).take _
theorem cutV_map (ns : List Int) (lo hi : Option Int) : cutV (ns.map V.int) lo hi = (cutD ns lo hi).map V.int := by
  unfold cutV cutD
  rw [List.length_map, List.map_take, List.map_drop]
theorem p_sl : PrimS K (rSlA3 K) pSl := by
  intro G H x d lo hi Q m rx h
  cases rx with
  | lst h1 r1 => exact .inl ⟨_, _, rfl, .inl h1, fun p hp => h p _ hp (r1.cut lo hi)⟩
  | scr h1 => exact .inl ⟨_, _, rfl, h1, fun p hp => by
      rw [cutV_map]
      exact h p _ hp (RepAll.of_ints _)⟩
  | tup h1 r1 =>
    rename_i a vs ds
    refine .inr (.inl ⟨_, _, rfl, ((Mono.of m).seqT h1).t, fun e => ?_, fun _ p o hp pl => h.2 p o _ hp pl (r1.cut lo hi)⟩)
    have e2 : cutD ds lo hi = ds := by
      unfold cutD
      rw [← r1.length, e.1, e.2, List.drop_zero, Nat.sub_zero, r1.length, List.take_length]
    exact h.1 _ (by rw [e2]; exact .tup h1 r1)
  | str z =>
    dsimp only [pSl] at h
    by_cases w : z.length ≤ 16777216
    · rw [if_pos w] at h
      exact .inr (.inr ⟨z, rfl, by rw [sizeLine_eq]; exact w, h _ (.str _)⟩)
    · rw [if_neg w] at h; exact h.elim
  | _ => exact h.elim
end
end DL

/-! DL8: built-ins by name, methods, stores. -/
namespace DL
open PySem PySem.Spec PyProof.Rows L2
section
variable {K : PySem.W.Frag} {X : Cx} {W : WX}
theorem repTs1 {G H : Hp} {xs : List V} {d : D} (r : RepTs K G H xs [d]) : ∃ v, xs = [v] ∧ RepT K G H v d := by
  cases r with
  | cons r t => cases t; exact ⟨_, rfl, r⟩
theorem repTs2 {G H : Hp} {xs : List V} {d e : D} (r : RepTs K G H xs [d, e]) : ∃ v w, xs = [v, w] ∧ RepT K G H v d ∧ RepT K G H w e := by
  cases r with
  | cons r t => cases t with
    | cons r2 t => cases t; exact ⟨_, _, rfl, r, r2⟩
/-! ### len -/
def rLenA (K : PySem.W.Frag) : List V → Hp → VK → Prop := fun xs H Q => (∃ p ys, xs = [.ref p] ∧ (SqL K H p ys ∨ SqT K H p ys) ∧ Q (.int ys.length) H) ∨ (∃ z, xs = [.str z] ∧ z.length ≤ sizeLine ∧ Q (.int z.length) H) ∨ ∃ a kvs, xs = [V.ref a] ∧ Rd H a (.dK kvs) ∧ Q (.int kvs.length) H
theorem call_lenR : CallR X (.builtin "len") (fun xs H Q => ∃ a kvs, xs = [V.ref a] ∧ Rd H a (.dK kvs) ∧ Q (.int kvs.length) H) := by
  intro pins s σ H xs us Q I r h
  obtain ⟨a, kvs, rfl, ha, q⟩ := h
  obtain ⟨u, rfl, ru⟩ := vals1 r
  cases ru
  exact d_len I ha fun t s' I' => ⟨.int kvs.length, H, I', ⟨t, rfl⟩, q⟩
theorem call_lenA : CallR X (.builtin "len") (rLenA X.K) := CallR.or call_len_seq (CallR.or call_len_str call_lenR)
def lenD : D → Option Nat
  | .lst ds => some ds.length
  | .tup ds => some ds.length
  | .scr ns => some ns.length
  | .dct ds => some ds.length
  | .str z => if z.length ≤ 16777216 then some z.length else none
  | _ => none
def pLen : List D → PR
  | [d] => (match lenD d with
    | some n => .v (.int (n : Nat))
    | none => .bad)
  | _ => .bad
theorem p_len : PrimN K (rLenA K) pLen := by
  intro G H xs ds Q m rs h
  match ds, rs, h with
  | [d], rs, h =>
    obtain ⟨v, rfl, r⟩ := repTs1 rs
    cases r with
    | lst h1 r1 => exact .inl ⟨_, _, rfl, .inl (.inl h1), by rw [r1.length]; exact h _ (.int _)⟩
    | tup h1 r1 => exact .inl ⟨_, _, rfl, .inr ((Mono.of m).seqT h1).t, by rw [r1.length]; exact h _ (.int _)⟩
    | scr h1 => exact .inl ⟨_, _, rfl, .inl h1, by rw [List.length_map]; exact h _ (.int _)⟩
    | dct h1 r1 => exact .inr (.inr ⟨_, _, rfl, h1, by rw [r1.length]; exact h _ (.int _)⟩)
    | str z =>
      dsimp only [pLen, lenD] at h
      by_cases w : z.length ≤ 16777216
      · simp only [if_pos w] at h
        exact .inr (.inl ⟨z, rfl, by rw [sizeLine_eq]; exact w, h _ (.int _)⟩)
      · simp only [if_neg w] at h; exact h.elim
    | _ => exact h.elim
  | [], _, h => exact h.elim
  | _ :: _ :: _, _, h => exact h.elim

/-! ### list, tuple, dict -/
def rListR : List V → Hp → VK → Prop := fun xs H Q => ∃ p kvs, xs = [.ref p] ∧ Rd H p (.dK kvs) ∧ ∀ q, H q = none → Q (.ref q) (upd H q (.lst (kvs.map fun kv => kV kv.1)))
theorem call_list_dR {X : Cx} (hc : X.calm = true) : CallR X (.type "list") rListR := by
  intro pins s σ H xs us Q I r h
  obtain ⟨p, kvs, e, hk, q⟩ := h
  subst e
  obtain ⟨u, eu, rx⟩ := vals1 r
  subst eu
  obtain rfl : u = Value.ref p := rx
  obtain ⟨z, lo, vs, rk, hd⟩ := dk_rd I.hok hk
  obtain ⟨ep, hat⟩ := hd.dictAt
  have hl : kvs.length = vs.length := Paired.length rk
  refine PySem.W.kdl_call (PySem.W.kdl_dict (knd := mixKind X.prog X.w) (kvs := vs) (ep := ep) lo) (I.ok.hd hc) hat (by rw [← hl]; exact z) fun h' tk acc' c' hkeep hS hacc => ?_
  refine ⟨.ref s.heap.objs.size, upd H s.heap.objs.size (.lst (kvs.map fun kv => kV kv.1)), I.laid hkeep (Nat.le_refl _) (show ObjOk X.prog X.w _ _ _ (.lst (kvs.map fun kv => kV kv.1)) from ⟨?_, acc'.toList, c', ?_, ?_⟩), rfl, q _ (I.hok.fresh (Nat.le_refl _))⟩
  · rw [List.length_map]; exact z
  · have el : acc'.toList.length = acc'.size := by simp
    refine vals_of_at (by rw [List.length_map, el, hacc.1, hl]) fun j x w h1 h2 => ?_
    obtain ⟨k, y, hky, hi⟩ := hacc.2 j w (by rw [← Array.getElem?_toList]; exact h2)
    have e1 : (kvs.map (·.1))[j]? = some k := by
      rw [KV.keys rk, List.getElem?_map, hky] <;> rfl
    have e2 : (kvs.map fun kv => kV kv.1)[j]? = some (kV k) := by
      have e3 : (kvs.map fun kv => kV kv.1) = (kvs.map (·.1)).map kV := by rw [List.map_map] <;> rfl
      rw [e3, List.getElem?_map, e1] <;> rfl
    rw [e2] at h1
    cases h1
    exact keyIs_rel hi
  · rw [Array.toArray_toList]; exact hS
def kD : Key → D
  | .inl i => .int i
  | .inr x => .str x
theorem kD_rep {G : Hp} (k : Key) : Rep K G (kV k) (kD k) := by
  cases k with
  | inl i => exact .int i
  | inr x => exact .str x
theorem RepKV.keysD {G : Hp} : ∀ {vs : List (Key × V)} {ds : List (Key × D)}, RepKV K G vs ds → RepAll K G (vs.map fun kv => kV kv.1) (ds.map fun kv => kD kv.1)
  | _, _, .nil => .nil
  | _, _, .cons _ t => .cons (kD_rep _) (RepKV.keysD t)
def rListA (K : PySem.W.Frag) : List V → Hp → VK → Prop := fun xs H Q => (∃ p ys, xs = [.ref p] ∧ (SqL K H p ys ∨ SqT K H p ys) ∧ ∀ l, H l = none → Q (.ref l) (upd H l (.lst ys))) ∨ rListR xs H Q
theorem call_listA (hc : X.calm = true) : CallR X (.type "list") (rListA X.K) := CallR.or call_list_of (call_list_dR hc)
def pList : List D → PR
  | [.lst ds] => .nl ds
  | [.tup ds] => .nl ds
  | [.scr ns] => .nl (ns.map .int)
  | [.dct ds] => .nl (ds.map fun kv => kD kv.1)
  | _ => .bad
theorem p_list : PrimN K (rListA K) pList := by
  intro G H xs ds Q m rs h
  match ds, rs, h with
  | [d], rs, h =>
    obtain ⟨v, rfl, r⟩ := repTs1 rs
    cases r with
    | lst h1 r1 => exact .inl ⟨_, _, rfl, .inl (.inl h1), fun p hp => h p _ hp r1⟩
    | tup h1 r1 => exact .inl ⟨_, _, rfl, .inr ((Mono.of m).seqT h1).t, fun p hp => h p _ hp r1⟩
    | scr h1 => exact .inl ⟨_, _, rfl, .inl h1, fun p hp => h p _ hp (RepAll.of_ints _)⟩
    | dct h1 r1 => exact .inr ⟨_, _, rfl, h1, fun p hp => h p _ hp r1.keysD⟩
    | _ => exact h.elim
  | [], _, h => exact h.elim
  | .non :: _ :: _, _, h => exact h.elim
  | .bl _ :: _ :: _, _, h => exact h.elim
  | .int _ :: _ :: _, _, h => exact h.elim
  | .str _ :: _ :: _, _, h => exact h.elim
  | .lst _ :: _ :: _, _, h => exact h.elim
  | .tup _ :: _ :: _, _, h => exact h.elim
  | .dct _ :: _ :: _, _, h => exact h.elim
  | .scr _ :: _ :: _, _, h => exact h.elim
  | .xn _ :: _ :: _, _, h => exact h.elim
def pTuple : List D → PR
  | [.lst ds] => .t ds
  | [.tup ds] => .v (.tup ds)
  | _ => .bad
theorem p_tuple : PrimN K (rTupP K) pTuple := by
  intro G H xs ds Q m rs h
  match ds, rs, h with
  | [d], rs, h =>
    obtain ⟨v, rfl, r⟩ := repTs1 rs
    cases r with
    | lst h1 r1 => exact ⟨_, _, rfl, .inl ⟨.inl h1, fun p o hp pl => h.2 p o _ hp pl r1⟩⟩
    | tup h1 r1 => exact ⟨_, _, rfl, .inr ⟨((Mono.of m).seqT h1).t, h _ (.tup h1 r1)⟩⟩
    | _ => exact h.elim
  | [], _, h => exact h.elim
  | .non :: _ :: _, _, h => exact h.elim
  | .bl _ :: _ :: _, _, h => exact h.elim
  | .int _ :: _ :: _, _, h => exact h.elim
  | .str _ :: _ :: _, _, h => exact h.elim
  | .lst _ :: _ :: _, _, h => exact h.elim
  | .tup _ :: _ :: _, _, h => exact h.elim
  | .dct _ :: _ :: _, _, h => exact h.elim
  | .scr _ :: _ :: _, _, h => exact h.elim
  | .xn _ :: _ :: _, _, h => exact h.elim
def rDictR : List V → Hp → VK → Prop := fun xs H Q => ∃ p kvs, xs = [.ref p] ∧ Rd H p (.dK kvs) ∧ ∀ q, H q = none → Q (.ref q) (upd H q (.dK kvs))
theorem call_dictR : CallR X (.type "dict") rDictR := by
  intro pins s σ H xs us Q I r h
  obtain ⟨p, kvs, e, hk, q⟩ := h
  subst e
  obtain ⟨u, eu, rx⟩ := vals1 r
  subst eu
  obtain rfl : u = Value.ref p := rx
  exact d_copyOf I hk fun l s' hl I' => ⟨.ref l, _, I', rfl, q l hl⟩
def pDict : List D → PR
  | [.dct ds] => .nd ds
  | _ => .bad
theorem p_dict : PrimN K rDictR pDict := by
  intro G H xs ds Q m rs h
  match ds, rs, h with
  | [d], rs, h =>
    obtain ⟨v, rfl, r⟩ := repTs1 rs
    cases r with
    | dct h1 r1 => exact ⟨_, _, rfl, h1, fun p hp => h p _ hp r1⟩
    | _ => exact h.elim
  | [], _, h => exact h.elim
  | .non :: _ :: _, _, h => exact h.elim
  | .bl _ :: _ :: _, _, h => exact h.elim
  | .int _ :: _ :: _, _, h => exact h.elim
  | .str _ :: _ :: _, _, h => exact h.elim
  | .lst _ :: _ :: _, _, h => exact h.elim
  | .tup _ :: _ :: _, _, h => exact h.elim
  | .dct _ :: _ :: _, _, h => exact h.elim
  | .scr _ :: _ :: _, _, h => exact h.elim
  | .xn _ :: _ :: _, _, h => exact h.elim

/-! ### int, str, min, max, sum, divmod -/
def pInt : List D → PR
  | [.int i] => .v (.int i)
  | [.bl b] => .v (.int (if b then 1 else 0))
  | _ => .bad
theorem p_int : PrimN K (fun xs H Q => (∃ i, xs = [.int i] ∧ Q (.int i) H) ∨ ∃ k, xs = [.bl k] ∧ Q (.int (if k then 1 else 0)) H) pInt := by
  intro G H xs ds Q m rs h
  match ds, rs, h with
  | [.int i], rs, h =>
    obtain ⟨v, rfl, r⟩ := repTs1 rs
    cases r
    exact .inl ⟨i, rfl, h _ (.int _)⟩
  | [.bl i], rs, h =>
    obtain ⟨v, rfl, r⟩ := repTs1 rs
    cases r
    exact .inr ⟨i, rfl, h _ (.int _)⟩
  | [], _, h => exact h.elim
  | [.non], _, h => exact h.elim
  | [.str _], _, h => exact h.elim
  | [.lst _], _, h => exact h.elim
  | [.tup _], _, h => exact h.elim
  | [.dct _], _, h => exact h.elim
  | [.scr _], _, h => exact h.elim
  | [.xn _], _, h => exact h.elim
  | .non :: _ :: _, _, h => exact h.elim
  | .bl _ :: _ :: _, _, h => exact h.elim
  | .int _ :: _ :: _, _, h => exact h.elim
  | .str _ :: _ :: _, _, h => exact h.elim
  | .lst _ :: _ :: _, _, h => exact h.elim
  | .tup _ :: _ :: _, _, h => exact h.elim
  | .dct _ :: _ :: _, _, h => exact h.elim
  | .scr _ :: _ :: _, _, h => exact h.elim
  | .xn _ :: _ :: _, _, h => exact h.elim
def pStr (ds : List D) : PR := match ds with
  | [d] => (match d with
    | .int i => if i.natAbs.log2 < 1920 then .v (.str (toString i)) else .bad
    | _ => .bad)
  | _ => .bad
theorem p_str : PrimN K (fun xs H Q => ∃ i, xs = [.int i] ∧ i.natAbs.log2 < 1920 ∧ Q (.str (toString i)) H) pStr := by
  intro G H xs ds Q m rs h
  match ds, rs, h with
  | [d], rs, h =>
    obtain ⟨v, rfl, r⟩ := repTs1 rs
    cases r with
    | int i =>
      dsimp only [pStr] at h
      by_cases w : i.natAbs.log2 < 1920
      · rw [if_pos w] at h; exact ⟨i, rfl, w, h _ (.str _)⟩
      · rw [if_neg w] at h; exact h.elim
    | _ => exact h.elim
  | [], _, h => exact h.elim
  | _ :: _ :: _, _, h => exact h.elim
def two (f : D → D → PR) (ds : List D) : PR := match ds with
  | [d, e] => f d e
  | _ => .bad
def pMin2 : List D → PR := two fun d e => match d, e with
  | .int i, .int j => .v (.int (if j < i then j else i))
  | _, _ => .bad
def pMax2 : List D → PR := two fun d e => match d, e with
  | .int i, .int j => .v (.int (if j > i then j else i))
  | _, _ => .bad
def pDivmod : List D → PR := two fun d e => match d, e with
  | .int i, .int j => if CDivW i j then .t [.int (i / j), .int (i % j)] else .bad
  | _, _ => .bad
theorem p_min2 : PrimN K (fun xs H Q => ∃ i j, xs = [.int i, .int j] ∧ Q (.int (if j < i then j else i)) H) pMin2 := by
  intro G H xs ds Q m rs h
  match ds, rs, h with
  | [d, e], rs, h =>
    obtain ⟨v, w, rfl, r, q⟩ := repTs2 rs
    cases r with
    | int i => cases q with
      | int j => exact ⟨i, j, rfl, h _ (.int _)⟩
      | _ => exact h.elim
    | _ => exact h.elim
  | [], _, h => exact h.elim
  | [_], _, h => exact h.elim
  | _ :: _ :: _ :: _, _, h => exact h.elim
theorem p_max2 : PrimN K (fun xs H Q => ∃ i j, xs = [.int i, .int j] ∧ Q (.int (if j > i then j else i)) H) pMax2 := by
  intro G H xs ds Q m rs h
  match ds, rs, h with
  | [d, e], rs, h =>
    obtain ⟨v, w, rfl, r, q⟩ := repTs2 rs
    cases r with
    | int i => cases q with
      | int j => exact ⟨i, j, rfl, h _ (.int _)⟩
      | _ => exact h.elim
    | _ => exact h.elim
  | [], _, h => exact h.elim
  | [_], _, h => exact h.elim
  | _ :: _ :: _ :: _, _, h => exact h.elim
theorem p_divmod : PrimN K rDivmodP pDivmod := by
  intro G H xs ds Q m rs h
  match ds, rs, h with
  | [d, e], rs, h =>
    obtain ⟨v, w, rfl, r, q⟩ := repTs2 rs
    cases r with
    | int i => cases q with
      | int j =>
        dsimp only [pDivmod, two] at h
        by_cases z : CDivW i j
        · rw [if_pos z] at h
          exact ⟨i, j, rfl, z, fun p o hp pl => h.2 p o _ hp pl (.cons (.int _) (.cons (.int _) .nil))⟩
        · rw [if_neg z] at h; exact h.elim
      | _ => exact h.elim
    | _ => exact h.elim
  | [], _, h => exact h.elim
  | [_], _, h => exact h.elim
  | _ :: _ :: _ :: _, _, h => exact h.elim
def intsOf : List D → Option (List Int)
  | [] => some []
  | .int i :: ds => (intsOf ds).map (i :: ·)
  | _ => none
theorem intsOf_map (ns : List Int) : intsOf (ns.map .int) = some ns := by
  induction ns with
  | nil => rfl
  | cons n ns ih => rw [List.map_cons]; dsimp only [intsOf]; rw [ih]; rfl
theorem intsOf_eq : ∀ {ds : List D} {ns : List Int}, intsOf ds = some ns → ds = ns.map .int
  | [], _, h => by cases h; rfl
  | d :: ds, ns, h => by
    cases d with
    | int i =>
      dsimp only [intsOf] at h
      cases q : intsOf ds with
      | none => rw [q] at h; cases h
      | some r =>
        rw [q] at h
        cases h
        rw [List.map_cons, ← intsOf_eq q]
    | _ => cases h
def one (f : List Int → PR) (ds : List D) : PR := match ds with
  | [d] => (match d with
    | .lst es => (match intsOf es with
      | some ns => f ns
      | none => .bad)
    | .tup es => .bad
    | .scr ns => f ns
    | _ => .bad)
  | _ => .bad
theorem one_go {G H : Hp} {xs : List V} {ds : List D} {Q : VK} {f : List Int → PR} (rs : RepTs K G H xs ds) (h : PPost K G H Q (one f ds)) : ∃ a ns, xs = [.ref a] ∧ SqL K H a (ns.map V.int) ∧ PPost K G H Q (f ns) := by
  match ds, rs, h with
  | [d], rs, h =>
    obtain ⟨v, rfl, r⟩ := repTs1 rs
    cases r with
    | @lst a vs es h1 r1 =>
      dsimp only [one] at h
      cases q : intsOf es with
      | none => simp only [q] at h; exact h.elim
      | some ns =>
        simp only [q] at h
        have e := intsOf_eq q
        subst e
        have e2 := r1.ints
        subst e2
        exact ⟨_, ns, rfl, .inl h1, h⟩
    | scr h1 => exact ⟨_, _, rfl, h1, h⟩
    | _ => exact h.elim
  | [], _, h => exact h.elim
  | _ :: _ :: _, _, h => exact h.elim
def pSum : List D → PR := one fun ns => .v (.int ns.sum)
theorem p_sum : PrimN K (rSum K) pSum := by
  intro G H xs ds Q m rs h
  obtain ⟨a, ns, e, hs, h⟩ := one_go rs h
  exact ⟨a, ns, e, hs, h _ (.int _)⟩
def minI : List Int → Int
  | [] => 0
  | n :: ns => ns.foldl min n
def maxI : List Int → Int
  | [] => 0
  | n :: ns => ns.foldl max n
theorem foldl_min_le : ∀ (ns : List Int) (n : Int), ns.foldl min n ≤ n ∧ (∀ y ∈ ns, ns.foldl min n ≤ y) ∧ (ns.foldl min n = n ∨ ns.foldl min n ∈ ns)
  | [], n => ⟨Int.le_refl _, by simp, .inl rfl⟩
  | m :: ns, n => by
    obtain ⟨h1, h2, h3⟩ := foldl_min_le ns (min n m)
    rw [List.foldl_cons]
    refine ⟨by omega, fun y hy => ?_, ?_⟩
    · rcases List.mem_cons.mp hy with e | hy
      · subst e; omega
      · exact h2 y hy
    · rcases h3 with e | e
      · by_cases z : n ≤ m
        · exact .inl (by rw [e]; omega)
        · exact .inr (by rw [e]; simp; left; omega)
      · exact .inr (List.mem_cons_of_mem _ e)
theorem foldl_max_le : ∀ (ns : List Int) (n : Int), n ≤ ns.foldl max n ∧ (∀ y ∈ ns, y ≤ ns.foldl max n) ∧ (ns.foldl max n = n ∨ ns.foldl max n ∈ ns)
  | [], n => ⟨Int.le_refl _, by simp, .inl rfl⟩
  | m :: ns, n => by
    obtain ⟨h1, h2, h3⟩ := foldl_max_le ns (max n m)
    rw [List.foldl_cons]
    refine ⟨by omega, fun y hy => ?_, ?_⟩
    · rcases List.mem_cons.mp hy with e | hy
      · subst e; omega
      · exact h2 y hy
    · rcases h3 with e | e
      · by_cases z : m ≤ n
        · exact .inl (by rw [e]; omega)
        · exact .inr (by rw [e]; simp; left; omega)
      · exact .inr (List.mem_cons_of_mem _ e)
theorem minI_mem {ns : List Int} (h : 0 < ns.length) : minI ns ∈ ns := by
  match ns, h with
  | n :: ns, _ =>
    rcases (foldl_min_le ns n).2.2 with e | e
    · exact List.mem_cons.mpr (.inl e)
    · exact List.mem_cons_of_mem _ e
theorem minI_le {ns : List Int} {y : Int} (h : y ∈ ns) : minI ns ≤ y := by
  match ns, h with
  | n :: ns, h =>
    rcases List.mem_cons.mp h with e | h
    · subst e; exact (foldl_min_le ns y).1
    · exact (foldl_min_le ns n).2.1 y h
theorem maxI_mem {ns : List Int} (h : 0 < ns.length) : maxI ns ∈ ns := by
  match ns, h with
  | n :: ns, _ =>
    rcases (foldl_max_le ns n).2.2 with e | e
    · exact List.mem_cons.mpr (.inl e)
    · exact List.mem_cons_of_mem _ e
theorem maxI_le {ns : List Int} {y : Int} (h : y ∈ ns) : y ≤ maxI ns := by
  match ns, h with
  | n :: ns, h =>
    rcases List.mem_cons.mp h with e | h
    · subst e; exact (foldl_max_le ns y).1
    · exact (foldl_max_le ns n).2.1 y h
def pMinL : List D → PR := one fun ns => if 0 < ns.length then .v (.int (minI ns)) else .bad
def pMaxL : List D → PR := one fun ns => if 0 < ns.length then .v (.int (maxI ns)) else .bad
theorem p_minL : PrimN K (rMin K) pMinL := by
  intro G H xs ds Q m rs h
  obtain ⟨a, ns, e, hs, h⟩ := one_go rs h
  by_cases z : 0 < ns.length
  · rw [if_pos z] at h
    refine ⟨a, ns, e, hs, z, fun k k1 k2 => ?_⟩
    have : k = minI ns := Int.le_antisymm (k2 _ (minI_mem z)) (minI_le k1)
    subst this
    exact h _ (.int _)
  · rw [if_neg z] at h; exact h.elim
theorem p_maxL : PrimN K (rMax K) pMaxL := by
  intro G H xs ds Q m rs h
  obtain ⟨a, ns, e, hs, h⟩ := one_go rs h
  by_cases z : 0 < ns.length
  · rw [if_pos z] at h
    refine ⟨a, ns, e, hs, z, fun k k1 k2 => ?_⟩
    have : k = maxI ns := Int.le_antisymm (maxI_le k1) (k2 _ (maxI_mem z))
    subst this
    exact h _ (.int _)
  · rw [if_neg z] at h; exact h.elim
end
end DL

/-! DL9: methods, stores, isinstance of built-in types. -/
namespace DL
open PySem PySem.Spec PyProof.Rows L2
section
variable {K : PySem.W.Frag} {X : Cx} {W : WX}
/-! ### methods that read -/
def firstF (x : D) : List D → Option Nat
  | [] => none
  | d :: ds => if eqF d x = true then some 0 else (firstF x ds).map (· + 1)
theorem firstF_at : ∀ {ds : List D} {x : D} {j : Nat}, firstF x ds = some j → (∃ d, ds[j]? = some d ∧ eqF d x = true) ∧ ∀ m d, m < j → ds[m]? = some d → eqF d x = false
  | [], _, _, h => by cases h
  | d :: ds, x, j, h => by
    dsimp only [firstF] at h
    by_cases z : eqF d x = true
    · rw [if_pos z] at h
      cases h
      exact ⟨⟨d, rfl, z⟩, fun m _ hm => absurd hm (Nat.not_lt_zero _)⟩
    · rw [if_neg z] at h
      cases q : firstF x ds with
      | none => rw [q] at h; cases h
      | some i =>
        rw [q] at h
        cases h
        obtain ⟨⟨e, h1, h2⟩, h3⟩ := firstF_at q
        refine ⟨⟨e, by simpa using h1, h2⟩, fun m d' hm hd => ?_⟩
        cases m with
        | zero =>
          simp at hd
          subst hd
          simpa using z
        | succ m => exact h3 m d' (Nat.lt_of_succ_lt_succ hm) (by simpa using hd)
def rIndexA (K : PySem.W.Frag) : V → List V → Hp → VK → Prop := rIndex K
def pIndex (d : D) (ds : List D) : PR := match d with
  | .lst es => (match ds with
    | [x] => if flatD x = true ∧ es.all flatD = true then (match firstF x es with
        | some j => .v (.int (j : Nat))
        | none => .bad) else .bad
    | _ => .bad)
  | _ => .bad
theorem p_index : PrimM K (rIndex K) pIndex := by
  intro G H x xs d ds Q m rx rs h0
  cases rx with
  | @lst a vs es h1 r1 =>
    match ds, rs, h0 with
    | [y], rs, h =>
      obtain ⟨w, rfl, ry⟩ := repTs1 rs
      dsimp only [pIndex] at h
      by_cases z : flatD y = true ∧ es.all flatD = true
      · rw [if_pos z] at h
        cases q : firstF y es with
        | none => simp only [q] at h; exact h.elim
        | some j =>
          simp only [q] at h
          obtain ⟨⟨e, h2, h3⟩, h4⟩ := firstF_at q
          obtain ⟨u, hu, ru⟩ := r1.get h2
          have fl : ∀ {i : Nat} {e : D}, es[i]? = some e → flatD e = true := fun hh => List.all_eq_true.mp z.2 _ (List.mem_of_getElem? hh)
          have ry := ry.flat z.1
          refine ⟨a, vs, w, j, u, rfl, rfl, .inl h1, flat_v ry z.1, flat_vs r1 z.2, hu, by rw [eq_v ru ry (fl h2) z.1]; exact h3, fun k u' hk hu' => ?_, h _ (.int _)⟩
          obtain ⟨e', he', re'⟩ := r1.getV hu'
          rw [eq_v re' ry (fl he') z.1]
          exact h4 k e' hk he'
      · rw [if_neg z] at h; exact h.elim
    | [], _, h => exact h.elim
    | _ :: _ :: _, _, h => exact h.elim
  | _ => exact h0.elim
def strsOf : List D → Option (List Str)
  | [] => some []
  | .str i :: ds => (strsOf ds).map (i :: ·)
  | _ => none
theorem strsOf_map (ns : List Str) : strsOf (ns.map .str) = some ns := by
  induction ns with
  | nil => rfl
  | cons n ns ih => rw [List.map_cons]; dsimp only [strsOf]; rw [ih]; rfl
theorem strsOf_eq : ∀ {ds : List D} {ns : List Str}, strsOf ds = some ns → ds = ns.map .str
  | [], _, h => by cases h; rfl
  | d :: ds, ns, h => by
    cases d with
    | str i =>
      dsimp only [strsOf] at h
      cases q : strsOf ds with
      | none => rw [q] at h; cases h
      | some r =>
        rw [q] at h
        cases h
        rw [List.map_cons, ← strsOf_eq q]
    | _ => cases h
def firstS (x : Str) : List Str → Option Nat
  | [] => none
  | d :: ds => if d = x then some 0 else (firstS x ds).map (· + 1)
theorem firstS_at : ∀ {ds : List Str} {x : Str} {j : Nat}, firstS x ds = some j → ds[j]? = some x ∧ ∀ m, m < j → ds[m]? ≠ some x
  | [], _, _, h => by cases h
  | d :: ds, x, j, h => by
    dsimp only [firstS] at h
    by_cases z : d = x
    · rw [if_pos z] at h
      cases h
      subst z
      exact ⟨rfl, fun m hm => absurd hm (Nat.not_lt_zero _)⟩
    · rw [if_neg z] at h
      cases q : firstS x ds with
      | none => rw [q] at h; cases h
      | some i =>
        rw [q] at h
        cases h
        obtain ⟨h1, h3⟩ := firstS_at q
        refine ⟨by simpa using h1, fun m hm hd => ?_⟩
        cases m with
        | zero => simp at hd; exact z hd
        | succ m => exact h3 m (Nat.lt_of_succ_lt_succ hm) (by simpa using hd)
def rTIndex (K : PySem.W.Frag) : V → List V → Hp → VK → Prop := fun x xs H Q => ∃ p, ∃ ys : List Str, ∃ z j, x = .ref p ∧ xs = [.str z] ∧ SqT K H p (ys.map V.str) ∧ ys[j]? = some z ∧ (∀ m, m < j → ys[m]? ≠ some z) ∧ Q (.int (j : Nat)) H
def pTIndex (d : D) (ds : List D) : PR := match d with
  | .tup es => (match ds with
    | [x] => (match x with
      | .str z => (match strsOf es with
        | some ys => (match firstS z ys with
          | some j => .v (.int (j : Nat))
          | none => .bad)
        | none => .bad)
      | _ => .bad)
    | _ => .bad)
  | _ => .bad
theorem p_tindex : PrimM K (rTIndex K) pTIndex := by
  intro G H x xs d ds Q m rx rs h0
  cases rx with
  | @tup a vs es h1 r1 =>
    match ds, rs, h0 with
    | [y], rs, h =>
      obtain ⟨w, rfl, ry⟩ := repTs1 rs
      cases ry with
      | str z =>
        dsimp only [pTIndex] at h
        cases q : strsOf es with
        | none => simp only [q] at h; exact h.elim
        | some ys =>
          simp only [q] at h
          cases q2 : firstS z ys with
          | none => simp only [q2] at h; exact h.elim
          | some j =>
            simp only [q2] at h
            have e := strsOf_eq q
            subst e
            have e2 := r1.strs
            subst e2
            obtain ⟨h2, h3⟩ := firstS_at q2
            exact ⟨a, ys, z, j, rfl, rfl, ((Mono.of m).seqT h1).t, h2, h3, h _ (.int _)⟩
      | _ => exact h.elim
    | [], _, h => exact h.elim
    | _ :: _ :: _, _, h => exact h.elim
  | _ => exact h0.elim
def rGet2 : V → List V → Hp → VK → Prop := fun x xs H Q => ∃ a y z o, x = .ref a ∧ xs = [y, z] ∧ DGet H a y o ∧ Q (o.getD z) H
theorem mt_get2 (hu : X.A.units + 1 < cLine) : MtR X "dict.get" rGet2 := by
  intro pins s σ H x xs v us Q I rx rs h
  obtain ⟨a, y, z, o, rfl, rfl, g, q⟩ := h
  cases rx
  obtain ⟨u, w', rfl, r1, r2⟩ := vals2 rs
  exact d_get2 hu I g r1 r2 fun w' s' I' r => ⟨_, H, I', r, q⟩
def pGet2 (d : D) (ds : List D) : PR := match d with
  | .dct es => (match ds with
    | [k, z] => (match keyD k with
      | some k1 => .v ((valD es k1).getD z)
      | none => .bad)
    | _ => .bad)
  | _ => .bad
/-- the default must be flat: it is handed back as it is -/
def pGet2F (d : D) (ds : List D) : PR := match ds with
  | [_, z] => if flatD z = true then pGet2 d ds else .bad
  | _ => .bad
theorem p_get2 : PrimM K rGet2 pGet2F := by
  intro G H x xs d ds Q m rx rs h0
  match ds, rs, h0 with
  | [k, z], rs, h =>
    obtain ⟨v, w, rfl, rk, rz⟩ := repTs2 rs
    dsimp only [pGet2F] at h
    by_cases fz : flatD z = true
    · rw [if_pos fz] at h
      cases rx with
      | @dct a vs es h1 r1 =>
        dsimp only [pGet2] at h
        cases q : keyD k with
        | none => simp only [q] at h; exact h.elim
        | some k1 =>
          simp only [q] at h
          refine ⟨a, v, w, valV vs k1, rfl, rfl, .inl ⟨vs, k1, h1, key_v rk q, rfl⟩, h _ ?_⟩
          have r := r1.val k1
          cases q2 : valD es k1 with
          | none =>
            rw [q2] at r
            generalize valV vs k1 = ov at r ⊢
            cases r
            exact rz.flat fz
          | some e =>
            rw [q2] at r
            obtain ⟨u, hu, ru⟩ := r.some_of
            rw [hu]
            exact ru
      | _ => exact h.elim
    · rw [if_neg fz] at h; exact h.elim
  | [], _, h => exact h.elim
  | [_], _, h => exact h.elim
  | _ :: _ :: _ :: _, _, h => exact h.elim
def rJoin (K : PySem.W.Frag) : V → List V → Hp → VK → Prop := fun x xs H Q => ∃ a p, ∃ ys : List Str, x = .str a ∧ xs = [.ref p] ∧ (SqL K H p (ys.map V.str) ∨ SqT K H p (ys.map V.str)) ∧
    (ys.map (·.length)).sum + ys.length * a.length ≤ 16777216 ∧ Q (.str (Txt.join a ys)) H
def pJoin (d : D) (ds : List D) : PR := match d with
  | .str a => (match ds with
    | [x] => (match x with
      | .lst es => (match strsOf es with
        | some ys => if (ys.map (·.length)).sum + ys.length * a.length ≤ 16777216 then .v (.str (Txt.join a ys)) else .bad
        | none => .bad)
      | .tup es => (match strsOf es with
        | some ys => if (ys.map (·.length)).sum + ys.length * a.length ≤ 16777216 then .v (.str (Txt.join a ys)) else .bad
        | none => .bad)
      | _ => .bad)
    | _ => .bad)
  | _ => .bad
theorem p_join : PrimM K (rJoin K) pJoin := by
  intro G H x xs d ds Q m rx rs h0
  cases rx with
  | str a =>
    match ds, rs, h0 with
    | [y], rs, h =>
      obtain ⟨w, rfl, ry⟩ := repTs1 rs
      cases ry with
      | @lst p vs es h1 r1 =>
        dsimp only [pJoin] at h
        cases q : strsOf es with
        | none => simp only [q] at h; exact h.elim
        | some ys =>
          simp only [q] at h
          by_cases z : (ys.map (·.length)).sum + ys.length * a.length ≤ 16777216
          · rw [if_pos z] at h
            have e := strsOf_eq q
            subst e
            have e2 := r1.strs
            subst e2
            exact ⟨a, p, ys, rfl, rfl, .inl (.inl h1), z, h _ (.str _)⟩
          · rw [if_neg z] at h; exact h.elim
      | @tup p vs es h1 r1 =>
        dsimp only [pJoin] at h
        cases q : strsOf es with
        | none => simp only [q] at h; exact h.elim
        | some ys =>
          simp only [q] at h
          by_cases z : (ys.map (·.length)).sum + ys.length * a.length ≤ 16777216
          · rw [if_pos z] at h
            have e := strsOf_eq q
            subst e
            have e2 := r1.strs
            subst e2
            exact ⟨a, p, ys, rfl, rfl, .inr ((Mono.of m).seqT h1).t, z, h _ (.str _)⟩
          · rw [if_neg z] at h; exact h.elim
      | _ => exact h.elim
    | [], _, h => exact h.elim
    | _ :: _ :: _, _, h => exact h.elim
  | _ => exact h0.elim

/-! ### methods that change -/
theorem cell_lst {G H : Hp} {a : Addr} {ds : List D} (c : Cell K G H a (.lst ds)) : ∃ vs, H a = some (.lst vs) ∧ RepAll K G vs ds := c
theorem cell_dct {G H : Hp} {a : Addr} {ds : List (Key × D)} (c : Cell K G H a (.dct ds)) : ∃ vs, H a = some (.dK vs) ∧ RepKV K G vs ds := c
def mAppend (d : D) (ds : List D) : Option (D × D) := match d with
  | .lst es => (match ds with
    | [x] => if es.length < 16777216 then some (.non, .lst (es ++ [x])) else none
    | _ => none)
  | _ => none
theorem m_append : MutOk K rAppend mAppend := by
  intro G H a d vs ds ret d' Q m c rs e k
  cases d with
  | lst es =>
    obtain ⟨us, hu, ru⟩ := cell_lst c
    match ds, rs, e with
    | [x], .cons rx .nil, e =>
      dsimp only [mAppend] at e
      by_cases z : es.length < 16777216
      · rw [if_pos z] at e
        cases e
        exact ⟨a, us, _, rfl, rfl, hu, by rw [ru.length, sizeLine_eq]; exact z, k _ _ .non ⟨_, upd_same, ru.snoc rx⟩⟩
      · rw [if_neg z] at e; cases e
    | [], _, e => cases e
    | _ :: _ :: _, _, e => cases e
  | _ => cases e
def mPop (d : D) (ds : List D) : Option (D × D) := match d with
  | .lst es => (match ds with
    | [] => (es[es.length - 1]?).map fun y => (y, .lst es.dropLast)
    | _ => none)
  | _ => none
theorem m_pop : MutOk K rPop mPop := by
  intro G H a d vs ds ret d' Q m c rs e k
  cases d with
  | lst es =>
    obtain ⟨us, hu, ru⟩ := cell_lst c
    match ds, rs, e with
    | [], .nil, e =>
      dsimp only [mPop] at e
      cases q : es[es.length - 1]? with
      | none => rw [q] at e; cases e
      | some y =>
        rw [q] at e
        cases e
        obtain ⟨v, hv, rv⟩ := ru.get q
        exact ⟨a, us, v, rfl, rfl, hu, by rw [ru.length]; exact hv, k _ _ rv ⟨_, upd_same, ru.dropLast⟩⟩
    | _ :: _, _, e => cases e
  | _ => cases e
def mPopAt (d : D) (ds : List D) : Option (D × D) := match d with
  | .lst es => (match ds with
    | [x] => (match x with
      | .int i => if -(2 ^ 63) ≤ i ∧ i < 2 ^ 63 then (match seqIndex? i es.length with
        | some j => (es[j]?).map fun y => (y, .lst (es.eraseIdx j))
        | none => none) else none
      | _ => none)
    | _ => none)
  | _ => none
theorem m_popAt : MutOk K rPopAt mPopAt := by
  intro G H a d vs ds ret d' Q m c rs e k
  cases d with
  | lst es =>
    obtain ⟨us, hu, ru⟩ := cell_lst c
    match ds, rs, e with
    | [x], .cons rx .nil, e =>
      cases rx with
      | int i =>
        dsimp only [mPopAt] at e
        by_cases z : -(2 ^ 63) ≤ i ∧ i < 2 ^ 63
        · rw [if_pos z] at e
          cases q0 : seqIndex? i es.length with
          | none => simp only [q0] at e; cases e
          | some j =>
            simp only [q0] at e
            cases q : es[j]? with
            | none => rw [q] at e; cases e
            | some y =>
              rw [q] at e
              cases e
              obtain ⟨v, hv, rv⟩ := ru.get q
              exact ⟨a, us, i, j, v, rfl, rfl, hu, z.1, z.2, by rw [ru.length]; exact q0, hv, k _ _ rv ⟨_, upd_same, ru.eraseIdx j⟩⟩
        · rw [if_neg z] at e; cases e
      | _ => cases e
    | [], _, e => cases e
    | _ :: _ :: _, _, e => cases e
  | _ => cases e
def mClear (d : D) (ds : List D) : Option (D × D) := match d with
  | .lst es => (match ds with
    | [] => some (.non, .lst [])
    | _ => none)
  | _ => none
theorem m_clear : MutOk K rClear mClear := by
  intro G H a d vs ds ret d' Q m c rs e k
  cases d with
  | lst es =>
    obtain ⟨us, hu, ru⟩ := cell_lst c
    match ds, rs, e with
    | [], .nil, e =>
      cases e
      exact ⟨a, us, rfl, rfl, hu, k _ _ .non ⟨_, upd_same, .nil⟩⟩
    | _ :: _, _, e => cases e
  | _ => cases e
def mReverse (d : D) (ds : List D) : Option (D × D) := match d with
  | .lst es => (match ds with
    | [] => some (.non, .lst es.reverse)
    | _ => none)
  | _ => none
theorem m_reverse : MutOk K rReverse mReverse := by
  intro G H a d vs ds ret d' Q m c rs e k
  cases d with
  | lst es =>
    obtain ⟨us, hu, ru⟩ := cell_lst c
    match ds, rs, e with
    | [], .nil, e =>
      cases e
      exact ⟨a, us, rfl, rfl, hu, k _ _ .non ⟨_, upd_same, ru.reverse⟩⟩
    | _ :: _, _, e => cases e
  | _ => cases e
def rInsert : V → List V → Hp → VK → Prop := fun x vs H Q => ∃ (l : Addr) (xs : List V) (i : Int) (y : V), x = .ref l ∧ vs = [.int i, y] ∧ H l = some (.lst xs) ∧ xs.length < sizeLine ∧ 0 ≤ i ∧ i < 2 ^ 63 ∧
    Q .non (upd H l (.lst (xs.take i.toNat ++ [y] ++ xs.drop i.toNat)))
def mInsert (d : D) (ds : List D) : Option (D × D) := match d with
  | .lst es => (match ds with
    | [x, y] => (match x with
      | .int i => if 0 ≤ i ∧ i < 2 ^ 63 ∧ es.length < 16777216 then some (.non, .lst (es.take i.toNat ++ [y] ++ es.drop i.toNat)) else none
      | _ => none)
    | _ => none)
  | _ => none
theorem m_insert : MutOk K rInsert mInsert := by
  intro G H a d vs ds ret d' Q m c rs e k
  cases d with
  | lst es =>
    obtain ⟨us, hu, ru⟩ := cell_lst c
    match ds, rs, e with
    | [x, y], .cons rx (.cons ry .nil), e =>
      cases rx with
      | int i =>
        dsimp only [mInsert] at e
        by_cases z : 0 ≤ i ∧ i < 2 ^ 63 ∧ es.length < 16777216
        · rw [if_pos z] at e
          cases e
          exact ⟨a, us, i, _, rfl, rfl, hu, by rw [ru.length, sizeLine_eq]; exact z.2.2, z.1, z.2.1, k _ _ .non ⟨_, upd_same, ((ru.take _).append (.cons ry .nil)).append (ru.drop _)⟩⟩
        · rw [if_neg z] at e; cases e
      | _ => cases e
    | [], _, e => cases e
    | [_], _, e => cases e
    | _ :: _ :: _ :: _, _, e => cases e
  | _ => cases e
end
end DL

/-! DL10: targets, what is walked, for, while. -/
namespace DL
open PySem PySem.Spec PyProof.Rows L2

/-! ### targets -/
abbrev GM := D → DEnv → Option DEnv
abbrev GsM := List D → DEnv → Option DEnv
/-- what a loop hands on: data; a tuple just made (tp) -/
def RepY (K : PySem.W.Frag) (G H : Hp) (tp : Bool) (v : V) (d : D) : Prop := Rep K G v d ∨ (tp = true ∧ ∃ p vs es, v = .ref p ∧ H p = some (.tup vs) ∧ d = .tup es ∧ RepAll K G vs es)
section
variable (K : PySem.W.Frag)
def GPost (H0 B G : Hp) (ws : List Nat) (σ : L2.St) (H : Hp) (Q : L2.St → Hp → Prop) : Option DEnv → Prop
  | some ρ' => ∀ σ', (∀ vs : List Nat, (∀ w ∈ ws, w ∈ vs) → wipe σ' vs = wipe σ vs) → StD K H0 B G ρ' σ' H → Q σ' H
  | none => False
def cG (tp : Bool) (ws : List Nat) (g : GM) : TG := fun v σ H Q => ∃ H0 B G ρ d, StD K H0 B G ρ σ H ∧ RepY K G H tp v d ∧ GPost K H0 B G ws σ H Q (g d ρ)
def cGs (ws : List Nat) (g : GsM) : TGs := fun vs σ H Q => ∃ H0 B G ρ ds, StD K H0 B G ρ σ H ∧ RepAll K G vs ds ∧ GPost K H0 B G ws σ H Q (g ds ρ)
end
abbrev DG (X : Cx) (tp : Bool) (ws : List Nat) (e : Expr) (g : GM) : Prop := PG X e (cG X.K tp ws g)
abbrev DGs (X : Cx) (ws : List Nat) (es : List Expr) (g : GsM) : Prop := PGs X es (cGs X.K ws g)
theorem wipe_set (σ : L2.St) {i : Nat} {x : Option V} : ∀ {vs : List Nat}, i ∈ vs → wipe (σ.set i x) vs = wipe σ vs
  | v :: vs, h => by
    unfold wipe
    rcases List.mem_cons.mp h with e | h
    · subst e
      have gen : ∀ (us : List Nat), (wipe (σ.set i x) us).set i none = (wipe σ us).set i none := by
        intro us
        induction us with
        | nil => unfold wipe; rw [List.set_set]
        | cons u us ih =>
          unfold wipe
          by_cases e : u = i
          · subst e
            rw [List.set_set, List.set_set]
            exact ih
          · rw [List.set_comm _ _ e, ih, List.set_comm _ _ (Ne.symm e)]
      exact gen vs
    · rw [wipe_set σ h]
theorem iG {X : Cx} {e : Expr} {t t' : TG} (h : PG X e t) (i : ∀ v σ H Q, t' v σ H Q → t v σ H Q) : PG X e t' := ⟨fun pins s σ H v u Q I r q => h.run pins s σ H v u Q I r (i _ _ _ _ q)⟩
theorem iGs {X : Cx} {e : List Expr} {t t' : TGs} (h : PGs X e t) (i : ∀ v σ H Q, t' v σ H Q → t v σ H Q) : PGs X e t' := ⟨fun pins s σ H v u Q I r q => h.run pins s σ H v u Q I r (i _ _ _ _ q)⟩
theorem orG {X : Cx} {e : Expr} {t t' : TG} (h : PG X e t) (h' : PG X e t') : PG X e (fun v σ H Q => t v σ H Q ∨ t' v σ H Q) := ⟨fun pins s σ H v u Q I r q => q.elim (h.run pins s σ H v u Q I r) (h'.run pins s σ H v u Q I r)⟩
section
variable {X : Cx} {W : WX} {e : Expr} {es : List Expr} {pos : Pos}
def gNm (i : Nat) : GM := fun d ρ => some (ρ.set i (.sh d))
theorem dg_name (i : Nat) {x : Str} (hN : X.N.Nodup) (hi : X.N[i]? = some x := by rfl) (hx : Loc X.env.scope x := by first | exact Or.inl rfl | exact Or.inr rfl)
    (hf : X.fn x = true ∨ X.env.scope.names.lookup x = some .local := by first | exact .inl rfl | exact .inr rfl | assumption) : DG X false [i] (.Name x pos) (gNm i) :=
  iG (pg_name hN hi hx hf) fun v σ H Q ⟨H0, B, G, ρ, d, I, r, h⟩ => by
    rcases r with r | ⟨z, _⟩
    · exact h _ (fun vs hw => wipe_set σ (hw i (by simp))) (I.setS i (s := .sh d) ⟨v, rfl, r⟩ fun _ z => nomatch z)
    · cases z
def gsNil : GsM := fun ds ρ => match ds with
  | [] => some ρ
  | _ => none
def gsCons (g : GM) (gs : GsM) : GsM := fun ds ρ => match ds with
  | d :: r => (match g d ρ with
    | some ρ1 => gs r ρ1
    | none => none)
  | [] => none
theorem dgs_nil : DGs X [] [] gsNil := iGs pgs_nil fun vs σ H Q ⟨H0, B, G, ρ, ds, I, r, h⟩ => by
  cases r with
  | nil => exact ⟨rfl, h σ (fun _ _ => rfl) I⟩
  | cons r t => exact h.elim
theorem dgs_cons {g : GM} {gs : GsM} {ws us : List Nat} (h1 : DG X false ws e g) (h2 : DGs X us es gs) (hs : (assignEach (e :: es) X.env).map (·.2) = assign e X.env :: (assignEach es X.env).map (·.2) := by rfl) : DGs X (ws ++ us) (e :: es) (gsCons g gs) :=
  iGs (pgs_cons h1 h2 hs) fun vs σ H Q ⟨H0, B, G, ρ, ds, I, r, h⟩ => by
    cases r with
    | nil => exact h.elim
    | @cons v vs d ds r t =>
      dsimp only [gsCons] at h
      refine ⟨v, vs, rfl, H0, B, G, ρ, d, I, .inl r, ?_⟩
      cases q : g d ρ with
      | none => simp only [q] at h; exact h.elim
      | some ρ1 =>
        simp only [q] at h
        intro σ1 w1 I1
        refine ⟨H0, B, G, ρ1, ds, I1, t, ?_⟩
        cases q2 : gs ds ρ1 with
        | none => rw [q2] at h; exact h.elim
        | some ρ2 =>
          rw [q2] at h
          exact fun σ2 w2 I2 => h σ2 (fun us hu => (w2 us fun w hw => hu w (List.mem_append_right _ hw)).trans (w1 us fun w hw => hu w (List.mem_append_left _ hw))) I2
/-- (a, b, ..) = a tuple or a list -/
def gUn (n : Nat) (gs : GsM) : GM := fun d ρ => match d with
  | .tup es => if es.length = n then gs es ρ else none
  | .lst es => if es.length = n then gs es ρ else none
  | _ => none
theorem dg_tup {tp : Bool} {gs : GsM} {ws : List Nat} {n k : Nat} (hc : X.calm = true) (h : DGs X ws es gs) (hn : (assignEach es X.env).length = n := by rfl) (hst : (assignEach es X.env).findIdx? (·.1) = none := by rfl) :
    DG X tp ws (.Tuple es k pos) (gUn n gs) :=
  iG (orG (pg_tup hc h hn hst) (pg_lst hc h hn hst)) fun v σ H Q ⟨H0, B, G, ρ, d, I, r, h⟩ => by
    have tupc : ∀ {p : Addr} {vs : List V} {ds : List D}, d = .tup ds → v = .ref p → SqT X.K H p vs → RepAll X.K G vs ds → gTup X.K n (cGs X.K ws gs) v σ H Q := fun {p vs ds} e1 e2 hs ra => by
      subst e1 e2
      dsimp only [gUn] at h
      by_cases z : ds.length = n
      · rw [if_pos z] at h
        exact ⟨p, vs, rfl, hs, by rw [ra.length]; exact z, H0, B, G, ρ, ds, I, ra, h⟩
      · rw [if_neg z] at h; exact h.elim
    rcases r with r | ⟨_, p, vs, ds, e1, e2, e3, ra⟩
    · cases r with
      | tup h1 r1 => exact .inl (tupc rfl rfl ((Mono.of I.gh).seqT h1).t r1)
      | @lst a vs ds h1 r1 =>
        dsimp only [gUn] at h
        by_cases z : ds.length = n
        · rw [if_pos z] at h
          exact .inr ⟨a, vs, rfl, .inl ((Mono.of I.gh).rd _ _ trivial h1), by rw [r1.length]; exact z, H0, B, G, ρ, ds, I, r1, h⟩
        · rw [if_neg z] at h; exact h.elim
      | _ => exact h.elim
    · exact .inl (tupc e3 e1 (SqT.of e2) ra)
/-- target = value -/
def goAsg (g : GM) (r : R) (ρ : DEnv) : SR := match fz ρ r with
  | some (d, ρ1) => (match g d ρ1 with
    | some ρ2 => .nx ρ2
    | none => .bad)
  | none => .bad
def sAsg (g : GM) (f : EM) : SM := fun ρ => (f ρ).toS (goAsg g)
theorem ds_asg {tg e : Expr} {tp : Bool} {ws : List Nat} {g : GM} {f : EM} (he : DE X W e f) (hg : DG X tp ws tg g) (hs : swapsWithSole [tg] e pos.line X.env = pure false := by rfl) (hw : swappedStores [tg] e X.env = pure none := by rfl)
    (h1 : (assignEach [tg] X.env).map (·.2) = [assign tg X.env] := by rfl) : DS X W (.Assign [tg] e pos) (sAsg g f) :=
  iS (ps_asg he hg hs hw h1) fun D σ H ⟨H0, B, G, ρ, I, h⟩ => cE.okSt I h fun r ρ1 v G1 H1 s1 I1 v1 h1 => by
    unfold goAsg at h1
    cases q : fz ρ1 r with
    | none => rw [q] at h1; exact h1.elim
    | some z =>
      obtain ⟨d, ρ2⟩ := z
      simp only [q] at h1
      obtain ⟨G2, s2, I2, r2⟩ := VR.fz I1 v1 q
      refine ⟨H0, B, G2, ρ2, d, I2, .inl r2, ?_⟩
      cases q2 : g d ρ2 with
      | none => simp only [q2] at h1; exact h1.elim
      | some ρ3 =>
        simp only [q2] at h1
        exact fun σ' _ I' => h1 σ' G2 H1 I'
/-- a, b = x, y -/
def goPar (i j : Nat) (rs : List R) (ρ : DEnv) : SR := match fzs ρ rs with
  | some (ds, ρ1) => (match ds with
    | [d, e] => .nx ((ρ1.set i (.sh d)).set j (.sh e))
    | _ => .bad)
  | none => .bad
def AR.toS (x : AR) (k : List R → DEnv → SR) : SR := match x with
  | .ok r ρ => k r ρ
  | .xc c ρ => .xc c ρ
  | .bad => .bad
def sPar (i j : Nat) (f : AM) : SM := fun ρ => (f ρ).toS (goPar i j)
theorem ds_par (i j : Nat) {x y : Str} {a b : Expr} {fa : AM} {px py pt : Pos} {kt k2 pt2} (hc : X.calm = true) (hN : X.N.Nodup) (ha : DA X W [a, b] fa) (hi : X.N[i]? = some x := by rfl) (hj : X.N[j]? = some y := by rfl) (hij : i ≠ j := by decide)
    (hx : X.env.scope.names.lookup x = some .local := by rfl) (hy : X.env.scope.names.lookup y = some .local := by rfl)
    (hw : swappedStores [.Tuple [.Name x px, .Name y py] kt pt] (.Tuple [a, b] k2 pt2) X.env = pure (some [x, y]) := by rfl)
    (hs : swapsWithSole [.Tuple [.Name x px, .Name y py] kt pt] (.Tuple [a, b] k2 pt2) pos.line X.env = pure false := by rfl) :
    DS X W (.Assign [.Tuple [.Name x px, .Name y py] kt pt] (.Tuple [a, b] k2 pt2) pos) (sPar i j fa) :=
  iS (ps_par hc hN hi hj hij hx hy ha hw hs) fun D σ H ⟨H0, B, G, ρ, I, h⟩ => by
    refine ⟨H0, B, G, ρ, I, ?_⟩
    unfold sPar at h
    cases q : fa ρ with
    | xc c ρ1 => rw [q] at h; exact fun cls G1 H1 s I1 e => h cls σ G1 H1 I1 e
    | bad => rw [q] at h; exact h
    | ok rs ρ1 =>
      rw [q] at h
      intro vs G1 H1 s1 I1 v1
      have h : SPost X.K X.mg H0 B W D (goPar i j rs ρ1) := h
      unfold goPar at h
      cases q2 : fzs ρ1 rs with
      | none => rw [q2] at h; exact h.elim
      | some z =>
        obtain ⟨ds, ρ2⟩ := z
        simp only [q2] at h
        obtain ⟨G2, s2, I2, ra⟩ := v1.fzs I1 q2
        match ds, ra, h with
        | [d, e], .cons r1 (.cons r2 .nil), h =>
          exact ⟨_, _, rfl, h _ G2 H1 ((I2.setS i (s := .sh d) ⟨_, rfl, r1⟩ fun _ z => nomatch z).setS j (s := .sh e) ⟨_, rfl, r2⟩ fun _ z => nomatch z)⟩
        | [], _, h => exact h.elim
        | [_], _, h => exact h.elim
        | _ :: _ :: _ :: _, _, h => exact h.elim
end

/-! ### what is walked -/
inductive IR where
  | ok (ds : List D) (ρ : DEnv) | xc (c : Str) (ρ : DEnv) | bad
abbrev IM := DEnv → IR
def ER.toI (x : ER) (k : R → DEnv → IR) : IR := match x with
  | .ok r ρ => k r ρ
  | .xc c ρ => .xc c ρ
  | .bad => .bad
def AR.toI (x : AR) (k : List R → DEnv → IR) : IR := match x with
  | .ok r ρ => k r ρ
  | .xc c ρ => .xc c ρ
  | .bad => .bad
/-- the iterator J serves the data ds while all of G stands -/
def Srv (K : PySem.W.Frag) (G : Hp) (J : It) (ds : List D) (tp : Bool) : Prop := ∀ H, Grow G H → (∀ i, i < ds.length → J.go i H) ∧ J.stop ds.length H ∧
  ∀ i x H', i < ds.length → J.yld i H x H' → ∃ d, ds[i]? = some d ∧ ((H' = H ∧ Rep K G x d) ∨ (tp = true ∧ ∃ p vs es, H p = none ∧ H' = upd H p (.tup vs) ∧ x = .ref p ∧ d = .tup es ∧ RepAll K G vs es))
def IPost (K : PySem.W.Frag) (mg : Str → Option Value) (H0 B G : Hp) (W : WX) (tp : Bool) (σ : L2.St) (R : It → Hp → Prop) : IR → Prop
  | .ok ds ρ' => ∀ J G' H', Grow G G' → StD K H0 B G' ρ' σ H' → Srv K G' J ds tp → R J H'
  | .xc c ρ' => ∀ cls G' H', Grow G G' → StD K H0 B G' ρ' σ H' → mg c = some cls → W cls none σ H'
  | .bad => False
def cI (K : PySem.W.Frag) (mg : Str → Option Value) (W : WX) (tp : Bool) (f : IM) : TI := fun σ H R => ∃ H0 B G ρ, StD K H0 B G ρ σ H ∧ IPost K mg H0 B G W tp σ R (f ρ)
abbrev DI (X : Cx) (W : WX) (tp : Bool) (tg e : Expr) (f : IM) : Prop := PI X tg e (cI X.K X.mg W tp f)
theorem iI {X : Cx} {tg e : Expr} {t t' : TI} (h : PI X tg e t) (i : ∀ σ H R, t' σ H R → t σ H R) : PI X tg e t' := ⟨fun pins s σ H R I q => h.run pins s σ H R I (i _ _ _ q)⟩
theorem orI {X : Cx} {tg e : Expr} {t t' : TI} (h : PI X tg e t) (h' : PI X tg e t') : PI X tg e (fun σ H R => t σ H R ∨ t' σ H R) := ⟨fun pins s σ H R I q => q.elim (h.run pins s σ H R I) (h'.run pins s σ H R I)⟩
section
variable {K : PySem.W.Frag} {mg : Str → Option Value} {H0 B G G' H : Hp} {ρ : DEnv} {W : WX} {σ : L2.St} {R1 : It → Hp → Prop} {tp : Bool}
theorem IPost.mono {x : IR} (h : IPost K mg H0 B G W tp σ R1 x) (s : Grow G G') : IPost K mg H0 B G' W tp σ R1 x := by
  cases x with
  | ok r ρ' => exact fun J G2 H2 s2 => h J G2 H2 (s.trans s2)
  | xc c ρ' => exact fun cls G2 H2 s2 => h cls G2 H2 (s.trans s2)
  | bad => exact h
theorem cE.okI {f : EM} (I : StD K H0 B G ρ σ H) {k : R → DEnv → IR} (h : IPost K mg H0 B G W tp σ R1 ((f ρ).toI k)) {R2 : VK}
    (go : ∀ r ρ1 v G1 H1, Grow G G1 → StD K H0 B G1 ρ1 σ H1 → VR K H0 G1 ρ1 σ H1 v r → IPost K mg H0 B G1 W tp σ R1 (k r ρ1) → R2 v H1) : cE K mg W f σ H R2 := by
  refine ⟨H0, B, G, ρ, I, ?_⟩
  cases e : f ρ with
  | ok r ρ1 =>
    rw [e] at h
    exact fun v G1 H1 s I1 x => go r ρ1 v G1 H1 s I1 x (IPost.mono h s)
  | xc c ρ1 =>
    rw [e] at h
    exact h
  | bad =>
    rw [e] at h
    exact h
theorem cA.okI {f : AM} (I : StD K H0 B G ρ σ H) {k : List R → DEnv → IR} (h : IPost K mg H0 B G W tp σ R1 ((f ρ).toI k)) {R2 : List V → Hp → Prop}
    (go : ∀ rs ρ1 vs G1 H1, Grow G G1 → StD K H0 B G1 ρ1 σ H1 → VSs K G1 σ vs rs → IPost K mg H0 B G1 W tp σ R1 (k rs ρ1) → R2 vs H1) : cA K mg W f σ H R2 := by
  refine ⟨H0, B, G, ρ, I, ?_⟩
  cases e : f ρ with
  | ok r ρ1 =>
    rw [e] at h
    exact fun v G1 H1 s I1 x => go r ρ1 v G1 H1 s I1 x (IPost.mono h s)
  | xc c ρ1 =>
    rw [e] at h
    exact h
  | bad =>
    rw [e] at h
    exact h
theorem sqT_inj {H : Hp} {a : Addr} {xs ys : List V} {o : Obj} (h : H a = some (.frz o (.tup xs))) (h2 : Rd H a (.tup ys)) : ys = xs := by
  rcases h2 with h2 | ⟨o2, h2⟩
  · rw [h] at h2; cases h2
  · rw [h] at h2; cases h2; rfl
theorem lt_get {ds : List D} {i : Nat} (h : i < ds.length) : ∃ d, ds[i]? = some d := ⟨ds[i], List.getElem?_eq_getElem h⟩
theorem srv_lst {G : Hp} {a : Addr} {vs : List V} {ds : List D} (h : Rd G a (.lst vs)) (r : RepAll K G vs ds) : Srv K G (Itl K a) ds tp := fun H s => by
  have h' : SqL K H a vs := .inl ((Mono.of s).rd _ _ trivial h)
  refine ⟨fun i hi => ?_, ⟨vs, h', Nat.le_of_eq r.length⟩, fun i x H' hi y => ?_⟩
  · obtain ⟨d, hd⟩ := lt_get hi
    obtain ⟨v, hv, _⟩ := r.get hd
    exact ⟨vs, v, h', hv⟩
  · obtain ⟨e, y⟩ := y
    obtain ⟨d, hd, rd⟩ := r.getV (y vs h')
    exact ⟨d, hd, .inl ⟨e, rd⟩⟩
theorem srv_scr {G : Hp} {a : Addr} {ns : List Int} (h : SqL K G a (ns.map V.int)) : Srv K G (Itl K a) (ns.map .int) tp := fun H s => by
  have h' : SqL K H a (ns.map V.int) := (Mono.of s).seq h
  have r := RepAll.of_ints (K := K) (G := G) ns
  refine ⟨fun i hi => ?_, ⟨_, h', Nat.le_of_eq r.length⟩, fun i x H' hi y => ?_⟩
  · obtain ⟨d, hd⟩ := lt_get hi
    obtain ⟨v, hv, _⟩ := r.get hd
    exact ⟨_, v, h', hv⟩
  · obtain ⟨e, y⟩ := y
    obtain ⟨d, hd, rd⟩ := r.getV (y _ h')
    exact ⟨d, hd, .inl ⟨e, rd⟩⟩
theorem srv_tup {G : Hp} {a : Addr} {vs : List V} {ds : List D} (h : SqP K G a vs) (r : RepAll K G vs ds) : Srv K G (Itt K a) ds tp := fun H s => by
  have h' : SqT K H a vs := ((Mono.of s).seqT h).t
  refine ⟨fun i hi => ?_, ⟨vs, h', Nat.le_of_eq r.length⟩, fun i x H' hi y => ?_⟩
  · obtain ⟨d, hd⟩ := lt_get hi
    obtain ⟨v, hv, _⟩ := r.get hd
    exact ⟨vs, v, h', hv⟩
  · obtain ⟨e, y⟩ := y
    obtain ⟨d, hd, rd⟩ := r.getV (y vs h')
    exact ⟨d, hd, .inl ⟨e, rd⟩⟩
def signs (z : Str) : List D := z.cps.toList.map fun c => .str ⟨#[c]⟩
theorem srv_str {G : Hp} (z : Str) : Srv K G (Its z) (signs z) tp := fun H s => by
  have hl : (signs z).length = z.cps.size := by unfold signs; simp
  refine ⟨fun i hi => by rw [hl] at hi; exact hi, Nat.le_of_eq hl.symm, fun i x H' hi y => ?_⟩
  obtain ⟨e, c, hc, ex⟩ := y
  subst ex
  exact ⟨.str ⟨#[c]⟩, by unfold signs; rw [List.getElem?_map, Array.getElem?_toList, hc]; rfl, .inl ⟨e, .str _⟩⟩
def rangeD (lo : Int) (n : Nat) : List D := (List.range n).map fun i => .int (lo + (i : Nat))
theorem srv_rng {G : Hp} (lo : Int) (n : Nat) : Srv K G (Itr lo n) (rangeD lo n) tp := fun H s => by
  have hl : (rangeD lo n).length = n := by unfold rangeD; simp
  refine ⟨fun i hi => by rw [hl] at hi; exact hi, Nat.le_of_eq hl.symm, fun i x H' hi y => ?_⟩
  obtain ⟨e, ex⟩ := y
  rw [hl] at hi
  subst ex
  exact ⟨.int (lo + (i : Nat)), by unfold rangeD; rw [List.getElem?_map, List.getElem?_range hi]; rfl, .inl ⟨e, .int _⟩⟩
theorem srv_rev {G : Hp} {a : Addr} {vs : List V} {ds : List D} (h : Rd G a (.lst vs)) (r : RepAll K G vs ds) : Srv K G (Itv K a vs.length) ds.reverse tp := fun H s => by
  have h' : SqL K H a vs := .inl ((Mono.of s).rd _ _ trivial h)
  have hl : ds.reverse.length = vs.length := by rw [List.length_reverse, r.length]
  refine ⟨fun i hi => ?_, Nat.le_of_eq hl.symm, fun i x H' hi y => ?_⟩
  · rw [hl] at hi
    have : vs.length - 1 - i < vs.length := by omega
    exact ⟨hi, vs, vs[vs.length - 1 - i], h', List.getElem?_eq_getElem this⟩
  · obtain ⟨e, y⟩ := y
    rw [hl] at hi
    obtain ⟨d, hd, rd⟩ := r.getV (y vs h')
    refine ⟨d, ?_, .inl ⟨e, rd⟩⟩
    rw [List.getElem?_reverse (by rw [← r.length]; exact hi), ← r.length]
    exact hd
theorem srv_revT {G : Hp} {a : Addr} {vs : List V} {ds : List D} (h : SqP K G a vs) (r : RepAll K G vs ds) : Srv K G (RT.ItvT K a vs.length) ds.reverse tp := fun H s => by
  have h' : SqT K H a vs := ((Mono.of s).seqT h).t
  have hl : ds.reverse.length = vs.length := by rw [List.length_reverse, r.length]
  refine ⟨fun i hi => ?_, Nat.le_of_eq hl.symm, fun i x H' hi y => ?_⟩
  · rw [hl] at hi
    have : vs.length - 1 - i < vs.length := by omega
    exact ⟨hi, vs, vs[vs.length - 1 - i], h', List.getElem?_eq_getElem this⟩
  · obtain ⟨e, y⟩ := y
    rw [hl] at hi
    obtain ⟨d, hd, rd⟩ := r.getV (y vs h')
    refine ⟨d, ?_, .inl ⟨e, rd⟩⟩
    rw [List.getElem?_reverse (by rw [← r.length]; exact hi), ← r.length]
    exact hd
end
def itemsD : D → Option (List D)
  | .lst ds => some ds
  | .tup ds => some ds
  | .scr ns => some (ns.map .int)
  | .str z => some (signs z)
  | _ => none
def goSeq (r : R) (ρ : DEnv) : IR := match fz ρ r with
  | some (d, ρ1) => (match itemsD d with
    | some ds => .ok ds ρ1
    | none => .bad)
  | none => .bad
def iSeq (f : EM) : IM := fun ρ => (f ρ).toI goSeq
def goRev (r : R) (ρ : DEnv) : IR := match fz ρ r with
  | some (d, ρ1) => (match d with
    | .lst ds => .ok ds.reverse ρ1
    | .tup ds => .ok ds.reverse ρ1
    | _ => .bad)
  | none => .bad
def iRevD (f : EM) : IM := fun ρ => (f ρ).toI goRev
def intR : R → Option Int
  | .sh (.int i) => some i
  | _ => none
def goRng1 (rs : List R) (ρ : DEnv) : IR := match rs with
  | [r] => (match intR r with
    | some j => if -(2 ^ 62) ≤ j ∧ j < 2 ^ 62 then .ok (rangeD 0 j.toNat) ρ else .bad
    | none => .bad)
  | _ => .bad
def goRng2 (rs : List R) (ρ : DEnv) : IR := match rs with
  | [r, s] => (match intR r, intR s with
    | some i, some j => if (-(2 ^ 62) ≤ i ∧ i < 2 ^ 62) ∧ -(2 ^ 62) ≤ j ∧ j < 2 ^ 62 then .ok (rangeD i (j - i).toNat) ρ else .bad
    | _, _ => .bad)
  | _ => .bad
theorem intR_v {K : PySem.W.Frag} {G : Hp} {σ : L2.St} {v : V} {r : R} {i : Int} (h : VS K G σ v r) (e : intR r = some i) : v = .int i := by
  cases r with
  | sh d =>
    cases d with
    | int j => cases e; cases h; rfl
    | _ => cases e
  | _ => cases e
def iRange1 (f : AM) : IM := fun ρ => (f ρ).toI goRng1
def iRange2 (f : AM) : IM := fun ρ => (f ρ).toI goRng2
section
variable {X : Cx} {W : WX} {e a b tg : Expr} {es : List Expr} {pos p : Pos} {tp : Bool}
theorem di_seq {f : EM} (he : DE X W e f) : DI X W tp tg e (iSeq f) := by
  refine iI (orI (pi_list he) (orI (pi_tup he) (pi_str he))) fun σ H R1 ⟨H0, B, G, ρ, I, h⟩ => ?_
  -- which of the three, by what f gives
  have go : ∀ {R2 : VK}, (∀ d ρ2 v G2 H1 ds, itemsD d = some ds → Grow G G2 → StD X.K H0 B G2 ρ2 σ H1 → Rep X.K G2 v d → IPost X.K X.mg H0 B G2 W tp σ R1 (.ok ds ρ2) → (∃ ρ1 r, f ρ = .ok r ρ1 ∧ fz ρ1 r = some (d, ρ2)) → R2 v H1) → cE X.K X.mg W f σ H R2 := fun {R2} k => by
    refine ⟨H0, B, G, ρ, I, ?_⟩
    unfold iSeq at h
    cases e : f ρ with
    | xc c ρ1 => rw [e] at h; exact h
    | bad => rw [e] at h; exact h
    | ok r ρ1 =>
      rw [e] at h
      intro v G1 H1 s1 I1 x
      have h : IPost X.K X.mg H0 B G W tp σ R1 (goSeq r ρ1) := h
      unfold goSeq at h
      cases q : fz ρ1 r with
      | none => rw [q] at h; exact h.elim
      | some z =>
        obtain ⟨d, ρ2⟩ := z
        simp only [q] at h
        obtain ⟨G2, s2, I2, r2⟩ := VR.fz I1 x q
        cases q2 : itemsD d with
        | none => simp only [q2] at h; exact h.elim
        | some ds =>
          simp only [q2] at h
          exact k d ρ2 v G2 H1 ds q2 (s1.trans s2) I2 r2 (IPost.mono h (s1.trans s2)) ⟨ρ1, r, e, q⟩
  by_cases kt : ∃ ds ρ1 ρ2 r, f ρ = .ok r ρ1 ∧ fz ρ1 r = some (.tup ds, ρ2)
  · refine .inr (.inl (go fun d ρ2 v G2 H1 ds hi s I2 r h ⟨ρ1, rr, e1, e2⟩ => ?_))
    obtain ⟨ds', ρ1', ρ2', r', e1', e2'⟩ := kt
    rw [e1] at e1'
    cases e1'
    rw [e2] at e2'
    cases e2'
    cases hi
    cases r with
    | tup h1 r1 => exact ⟨_, rfl, ⟨_, ((Mono.of I2.gh).seqT h1).t⟩, h _ G2 H1 (Grow.refl _) I2 (srv_tup h1 r1)⟩
  · by_cases ks : ∃ z ρ1 ρ2 r, f ρ = .ok r ρ1 ∧ fz ρ1 r = some (.str z, ρ2)
    · refine .inr (.inr (go fun d ρ2 v G2 H1 ds hi s I2 r h ⟨ρ1, rr, e1, e2⟩ => ?_))
      obtain ⟨z', ρ1', ρ2', r', e1', e2'⟩ := ks
      rw [e1] at e1'
      cases e1'
      rw [e2] at e2'
      cases e2'
      cases hi
      cases r with
      | str z => exact ⟨_, rfl, h _ G2 H1 (Grow.refl _) I2 (srv_str _)⟩
    · refine .inl (go fun d ρ2 v G2 H1 ds hi s I2 r h ⟨ρ1, rr, e1, e2⟩ => ?_)
      cases r with
      | lst h1 r1 => cases hi; exact ⟨_, rfl, ⟨_, .inl ((Mono.of I2.gh).rd _ _ trivial h1)⟩, h _ G2 H1 (Grow.refl _) I2 (srv_lst h1 r1)⟩
      | scr h1 => cases hi; exact ⟨_, rfl, ⟨_, (Mono.of I2.gh).seq h1⟩, h _ G2 H1 (Grow.refl _) I2 (srv_scr h1)⟩
      | tup h1 r1 => exact absurd ⟨_, _, _, _, e1, e2⟩ kt
      | str z => exact absurd ⟨_, _, _, _, e1, e2⟩ ks
      | _ => cases hi
theorem di_rev {f : EM} (hg : Gl X "reversed") (hm : X.mg "reversed" = none) (he : DE X W e f) (hs : starEach [e] X.env = (false, eval e X.env) :: starEach [] X.env := by rfl) : DI X W tp tg (.Call (.Name "reversed" p) [e] [] pos) (iRevD f) :=
  iI (RT.pi_revA hg hm he hs) fun σ H R1 ⟨H0, B, G, ρ, I, h⟩ => cE.okI I h fun r ρ1 v G1 H1 s1 I1 x h1 => by
    unfold goRev at h1
    cases q : fz ρ1 r with
    | none => rw [q] at h1; exact h1.elim
    | some z =>
      obtain ⟨d, ρ2⟩ := z
      simp only [q] at h1
      obtain ⟨G2, s2, I2, r2⟩ := VR.fz I1 x q
      cases r2 with
      | lst g1 r1 => exact ⟨_, _, rfl, .inl ⟨.inl ((Mono.of I2.gh).rd _ _ trivial g1), h1 _ G2 H1 s2 I2 (srv_rev g1 r1)⟩⟩
      | tup g1 r1 => exact ⟨_, _, rfl, .inr ⟨((Mono.of I2.gh).seqT g1).t, h1 _ G2 H1 s2 I2 (srv_revT g1 r1)⟩⟩
      | _ => exact h1.elim
theorem di_range1 {f : AM} (hg : Gl X "range") (hm : X.mg "range" = none) (ha : DA X W [a] f) (hs : starEach [a] X.env = [(false, eval a X.env)] := by rfl) : DI X W tp tg (.Call (.Name "range" p) [a] [] pos) (iRange1 f) :=
  iI (pi_range1 hg hm ha hs) fun σ H R1 ⟨H0, B, G, ρ, I, h⟩ => cA.okI I h fun rs ρ1 vs G1 H1 s1 I1 x h1 => by
    match rs, x, h1 with
    | [r], .cons x .nil, h1 =>
      dsimp only [goRng1] at h1
      cases q : intR r with
      | none => simp only [q] at h1; exact h1.elim
      | some j =>
        simp only [q] at h1
        have e := intR_v x q
        subst e
        by_cases z : -(2 ^ 62) ≤ j ∧ j < 2 ^ 62
        · rw [if_pos z] at h1
          exact ⟨j, rfl, z.1, z.2, h1 _ G1 H1 (Grow.refl _) I1 (srv_rng 0 j.toNat)⟩
        · rw [if_neg z] at h1; exact h1.elim
    | [], _, h1 => exact h1.elim
    | _ :: _ :: _, _, h1 => exact h1.elim
theorem di_range2 {f : AM} (hg : Gl X "range") (hm : X.mg "range" = none) (ha : DA X W [a, b] f) (hs : starEach [a, b] X.env = [(false, eval a X.env), (false, eval b X.env)] := by rfl) (hs2 : starEach [b] X.env = [(false, eval b X.env)] := by rfl) : DI X W tp tg (.Call (.Name "range" p) [a, b] [] pos) (iRange2 f) :=
  iI (pi_range2 hg hm ha hs hs2) fun σ H R1 ⟨H0, B, G, ρ, I, h⟩ => cA.okI I h fun rs ρ1 vs G1 H1 s1 I1 x h1 => by
    match rs, x, h1 with
    | [r, s], .cons x (.cons y .nil), h1 =>
      dsimp only [goRng2] at h1
      cases q : intR r with
      | none => simp only [q] at h1; exact h1.elim
      | some i =>
        cases q2 : intR s with
        | none => simp only [q, q2] at h1; exact h1.elim
        | some j =>
          simp only [q, q2] at h1
          have e := intR_v x q
          subst e
          have e2 := intR_v y q2
          subst e2
          by_cases z : (-(2 ^ 62) ≤ i ∧ i < 2 ^ 62) ∧ -(2 ^ 62) ≤ j ∧ j < 2 ^ 62
          · rw [if_pos z] at h1
            exact ⟨i, j, rfl, ⟨z.1.1, z.1.2, z.2.1, z.2.2⟩, h1 _ G1 H1 (Grow.refl _) I1 (srv_rng i (j - i).toNat)⟩
          · rw [if_neg z] at h1; exact h1.elim
    | [], _, h1 => exact h1.elim
    | [_], _, h1 => exact h1.elim
    | _ :: _ :: _ :: _, _, h1 => exact h1.elim
end
end DL

/-! DL11: for, while, comprehensions. -/
namespace DL
open PySem PySem.Spec PyProof.Rows L2

/-! ### the frozen part fixed through a loop -/
section
variable {K : PySem.W.Frag} {mg : Str → Option Value} {H0 B G G' G1 H H' : Hp} {ρ ρ' : DEnv} {W : WX} {σ σ' : L2.St} {D : Ends}
theorem StD.rebase (I : StD K H0 B G ρ σ H) : StD K H0 G G ρ σ H := ⟨I.gh, ⟨I.h0.m, fun a o e n => by
    cases q : B a with
    | none => exact I.h0.own a o e q
    | some u =>
      obtain ⟨w, hw⟩ := I.bg.there q
      rw [n] at hw
      cases hw⟩, Grow.refl G, fun a o e n => (by rw [n] at e; cases e), I.len, I.sl, I.dj⟩
theorem StD.unbase (I : StD K H0 B G1 ρ σ H) (J : StD K H0 G1 G' ρ' σ' H') : StD K H0 B G' ρ' σ' H' :=
  ⟨J.gh, ⟨J.h0.m, fun a o e n => by
    cases q : G1 a with
    | none => exact J.h0.own a o e q
    | some u =>
      have := I.nb a u q n
      rw [e] at this
      cases this⟩, I.bg.trans J.bg, fun a o e n => by
    cases q : G1 a with
    | none => exact J.nb a o e q
    | some u => exact I.nb a u q n, J.len, J.sl, J.dj⟩
/-- behind a later state with another base too -/
theorem SPost.unbase {x : SR} (I : StD K H0 B G1 ρ σ H) (h : SPost K mg H0 B W D x) : SPost K mg H0 G1 W D x := by
  cases x with
  | nx ρ' => exact fun σ' G' H' J => h σ' G' H' (I.unbase J)
  | rt r ρ' => exact fun v σ' G' H' J => h v σ' G' H' (I.unbase J)
  | bk ρ' => exact fun σ' G' H' J => h σ' G' H' (I.unbase J)
  | ct ρ' => exact fun σ' G' H' J => h σ' G' H' (I.unbase J)
  | xc c ρ' => exact fun cls σ' G' H' J => h cls σ' G' H' (I.unbase J)
  | bad => exact h
end

/-! ### for -/
def forL (g : GM) (body : SM) : List DL.D → DEnv → SR
  | [], ρ => .nx ρ
  | d :: ds, ρ => match g d ρ with
    | none => .bad
    | some ρ1 => match body ρ1 with
      | .nx ρ2 => forL g body ds ρ2
      | .ct ρ2 => forL g body ds ρ2
      | .bk ρ2 => .nx ρ2
      | .rt r ρ2 => .rt r ρ2
      | .xc c ρ2 => .xc c ρ2
      | .bad => .bad
def IR.toS (x : IR) (k : List DL.D → DEnv → SR) : SR := match x with
  | .ok r ρ => k r ρ
  | .xc c ρ => .xc c ρ
  | .bad => .bad
def sFor (it : IM) (g : GM) (body : SM) : SM := fun ρ => (it ρ).toS (forL g body)
theorem drop_get {α : Type} {l : List α} {i : Nat} {x : α} (h : l[i]? = some x) : l.drop i = x :: l.drop (i + 1) := by
  obtain ⟨hi, e⟩ := List.getElem?_eq_some_iff.mp h
  rw [List.drop_eq_getElem_cons hi, e]
section
variable {X : Cx} {W : WX} {tg iter c : Expr} {body : List Stmt} {pos : Pos} {tp : Bool} {ws : List Nat}
theorem ds_for {it : IM} {g : GM} {fb : SM} (hp : PassesOwn (model X.prog X.w) X.A X.env X.xe) (hc : X.calm = true) (hi : DI X W tp tg iter it) (hg : DG X tp ws tg g) (hb : DSs X W body fb) (hs : ∀ x, foldedSetIterable iter X.env x = pure x := by intro _; rfl) :
    DS X W (.For tg iter body [] pos) (sFor it g fb) :=
  iS (ps_for hp hc hi hg hb hs) fun D σ H ⟨H0, B, G, ρ, I, h⟩ => by
    refine ⟨H0, B, G, ρ, I, ?_⟩
    unfold sFor at h
    cases q : it ρ with
    | xc c ρ1 => rw [q] at h; exact fun cls G1 H1 s I1 e => h cls σ G1 H1 I1 e
    | bad => rw [q] at h; exact h
    | ok ds ρ1 =>
      rw [q] at h
      intro J G1 H1 s1 I1 srv
      have h : SPost X.K X.mg H0 B W D (forL g fb ds ρ1) := h
      have h := SPost.unbase I1 h
      refine ⟨fun i m σ H => m = ds.length - i ∧ i ≤ ds.length ∧ ∃ G ρ, StD X.K H0 G1 G ρ σ H ∧ SPost X.K X.mg H0 G1 W D (forL g fb (ds.drop i) ρ), ⟨ds.length, rfl, Nat.zero_le _, G1, ρ1, I1.rebase, h⟩, ?_⟩
      rintro i m σ2 H2 ⟨rfl, hi, G2, ρ2, I2, h2⟩
      obtain ⟨sgo, sstop, syld⟩ := srv H2 (I2.bg.trans I2.gh)
      by_cases hlt : i < ds.length
      · obtain ⟨d, hd⟩ := lt_get hlt
        rw [drop_get hd] at h2
        refine .inr ⟨sgo i hlt, fun σ' H' => ∃ G ρ, StD X.K H0 G1 G ρ σ' H' ∧ SPost X.K X.mg H0 G1 W D (forL g fb (ds.drop (i + 1)) ρ), fun σ' H' n' => ⟨ds.length - (i + 1), by omega, rfl, hlt, n'⟩, fun x H' y => ?_⟩
        obtain ⟨d', hd', yy⟩ := syld i x H' hlt y
        rw [hd] at hd'
        cases hd'
        dsimp only [forL] at h2
        -- the target, then the body
        have fin : ∀ {H3 : Hp}, StD X.K H0 G1 G2 ρ2 σ2 H3 → RepY X.K G2 H3 tp x d → cG X.K tp ws g x σ2 H3 fun σ2 H2 => cS X.K X.mg W fb { D with nx := fun σ' H' => ∃ G ρ, StD X.K H0 G1 G ρ σ' H' ∧ SPost X.K X.mg H0 G1 W D (forL g fb (ds.drop (i + 1)) ρ), ct := fun σ' H' => ∃ G ρ, StD X.K H0 G1 G ρ σ' H' ∧ SPost X.K X.mg H0 G1 W D (forL g fb (ds.drop (i + 1)) ρ), bk := D.nx } σ2 H2 := fun {H3} I3 ry => by
          refine ⟨H0, G1, G2, ρ2, d, I3, ry, ?_⟩
          cases q3 : g d ρ2 with
          | none => simp only [q3] at h2; exact h2.elim
          | some ρ3 =>
            simp only [q3] at h2
            intro σ3 _ J3
            refine ⟨H0, G1, G2, ρ3, J3, ?_⟩
            cases q4 : fb ρ3 with
            | nx ρ4 => simp only [q4] at h2; exact fun σ' G' H' J4 => ⟨G', ρ4, J4, h2⟩
            | ct ρ4 => simp only [q4] at h2; exact fun σ' G' H' J4 => ⟨G', ρ4, J4, h2⟩
            | bk ρ4 => simp only [q4] at h2; exact h2
            | rt r ρ4 => simp only [q4] at h2; exact h2
            | xc c ρ4 => simp only [q4] at h2; exact h2
            | bad => simp only [q4] at h2; exact h2
        rcases yy with ⟨e, r⟩ | ⟨et, p, vs, es, hp, e, ex, ed, ra⟩
        · subst e
          exact fin I2 (.inl (r.mono (Mono.of I2.bg)))
        · subst e
          exact fin (I2.alloc hp) (.inr ⟨et, p, vs, es, ex, upd_same, ed, ra.mono (Mono.of I2.bg)⟩)
      · have e : i = ds.length := by omega
        subst e
        rw [List.drop_length] at h2
        exact .inl ⟨sstop, h2 σ2 G2 H2 I2⟩

/-! ### while -/
def whlN (c : TM) (body : SM) : Nat → DEnv → SR
  | 0, _ => .bad
  | n + 1, ρ => match c ρ with
    | .bad => .bad
    | .xc e ρ1 => .xc e ρ1
    | .ok b ρ1 => if b = true then (match body ρ1 with
      | .nx ρ2 => whlN c body n ρ2
      | .ct ρ2 => whlN c body n ρ2
      | .bk ρ2 => .nx ρ2
      | .rt r ρ2 => .rt r ρ2
      | .xc e ρ2 => .xc e ρ2
      | .bad => .bad) else .nx ρ1
open Classical in
noncomputable def sWhl (c : TM) (body : SM) : SM := fun ρ => if h : ∃ n, whlN c body n ρ ≠ .bad then whlN c body (choose h) ρ else .bad
theorem whlN_up (c : TM) (body : SM) : ∀ (n k : Nat) (ρ : DEnv), whlN c body n ρ ≠ .bad → whlN c body (n + k) ρ = whlN c body n ρ
  | 0, k, ρ, h => (h rfl).elim
  | n + 1, k, ρ, h => by
    rw [Nat.succ_add]
    dsimp only [whlN] at h ⊢
    cases q : c ρ with
    | bad => rfl
    | xc e ρ1 => rfl
    | ok b ρ1 =>
      simp only [q] at h ⊢
      cases b with
      | false => rfl
      | true =>
        simp only [if_true] at h ⊢
        cases q2 : body ρ1 with
        | nx ρ2 => simp only [q2] at h ⊢; exact whlN_up c body n k ρ2 h
        | ct ρ2 => simp only [q2] at h ⊢; exact whlN_up c body n k ρ2 h
        | bk ρ2 => rfl
        | rt r ρ2 => rfl
        | xc e ρ2 => rfl
        | bad => rfl
theorem sWhl_eq {c : TM} {body : SM} {n : Nat} {ρ : DEnv} (h : whlN c body n ρ ≠ .bad) : sWhl c body ρ = whlN c body n ρ := by
  unfold sWhl
  have hx : ∃ n, whlN c body n ρ ≠ .bad := ⟨n, h⟩
  rw [dif_pos hx]
  have hc := Classical.choose_spec hx
  rcases Nat.le_total n (Classical.choose hx) with l | l
  · obtain ⟨k, e⟩ := Nat.exists_eq_add_of_le l
    rw [e]
    exact whlN_up c body n k ρ h
  · obtain ⟨k, e⟩ := Nat.exists_eq_add_of_le l
    have := whlN_up c body (Classical.choose hx) k ρ hc
    rw [← e] at this
    exact this.symm
theorem sWhl_some {c : TM} {body : SM} {ρ : DEnv} (h : sWhl c body ρ ≠ .bad) : ∃ n, whlN c body n ρ = sWhl c body ρ ∧ whlN c body n ρ ≠ .bad := by
  unfold sWhl at h ⊢
  by_cases hx : ∃ n, whlN c body n ρ ≠ .bad
  · rw [dif_pos hx] at h ⊢
    exact ⟨_, rfl, h⟩
  · rw [dif_neg hx] at h
    exact (h rfl).elim
theorem ds_while {fc : TM} {fb : SM} (hp : PassesOwn (model X.prog X.w) X.A X.env X.xe) (hc : DT X W c fc) (hb : DSs X W body fb) : DS X W (.While c body [] pos) (sWhl fc fb) :=
  iS (ps_while hp hc hb) fun D σ H ⟨H0, B, G, ρ, I, h⟩ => by
    have nb : sWhl fc fb ρ ≠ .bad := fun e => by rw [e] at h; exact h
    obtain ⟨n, e, hn⟩ := sWhl_some nb
    rw [← e] at h
    refine ⟨fun m σ H => ∃ G ρ, StD X.K H0 B G ρ σ H ∧ SPost X.K X.mg H0 B W D (whlN fc fb m ρ), ⟨n, G, ρ, I, h⟩, ?_⟩
    rintro m σ2 H2 ⟨G2, ρ2, I2, h2⟩
    cases m with
    | zero => exact h2.elim
    | succ m =>
      refine ⟨H0, B, G2, ρ2, I2, ?_⟩
      dsimp only [whlN] at h2
      cases q : fc ρ2 with
      | bad => simp only [q] at h2; exact h2
      | xc e ρ3 => simp only [q] at h2; exact fun cls G3 H3 s I3 e => h2 cls σ2 G3 H3 I3 e
      | ok b ρ3 =>
        simp only [q] at h2
        intro G3 H3 s3 I3
        cases b with
        | false => rw [if_neg Bool.false_ne_true] at h2 ⊢; exact h2 σ2 G3 H3 I3
        | true =>
          rw [if_pos rfl] at h2 ⊢
          refine ⟨fun σ H => ∃ G ρ, StD X.K H0 B G ρ σ H ∧ SPost X.K X.mg H0 B W D (whlN fc fb m ρ), fun σ' H' n' => ⟨m, Nat.lt_succ_self m, n'⟩, H0, B, G3, ρ3, I3, ?_⟩
          cases q4 : fb ρ3 with
          | nx ρ4 => simp only [q4] at h2; exact fun σ' G' H' J4 => ⟨G', ρ4, J4, h2⟩
          | ct ρ4 => simp only [q4] at h2; exact fun σ' G' H' J4 => ⟨G', ρ4, J4, h2⟩
          | bk ρ4 => simp only [q4] at h2; exact h2
          | rt r ρ4 => simp only [q4] at h2; exact h2
          | xc c ρ4 => simp only [q4] at h2; exact h2
          | bad => simp only [q4] at h2; exact h2
end

/-! ### comprehensions -/
def wipeD (ρ : DEnv) : List Nat → DEnv
  | [] => ρ
  | v :: vs => (wipeD ρ vs).set v .un
theorem wipeD_len (ρ : DEnv) : ∀ vs : List Nat, (wipeD ρ vs).length = ρ.length
  | [] => rfl
  | v :: vs => by unfold wipeD; rw [List.length_set, wipeD_len ρ vs]
theorem wipeD_get {ρ : DEnv} {i : Nat} {s : Sl} : ∀ {vs : List Nat}, (wipeD ρ vs)[i]? = some s → s = .un ∨ (ρ[i]? = some s ∧ i ∉ vs)
  | [], h => .inr ⟨h, by simp⟩
  | v :: vs, h => by
    unfold wipeD at h
    rcases set_get h with ⟨_, e⟩ | ⟨ne, h⟩
    · exact .inl e
    · rcases wipeD_get h with e | ⟨h1, h2⟩
      · exact .inl e
      · exact .inr ⟨h1, by simp only [List.mem_cons, not_or]; exact ⟨ne, h2⟩⟩
theorem wipe_out' {σ : L2.St} {i : Nat} : ∀ {vs : List Nat}, i ∉ vs → (wipe σ vs)[i]? = σ[i]?
  | [], _ => rfl
  | v :: vs, h => by
    simp only [List.mem_cons, not_or] at h
    unfold wipe
    rw [List.getElem?_set_ne (Ne.symm h.1)]
    exact wipe_out' h.2
section
variable {K : PySem.W.Frag} {H0 B G H : Hp} {ρ : DEnv} {σ σ' : L2.St}
/-- the slots at vs forgotten, whatever stands there -/
theorem StD.wiped (I : StD K H0 B G ρ σ H) {vs : List Nat} (hl : σ'.length = σ.length) (h : ∀ i, i ∉ vs → σ'[i]? = σ[i]?) : StD K H0 B G (wipeD ρ vs) σ' H := by
  refine ⟨I.gh, I.h0, I.bg, I.nb, by rw [wipeD_len, hl]; exact I.len, fun i s e => ?_, fun i j d e p a b f1 f2 => ?_⟩
  · rcases wipeD_get e with rfl | ⟨e, ni⟩
    · trivial
    · rw [h i ni]; exact I.sl i s e
  · rcases wipeD_get a with z | ⟨a, ni⟩
    · cases z
    · rcases wipeD_get b with z | ⟨b, nj⟩
      · cases z
      · rw [h i ni] at f1
        rw [h j nj] at f2
        exact I.dj i j d e p a b f1 f2
theorem Grow.both {X Y : Hp} {p : Addr} {o o' : HO} (h : Grow (upd X p o) Y) : Grow (upd X p o') (upd Y p o') := ⟨fun a u q e => by
  by_cases z : a = p
  · subst z
    unfold Rd at e ⊢
    rw [upd_same] at e ⊢
    exact e
  · have := h.rd a u q
    unfold Rd at e this ⊢
    rw [upd_ne z] at e this ⊢
    exact this e, fun a w u e => by
  by_cases z : a = p
  · subst z
    rw [upd_same] at e ⊢
    exact e
  · have := h.fr a w u
    rw [upd_ne z] at e this ⊢
    exact this e⟩
theorem Grow.both0 {X Y : Hp} {p : Addr} {o : HO} (h : Grow X Y) : Grow (upd X p o) (upd Y p o) := ⟨fun a u q e => by
  by_cases z : a = p
  · subst z
    unfold Rd at e ⊢
    rw [upd_same] at e ⊢
    exact e
  · have := h.rd a u q
    unfold Rd at e this ⊢
    rw [upd_ne z] at e ⊢
    exact this e, fun a w u e => by
  by_cases z : a = p
  · subst z
    rw [upd_same] at e ⊢
    exact e
  · rw [upd_ne z] at e ⊢
    exact h.fr a w u e⟩
/-- the own list at p, held beside the slots, grows -/
theorem StD.beside {p : Addr} {o o' : HO} (hp0 : H0 p = none) (hb : B p = none) (I : StD K (upd H0 p o) B G ρ σ H) : StD K (upd H0 p o') B G ρ σ (upd H p o') := by
  have hp : H p = some o := I.h0.own p o upd_same hb
  have gp : G p = none := by
    cases q : G p with
    | none => rfl
    | some u =>
      have := I.nb p u q hb
      rw [upd_same] at this
      cases this
  refine ⟨I.gh.off gp, ⟨I.h0.m.both, fun a u e n => ?_⟩, I.bg, fun a u e n => ?_, I.len, fun i s e => ?_, I.dj⟩
  · by_cases z : a = p
    · subst z; rw [upd_same] at e ⊢; exact e
    · rw [upd_ne z] at e ⊢
      exact I.h0.own a u (by rw [upd_ne z]; exact e) n
  · have q := I.nb a u e n
    by_cases z : a = p
    · subst z; rw [gp] at e; cases e
    · rw [upd_ne z] at q ⊢; exact q
  · have x := I.sl i s e
    cases s with
    | un => trivial
    | sh d => exact x
    | ow d =>
      obtain ⟨q, e1, g1, h1, c⟩ := x
      have nq : q ≠ p := fun z => by subst z; rw [upd_same] at h1; cases h1
      rw [upd_ne nq] at h1
      exact ⟨q, e1, g1, by rw [upd_ne nq]; exact h1, c.mono (Mono.refl _) (upd_ne nq)⟩
/-- .. is laid beside -/
theorem StD.beside0 {p : Addr} {o : HO} (I : StD K H0 B G ρ σ H) (hp : H p = none) : StD K (upd H0 p o) B G ρ σ (upd H p o) := by
  have J := I.alloc (o := o) hp
  obtain ⟨g, h0⟩ := I.gfree hp
  refine ⟨J.gh, ⟨I.h0.m.both0, fun a u e n => ?_⟩, J.bg, fun a u e n => ?_, J.len, fun i s e => ?_, J.dj⟩
  · by_cases z : a = p
    · subst z; rw [upd_same] at e ⊢; exact e
    · rw [upd_ne z] at e; exact J.h0.own _ _ e n
  · rw [upd_ne (ne_of_none e g)]; exact J.nb a u e n
  · have x := J.sl i s e
    cases s with
    | un => trivial
    | sh d => exact x
    | ow d =>
      obtain ⟨q, e1, g1, h1, c⟩ := x
      have nq : q ≠ p := fun z => I.notown hp i d e (by rw [← z]; exact join_some e1)
      exact ⟨q, e1, g1, by rw [upd_ne nq]; exact h1, c⟩
/-- .. and told at the end -/
theorem StD.besideEnd {p : Addr} {o : HO} (hp0 : H0 p = none) (hb : B p = none) (I : StD K (upd H0 p o) B G ρ σ H) : StD K H0 B G ρ σ H ∧ H p = some o ∧ G p = none ∧ ∀ (i : Nat) (e : D), ρ[i]? = some (.ow e) → σ[i]? ≠ some (some (.ref p)) := by
  have hp : H p = some o := I.h0.own p o upd_same hb
  have gp : G p = none := by
    cases q : G p with
    | none => rfl
    | some u =>
      have := I.nb p u q hb
      rw [upd_same] at this
      cases this
  have down : ∀ q, upd H0 p o q = none → H0 q = none := fun q e => by
    by_cases z : q = p
    · subst z; exact hp0
    · rw [upd_ne z] at e; exact e
  refine ⟨⟨I.gh, ⟨((Grow.refl H0).off hp0).trans I.h0.m, fun a u e n => I.h0.own a u (by rw [upd_ne (ne_of_none e hp0)]; exact e) n⟩, I.bg, fun a u e n => down a (I.nb a u e n), I.len, fun i s e => ?_, I.dj⟩, hp, gp, fun i e a b => ?_⟩
  · have x := I.sl i s e
    cases s with
    | un => trivial
    | sh d => exact x
    | ow d =>
      obtain ⟨q, e1, g1, h1, c⟩ := x
      exact ⟨q, e1, g1, down q h1, c⟩
  · obtain ⟨q, e1, _, h1, _⟩ := I.ow a
    rw [b] at e1
    cases e1
    rw [upd_same] at h1
    cases h1
end
def lcL (vs : List Nat) (g : GM) (tt : TM) (elt : EM) : List D → List D → DEnv → ER
  | [], acc, ρ => .ok (.ow (.lst acc)) ρ
  | d :: ds, acc, ρ => match g d ρ with
    | none => .bad
    | some ρ1 => match tt ρ1 with
      | .ok b ρ2 => if b = true then (match elt ρ2 with
        | .ok r ρ3 => (match fz ρ3 r with
          | some (x, ρ4) => lcL vs g tt elt ds (acc ++ [x]) (wipeD ρ4 vs)
          | none => .bad)
        | _ => .bad) else lcL vs g tt elt ds acc (wipeD ρ2 vs)
      | _ => .bad
def IR.toE (x : IR) (k : List D → DEnv → ER) : ER := match x with
  | .ok r ρ => k r ρ
  | .xc c ρ => .xc c ρ
  | .bad => .bad
def eLC (vs : List Nat) (it : IM) (g : GM) (tt : TM) (elt : EM) : EM := fun ρ => (it ρ).toE fun ds ρ1 => if ds.length ≤ 16777216 then lcL vs g tt elt ds [] (wipeD ρ1 vs) else .bad
abbrev WF : WX := fun _ _ _ _ => False
theorem lc_imp {K : PySem.W.Frag} {mg : Str → Option Value} {W : WX} {tp : Bool} {ws vs : List Nat} {it : IM} {g : GM} {tt : TM} {elt : EM} (hw : ∀ w ∈ ws, w ∈ vs) :
    ∀ σ H Q, cE K mg W (eLC vs it g tt elt) σ H Q → tLc (cI K mg W tp it) (cG K tp ws g) (cT K mg WF tt) (cE K mg WF elt) vs σ H Q := fun σ H Q ⟨H0, B, G, ρ, I, h⟩ => by
  refine ⟨H0, B, G, ρ, I, ?_⟩
  unfold eLC at h
  cases q : it ρ with
  | xc c ρ1 => rw [q] at h; exact h
  | bad => rw [q] at h; exact h
  | ok ds ρ1 =>
    rw [q] at h
    intro J G1 H1 s1 I1 srv p hp
    have h : EPost K mg H0 B G W σ Q (if ds.length ≤ 16777216 then lcL vs g tt elt ds [] (wipeD ρ1 vs) else .bad) := h
    by_cases hz : ds.length ≤ 16777216
    · rw [if_pos hz] at h
      obtain ⟨g1p, h0p⟩ := I1.gfree hp
      refine ⟨fun i m H => m = ds.length - i ∧ i ≤ ds.length ∧ ∃ acc vacc G2 ρ2, StD K (upd H0 p (.lst vacc)) G1 G2 (wipeD ρ2 vs) (wipe σ vs) H ∧ RepAll K G2 vacc acc ∧ acc.length ≤ i ∧ EPost K mg H0 B G1 W σ Q (lcL vs g tt elt (ds.drop i) acc (wipeD ρ2 vs)),
        ⟨ds.length, rfl, Nat.zero_le _, [], [], G1, ρ1, ?_, .nil, Nat.le_refl _, EPost.mono h s1⟩, ?_⟩
      · exact (I1.rebase.beside0 (o := .lst []) hp).wiped (by rw [wipe_length]) fun i ni => wipe_out' ni
      · rintro i m H2 ⟨rfl, hi, acc, vacc, G2, ρ2, I2, ra, hacc, h2⟩
        obtain ⟨sgo, sstop, syld⟩ := srv H2 (I2.bg.trans I2.gh)
        by_cases hlt : i < ds.length
        · obtain ⟨d, hd⟩ := lt_get hlt
          rw [drop_get hd] at h2
          refine .inr ⟨sgo i hlt, fun H => ∃ acc vacc G2 ρ2, StD K (upd H0 p (.lst vacc)) G1 G2 (wipeD ρ2 vs) (wipe σ vs) H ∧ RepAll K G2 vacc acc ∧ acc.length ≤ i + 1 ∧ EPost K mg H0 B G1 W σ Q (lcL vs g tt elt (ds.drop (i + 1)) acc (wipeD ρ2 vs)),
            fun H' n' => ⟨ds.length - (i + 1), by omega, rfl, hlt, n'⟩, fun x H' y => ?_⟩
          obtain ⟨d', hd', yy⟩ := syld i x H' hlt y
          rw [hd] at hd'
          cases hd'
          dsimp only [lcL] at h2
          have go : ∀ {H3 : Hp}, StD K (upd H0 p (.lst vacc)) G1 G2 (wipeD ρ2 vs) (wipe σ vs) H3 → RepY K G2 H3 tp x d →
              cG K tp ws g x (wipe σ vs) H3 fun σ2 H2 => wipe σ2 vs = wipe σ vs ∧ cT K mg WF tt σ2 H2 fun b H3 => if b = true then cE K mg WF elt σ2 H3 fun y H4 => ∃ acc, H4 p = some (.lst acc) ∧ acc.length < sizeLine ∧
                (∃ acc' vacc G2 ρ2, StD K (upd H0 p (.lst vacc)) G1 G2 (wipeD ρ2 vs) (wipe σ vs) (upd H4 p (.lst (acc ++ [y]))) ∧ RepAll K G2 vacc acc' ∧ acc'.length ≤ i + 1 ∧ EPost K mg H0 B G1 W σ Q (lcL vs g tt elt (ds.drop (i + 1)) acc' (wipeD ρ2 vs)))
                else ∃ acc vacc G2 ρ2, StD K (upd H0 p (.lst vacc)) G1 G2 (wipeD ρ2 vs) (wipe σ vs) H3 ∧ RepAll K G2 vacc acc ∧ acc.length ≤ i + 1 ∧ EPost K mg H0 B G1 W σ Q (lcL vs g tt elt (ds.drop (i + 1)) acc (wipeD ρ2 vs)) := fun {H3} I3 ry => by
            refine ⟨upd H0 p (.lst vacc), G1, G2, wipeD ρ2 vs, d, I3, ry, ?_⟩
            cases q3 : g d (wipeD ρ2 vs) with
            | none => simp only [q3] at h2; exact h2.elim
            | some ρ3 =>
              simp only [q3] at h2
              intro σ3 w3 J3
              have ew : wipe σ3 vs = wipe σ vs := by
                rw [w3 vs hw]
                -- wiping twice is wiping once
                apply List.ext_getElem?
                intro j
                by_cases hj : j ∈ vs
                · have wn : ∀ (τ : L2.St) (us : List Nat), j ∈ us → (wipe τ us)[j]? = (if j < τ.length then some none else none) := by
                    intro τ us
                    induction us with
                    | nil => intro h; cases h
                    | cons u us ih =>
                      intro h
                      unfold wipe
                      by_cases e : u = j
                      · subst e
                        by_cases l : u < τ.length
                        · rw [List.getElem?_set_self (by rw [wipe_length]; exact l), if_pos l]
                        · rw [if_neg l, List.getElem?_eq_none]
                          rw [List.length_set, wipe_length]
                          omega
                      · rw [List.getElem?_set_ne e]
                        rcases List.mem_cons.mp h with z | z
                        · exact absurd z.symm e
                        · exact ih z
                  rw [wn _ _ hj, wn _ _ hj, wipe_length]
                · rw [wipe_out' hj]
              refine ⟨ew, upd H0 p (.lst vacc), G1, G2, ρ3, J3, ?_⟩
              have lw : ∀ {τ : L2.St} {ρ' : DEnv} {H4 G4 : Hp}, StD K (upd H0 p (.lst vacc)) G1 G4 ρ' σ3 H4 → StD K (upd H0 p (.lst vacc)) G1 G4 (wipeD ρ' vs) (wipe σ vs) H4 := fun {τ ρ' H4 G4} J => by
                rw [← ew]
                exact J.wiped (by rw [wipe_length]) fun i ni => wipe_out' ni
              cases q4 : tt ρ3 with
              | xc c ρ4 => simp only [q4] at h2; exact h2.elim
              | bad => simp only [q4] at h2; exact h2
              | ok b ρ4 =>
                simp only [q4] at h2
                intro G4 H4 s4 J4
                cases b with
                | false =>
                  rw [if_neg Bool.false_ne_true] at h2 ⊢
                  exact ⟨acc, vacc, G4, ρ4, lw (τ := σ3) J4, ra.mono (Mono.of s4), Nat.le_succ_of_le hacc, h2⟩
                | true =>
                  rw [if_pos rfl] at h2 ⊢
                  refine ⟨upd H0 p (.lst vacc), G1, G4, ρ4, J4, ?_⟩
                  cases q5 : elt ρ4 with
                  | xc c ρ5 => simp only [q5] at h2; exact h2.elim
                  | bad => simp only [q5] at h2; exact h2
                  | ok r ρ5 =>
                    simp only [q5] at h2
                    intro v G5 H5 s5 J5 x5
                    cases q6 : fz ρ5 r with
                    | none => simp only [q6] at h2; exact h2.elim
                    | some z =>
                      obtain ⟨e, ρ6⟩ := z
                      simp only [q6] at h2
                      obtain ⟨G6, s6, J6, r6⟩ := VR.fz J5 x5 q6
                      refine ⟨vacc, J6.h0.own p _ upd_same g1p, ?_, acc ++ [e], vacc ++ [v], G6, ρ6, (lw (τ := σ3) J6).beside h0p g1p, ((ra.mono (Mono.of (s4.trans (s5.trans s6)))).snoc r6), ?_, h2⟩
                      · rw [sizeLine_eq, ra.length]; omega
                      · rw [List.length_append, List.length_singleton]; omega
          rcases yy with ⟨e, r⟩ | ⟨et, a, us, es, ha, e, ex, ed, rs⟩
          · subst e
            exact go I2 (.inl (r.mono (Mono.of I2.bg)))
          · subst e
            exact go (I2.alloc ha) (.inr ⟨et, a, us, es, ex, upd_same, ed, rs.mono (Mono.of I2.bg)⟩)
        · have e : i = ds.length := by omega
          subst e
          rw [List.drop_length] at h2
          dsimp only [lcL] at h2
          obtain ⟨J, hpl, gp, nx⟩ := I2.besideEnd h0p g1p
          have J2 : StD K H0 G1 G2 (wipeD ρ2 vs) σ H2 := by
            refine ⟨J.gh, J.h0, J.bg, J.nb, by rw [J.len, wipe_length], fun j s e => ?_, fun j k d e q a b f1 f2 => ?_⟩
            · rcases wipeD_get e with rfl | ⟨_, nj⟩
              · trivial
              · have := J.sl j s e
                rw [wipe_out' nj] at this
                exact this
            · rcases wipeD_get a with z | ⟨_, nj⟩
              · cases z
              · rcases wipeD_get b with z | ⟨_, nk⟩
                · cases z
                · exact J.dj j k d e q a b (by rw [wipe_out' nj]; exact f1) (by rw [wipe_out' nk]; exact f2)
          refine .inl ⟨sstop, h2 _ G2 H2 J.bg (I1.unbase J2) ⟨p, rfl, gp, h0p, fun j e a b => ?_, vacc, hpl, ra⟩⟩
          rcases wipeD_get a with z | ⟨_, nj⟩
          · cases z
          · exact nx j e a (by rw [wipe_out' nj]; exact b)
    · rw [if_neg hz] at h; exact h.elim
section
variable {X : Cx} {W : WX} {elt tg iter : Expr} {ifs : List Expr} {scope : Scope} {own : List (Str × Nat)} {pos spos py : Pos} {tp : Bool} {ws : List Nat} {it : IM} {g : GM} {tt : TM} {fe : EM}
abbrev DTs (X : Cx) (W : WX) (ifs : List Expr) (f : TM) : Prop := PTs X ifs (cT X.K X.mg W f)
def tYesD : TM := fun ρ => .ok true ρ
theorem dts_nil : DTs X W [] tYesD := ⟨fun pins s σ H Q I ⟨H0, B, G, ρ, J, h⟩ => pts_nil.run pins s σ H Q I (h G H (Grow.refl _) J)⟩
theorem dts_one {c : Expr} {f : TM} (h : DT X W c f) : DTs X W [c] f := pts_one h
theorem de_lc (hc : X.calm = true) (hN : X.N.Nodup) (hi : DI X W tp tg iter it) (ok : BlkOk X.N X.env.scope scope own) (hw : ∀ w ∈ ws, w ∈ own.map (·.2))
    (hg : ∀ (s : Shared) (H : Hp) (C : Addr) (cl : List (Str × Addr)) (fp : List Addr), DG (X.blk s H scope (compEnvC scope cl C X.env) fp) tp ws tg g)
    (ht : ∀ (s : Shared) (H : Hp) (C : Addr) (cl : List (Str × Addr)) (fp : List Addr), DTs (X.blk s H scope (compEnvC scope cl C X.env) fp) WF ifs tt)
    (he : ∀ (s : Shared) (H : Hp) (C : Addr) (cl : List (Str × Addr)) (fp : List Addr), DE (X.blk s H scope (compEnvC scope cl C X.env) fp) WF elt fe) (hs : ∀ x, foldedSetIterable iter X.env x = pure x := by intro _; rfl) :
    DE X W (.ListComp elt [⟨tg, iter, ifs, 0⟩] scope pos) (eLC (own.map (·.2)) it g tt fe) :=
  iE (pe_lc hc hN hi ok hg ht he hs) (lc_imp hw)
theorem tLc_mono {wi : TI} {g : TG} {tt : TT} {te : TE} {vs : List Nat} {σ : L2.St} {H : Hp} {Q Q' : VK} (hm : ∀ (R R' : It → Hp → Prop), (∀ J H, R J H → R' J H) → wi σ H R → wi σ H R') (h : tLc wi g tt te vs σ H Q) (hq : ∀ v H, Q v H → Q' v H) : tLc wi g tt te vs σ H Q' :=
  hm _ _ (fun J H1 k p hp => by
    obtain ⟨W, w0, turn⟩ := k p hp
    refine ⟨W, w0, fun i m H w => ?_⟩
    rcases turn i m H w with ⟨s, q⟩ | r
    · exact .inl ⟨s, hq _ _ q⟩
    · exact .inr r) h
/-- name = [..] -/
theorem ds_setLc (i : Nat) {y : Str} (hc : X.calm = true) (hN : X.N.Nodup) (hsw : swapsWith (.ListComp elt [⟨tg, iter, ifs, 0⟩] scope pos) (some (.Name y py)) spos.line X.env = pure true) (hi : DI X W tp tg iter it) (ok : BlkOk X.N X.env.scope scope own) (hw : ∀ w ∈ ws, w ∈ own.map (·.2))
    (hg : ∀ (s : Shared) (H : Hp) (C : Addr) (cl : List (Str × Addr)) (fp : List Addr), DG (X.blk s H scope (compEnvC scope cl C X.env) fp) tp ws tg g)
    (ht : ∀ (s : Shared) (H : Hp) (C : Addr) (cl : List (Str × Addr)) (fp : List Addr), DTs (X.blk s H scope (compEnvC scope cl C X.env) fp) WF ifs tt)
    (he : ∀ (s : Shared) (H : Hp) (C : Addr) (cl : List (Str × Addr)) (fp : List Addr), DE (X.blk s H scope (compEnvC scope cl C X.env) fp) WF elt fe)
    (hy : X.N[i]? = some y := by rfl) (hyl : X.env.scope.names.lookup y = some .local := by rfl) (hs : ∀ x, foldedSetIterable iter X.env x = pure x := by intro _; rfl) :
    DS X W (.Assign [.Name y py] (.ListComp elt [⟨tg, iter, ifs, 0⟩] scope pos) spos) (sSet i (eLC (own.map (·.2)) it g tt fe)) :=
  iS (ps_setLc hc hN hy hyl hsw hi ok hg ht he hs) fun D σ H ⟨H0, B, G, ρ, I, h⟩ =>
    lc_imp hw σ H _ (cE.okSt I h fun r ρ1 v G1 H1 s1 I1 v1 h1 => goSet_go I1 v1 h1)
end
end DL

/-! DL12: for over dicts, enumerate, zip; stores; op=; isinstance. -/
namespace DL
open PySem PySem.Spec PyProof.Rows L2

/-! ### locking a dict that is walked -/
section
variable {K : PySem.W.Frag} {mg : Str → Option Value} {H0 B G H : Hp} {ρ : DEnv} {W : WX} {σ : L2.St} {D : Ends}
theorem rd_pl {H : Hp} {d : Addr} {u x : HO} (h : H d = some u) (hu : Pl u) (hx : Pl x) (r : Rd H d x) : x = u := by
  rcases r with r | ⟨o, r⟩
  · rw [h] at r; cases r; rfl
  · rw [h] at r; cases r; exact hu.elim
theorem rd_fr {H : Hp} {d : Addr} {o : Obj} {u x : HO} (h : H d = some (.frz o u)) (hx : Pl x) (r : Rd H d x) : x = u := by
  rcases r with r | ⟨o, r⟩
  · rw [h] at r; cases r; exact hx.elim
  · rw [h] at r; cases r; rfl
theorem Grow.lock {X Y : Hp} {d : Addr} {od : Obj} {u : HO} (h : Grow X Y) (hu : Pl u) (e : Y d = some u) : Grow X (upd Y d (.frz od u)) := ⟨fun a x p r => by
  have r' := h.rd a x p r
  by_cases z : a = d
  · subst z
    rw [rd_pl e hu p r']
    exact .inr ⟨od, upd_same⟩
  · unfold Rd at r' ⊢; rw [upd_ne z]; exact r', fun a w x r => by
  have r' := h.fr a w x r
  have z : a ≠ d := by
    rintro rfl
    rw [e] at r'
    cases r'
    exact hu
  rw [upd_ne z]; exact r'⟩
theorem Grow.unlock {X Y : Hp} {d : Addr} {od : Obj} {u : HO} (h : Grow X Y) (e : Y d = some (.frz od u)) (nf : ∀ o w, X d ≠ some (.frz o w)) : Grow X (upd Y d u) := ⟨fun a x p r => by
  have r' := h.rd a x p r
  by_cases z : a = d
  · subst z
    rw [rd_fr e p r']
    exact .inl upd_same
  · unfold Rd at r' ⊢; rw [upd_ne z]; exact r', fun a w x r => by
  have z : a ≠ d := by
    rintro rfl
    exact nf _ _ r
  rw [upd_ne z]; exact h.fr a w x r⟩
def notTup : HO → Prop
  | .tup _ => False
  | _ => True
theorem mono_unlock {G : Hp} {d : Addr} {od : Obj} {u : HO} (e : G d = some (.frz od u)) (hu : notTup u) : Mono G (upd G d u) := ⟨fun a x p r => by
  by_cases z : a = d
  · subst z
    rw [rd_fr e p r]
    exact .inl upd_same
  · unfold Rd at r ⊢; rw [upd_ne z]; exact r, fun a w x r => by
  have z : a ≠ d := by
    rintro rfl
    rw [e] at r
    cases r
    exact hu
  rw [upd_ne z]; exact r⟩
theorem StD.lock (I : StD K H0 B G ρ σ H) {d : Addr} {od : Obj} {u : HO} (hu : Pl u) (g : G d = some u) (h : H d = some u) : StD K H0 B (upd G d (.frz od u)) ρ σ (upd H d (.frz od u)) := by
  refine ⟨I.gh.both0, ⟨I.h0.m.lock hu h, fun a o e n => ?_⟩, I.bg.lock hu g, fun a o e n => ?_, I.len, fun i s e => ?_, I.dj⟩
  · have z : a ≠ d := by
      rintro rfl
      have := I.nb a u g n
      rw [e] at this
      cases this
    rw [upd_ne z]; exact I.h0.own a o e n
  · by_cases z : a = d
    · subst z; exact I.nb a u g n
    · rw [upd_ne z] at e; exact I.nb a o e n
  · have m : Mono G (upd G d (.frz od u)) := Mono.of ((Grow.refl G).lock hu g)
    have x := I.sl i s e
    cases s with
    | un => trivial
    | sh d => obtain ⟨v, e1, r⟩ := x; exact ⟨v, e1, r.mono m⟩
    | ow d' =>
      obtain ⟨p, e1, g1, h1, c⟩ := x
      have np : p ≠ d := fun z => by rw [z, g] at g1; cases g1
      exact ⟨p, e1, by rw [upd_ne np]; exact g1, h1, c.mono m (upd_ne np)⟩
theorem StD.lockG (I : StD K H0 B G ρ σ H) {d : Addr} {od : Obj} {u : HO} (hu : Pl u) (g : G d = some u) (h : H d = some (.frz od u)) : StD K H0 B (upd G d (.frz od u)) ρ σ H := by
  refine ⟨I.gh.add h, I.h0, I.bg.lock hu g, fun a o e n => ?_, I.len, fun i s e => ?_, I.dj⟩
  · by_cases z : a = d
    · subst z; exact I.nb a u g n
    · rw [upd_ne z] at e; exact I.nb a o e n
  · have m : Mono G (upd G d (.frz od u)) := Mono.of ((Grow.refl G).lock hu g)
    have x := I.sl i s e
    cases s with
    | un => trivial
    | sh d => obtain ⟨v, e1, r⟩ := x; exact ⟨v, e1, r.mono m⟩
    | ow d' =>
      obtain ⟨p, e1, g1, h1, c⟩ := x
      have np : p ≠ d := fun z => by rw [z, g] at g1; cases g1
      exact ⟨p, e1, by rw [upd_ne np]; exact g1, h1, c.mono m rfl⟩
theorem StD.unlock (I : StD K H0 B G ρ σ H) {d : Addr} {od : Obj} {u : HO} (hu : notTup u) (g : G d = some (.frz od u)) (nB : ∀ o w, B d ≠ some (.frz o w)) (n0 : ∀ o w, H0 d ≠ some (.frz o w)) : StD K H0 B (upd G d u) ρ σ (upd H d u) := by
  have h := I.gh.fr d od u g
  refine ⟨I.gh.both0, ⟨I.h0.m.unlock h n0, fun a o e n => ?_⟩, I.bg.unlock g nB, fun a o e n => ?_, I.len, fun i s e => ?_, I.dj⟩
  · have z : a ≠ d := by
      rintro rfl
      have := I.nb a _ g n
      rw [e] at this
      cases this
    rw [upd_ne z]; exact I.h0.own a o e n
  · by_cases z : a = d
    · subst z; exact I.nb a _ g n
    · rw [upd_ne z] at e; exact I.nb a o e n
  · have m := mono_unlock g hu
    have x := I.sl i s e
    cases s with
    | un => trivial
    | sh d => obtain ⟨v, e1, r⟩ := x; exact ⟨v, e1, r.mono m⟩
    | ow d' =>
      obtain ⟨p, e1, g1, h1, c⟩ := x
      have np : p ≠ d := fun z => by rw [z, g] at g1; cases g1
      exact ⟨p, e1, by rw [upd_ne np]; exact g1, h1, c.mono m (upd_ne np)⟩
/-- the for loop's core: over an iterator that serves -/
theorem for_core {tp : Bool} {ws : List Nat} {g : GM} {fb : SM} {J : It} {ds : List DL.D} (I1 : StD K H0 B G ρ σ H) (srv : Srv K G J ds tp) (h : SPost K mg H0 B W D (forL g fb ds ρ)) :
    ∃ V : Nat → Nat → L2.St → Hp → Prop, (∃ m, V 0 m σ H) ∧ ∀ i m σ H, V i m σ H → (J.stop i H ∧ D.nx σ H) ∨ (J.go i H ∧ ∃ N : L2.St → Hp → Prop, (∀ σ' H', N σ' H' → ∃ m', m' < m ∧ V (i + 1) m' σ' H') ∧
      ∀ x H', J.yld i H x H' → cG K tp ws g x σ H' fun σ2 H2 => cS K mg W fb { D with nx := N, ct := N, bk := D.nx } σ2 H2) := by
  have h := SPost.unbase I1 h
  refine ⟨fun i m σ H => m = ds.length - i ∧ i ≤ ds.length ∧ ∃ G2 ρ, StD K H0 G G2 ρ σ H ∧ SPost K mg H0 G W D (forL g fb (ds.drop i) ρ), ⟨ds.length, rfl, Nat.zero_le _, G, ρ, I1.rebase, h⟩, ?_⟩
  rintro i m σ2 H2 ⟨rfl, hi, G2, ρ2, I2, h2⟩
  obtain ⟨sgo, sstop, syld⟩ := srv H2 (I2.bg.trans I2.gh)
  by_cases hlt : i < ds.length
  · obtain ⟨d, hd⟩ := lt_get hlt
    rw [drop_get hd] at h2
    refine .inr ⟨sgo i hlt, fun σ' H' => ∃ G2 ρ, StD K H0 G G2 ρ σ' H' ∧ SPost K mg H0 G W D (forL g fb (ds.drop (i + 1)) ρ), fun σ' H' n' => ⟨ds.length - (i + 1), by omega, rfl, hlt, n'⟩, fun x H' y => ?_⟩
    obtain ⟨d', hd', yy⟩ := syld i x H' hlt y
    rw [hd] at hd'
    cases hd'
    dsimp only [forL] at h2
    have fin : ∀ {H3 : Hp}, StD K H0 G G2 ρ2 σ2 H3 → RepY K G2 H3 tp x d → cG K tp ws g x σ2 H3 fun σ2 H2 => cS K mg W fb { D with nx := fun σ' H' => ∃ G2 ρ, StD K H0 G G2 ρ σ' H' ∧ SPost K mg H0 G W D (forL g fb (ds.drop (i + 1)) ρ), ct := fun σ' H' => ∃ G2 ρ, StD K H0 G G2 ρ σ' H' ∧ SPost K mg H0 G W D (forL g fb (ds.drop (i + 1)) ρ), bk := D.nx } σ2 H2 := fun {H3} I3 ry => by
      refine ⟨H0, G, G2, ρ2, d, I3, ry, ?_⟩
      cases q3 : g d ρ2 with
      | none => simp only [q3] at h2; exact h2.elim
      | some ρ3 =>
        simp only [q3] at h2
        intro σ3 _ J3
        refine ⟨H0, G, G2, ρ3, J3, ?_⟩
        cases q4 : fb ρ3 with
        | nx ρ4 => simp only [q4] at h2; exact fun σ' G' H' J4 => ⟨G', ρ4, J4, h2⟩
        | ct ρ4 => simp only [q4] at h2; exact fun σ' G' H' J4 => ⟨G', ρ4, J4, h2⟩
        | bk ρ4 => simp only [q4] at h2; exact h2
        | rt r ρ4 => simp only [q4] at h2; exact h2
        | xc c ρ4 => simp only [q4] at h2; exact h2
        | bad => simp only [q4] at h2; exact h2
    rcases yy with ⟨e, r⟩ | ⟨et, p, vs, es, hp, e, ex, ed, ra⟩
    · subst e
      exact fin I2 (.inl (r.mono (Mono.of I2.bg)))
    · subst e
      exact fin (I2.alloc hp) (.inr ⟨et, p, vs, es, ex, upd_same, ed, ra.mono (Mono.of I2.bg)⟩)
  · have e : i = ds.length := by omega
    subst e
    rw [List.drop_length] at h2
    exact .inl ⟨sstop, h2 σ2 G2 H2 I2⟩
end

/-! ### for over a dict that a name holds -/
inductive DKind where
  | keys | vals | items
def dItems : DKind → List (Key × DL.D) → List DL.D
  | .keys, ds => ds.map fun kv => kD kv.1
  | .vals, ds => ds.map (·.2)
  | .items, ds => ds.map fun kv => .tup [kD kv.1, kv.2]
def dIt : DKind → Addr → Obj → List (Key × V) → It
  | .keys => Itk
  | .vals => Itd
  | .items => Iti
def dTp : DKind → Bool
  | .items => true
  | _ => false
theorem srv_dct {K : PySem.W.Frag} {G : Hp} {d : Addr} {o : Obj} {vs : List (Key × V)} {ds : List (Key × D)} (k : DKind) (h : G d = some (.frz o (.dK vs))) (r : RepKV K G vs ds) : Srv K G (dIt k d o vs) (dItems k ds) (dTp k) := fun H s => by
  have h' := s.fr d o _ h
  cases k with
  | keys =>
    have hl : (dItems .keys ds).length = vs.length := by show (ds.map _).length = _; rw [List.length_map, r.length]
    refine ⟨fun i hi => ⟨h', by rw [hl] at hi; exact hi⟩, ⟨h', Nat.le_of_eq hl.symm⟩, fun i x H' hi y => ?_⟩
    obtain ⟨e, k, v, hk, ex⟩ := y
    subst ex
    obtain ⟨d', hd, _⟩ := r.get hk
    exact ⟨kD k, by show (ds.map _)[i]? = _; rw [List.getElem?_map, hd]; rfl, .inl ⟨e, kD_rep k⟩⟩
  | vals =>
    have hl : (dItems .vals ds).length = vs.length := by show (ds.map _).length = _; rw [List.length_map, r.length]
    refine ⟨fun i hi => ⟨h', by rw [hl] at hi; exact hi⟩, ⟨h', Nat.le_of_eq hl.symm⟩, fun i x H' hi y => ?_⟩
    obtain ⟨e, k, hk⟩ := y
    obtain ⟨d', hd, rd⟩ := r.get hk
    exact ⟨d', by show (ds.map _)[i]? = _; rw [List.getElem?_map, hd]; rfl, .inl ⟨e, rd⟩⟩
  | items =>
    have hl : (dItems .items ds).length = vs.length := by show (ds.map _).length = _; rw [List.length_map, r.length]
    refine ⟨fun i hi => ⟨h', by rw [hl] at hi; exact hi⟩, ⟨h', Nat.le_of_eq hl.symm⟩, fun i x H' hi y => ?_⟩
    obtain ⟨T, k, v, hk, ex, hT, e⟩ := y
    subst ex
    obtain ⟨d', hd, rd⟩ := r.get hk
    exact ⟨.tup [kD k, d'], by show (ds.map _)[i]? = _; rw [List.getElem?_map, hd]; rfl, .inr ⟨rfl, T, _, _, hT, e, rfl, rfl, .cons (kD_rep k) (.cons rd .nil)⟩⟩
def goDct (k : DKind) (g : GM) (fb : SM) (x : Option (DL.D × DEnv)) : SR := match x with
  | some (d, ρ1) => (match d with
    | .dct ds => forL g fb (dItems k ds) ρ1
    | _ => .bad)
  | none => .bad
def sForD (i : Nat) (k : DKind) (g : GM) (fb : SM) : SM := fun ρ => goDct k g fb (fz ρ (.al i))
def iDct (k : DKind) (i : Nat) : TI := fun σ H R => ∃ d o kvs, σ[i]? = some (some (.ref d)) ∧ H d = some (.frz o (.dK kvs)) ∧ R (dIt k d o kvs) H
section
variable {X : Cx} {W : WX} {tg iter : Expr} {body : List Stmt} {pos : Pos} {ws : List Nat}
theorem orS {st : Stmt} {t t' : TS} (h : PS X st t) (h' : PS X st t') : PS X st (fun D σ H => t D σ H ∨ t' D σ H) := ⟨fun pins s σ H D I q => q.elim (h.run pins s σ H D I) (h'.run pins s σ H D I)⟩
theorem ds_forD {i : Nat} {k : DKind} {g : GM} {fb : SM} (hp : PassesOwn (model X.prog X.w) X.A X.env X.xe) (hc : X.calm = true) (hi : PI X tg iter (iDct k i)) (hg : DG X (dTp k) ws tg g) (hb : DSs X W body fb) (hs : ∀ x, foldedSetIterable iter X.env x = pure x := by intro _; rfl) :
    DS X W (.For tg iter body [] pos) (sForD i k g fb) :=
  iS (orS (ps_lock (ps_for hp hc hi hg hb hs)) (ps_for hp hc hi hg hb hs)) fun D σ H ⟨H0, B, G, ρ, I, h⟩ => by
    unfold sForD at h
    cases q : fz ρ (.al i) with
    | none => rw [q] at h; exact h.elim
    | some z =>
      obtain ⟨dd, ρ1⟩ := z
      rw [q] at h
      -- the slot holds something
      have hv : ∃ v, σ[i]? = some (some v) := by
        dsimp only [fz] at q
        cases q1 : ρ[i]? with
        | none => simp only [q1] at q; cases q
        | some s =>
          cases s with
          | un => simp only [q1] at q; cases q
          | sh d => obtain ⟨v, e, _⟩ := I.sh q1; exact ⟨v, e⟩
          | ow d => obtain ⟨p, e, _⟩ := I.ow q1; exact ⟨_, e⟩
      obtain ⟨v, hv⟩ := hv
      obtain ⟨G1, s1, I1, r1⟩ := VR.fz (r := .al i) I hv q
      cases r1 with
      | @dct a vs ds rd r =>
        have h : SPost X.K X.mg H0 B W D (forL g fb (dItems k ds) ρ1) := h
        have open_ : ∀ od, G1 a = some (.dK vs) → H a = some (.frz od (.dK vs)) → tFor (iDct k i) (cG X.K (dTp k) ws g) (cS X.K X.mg W fb) D σ H := fun od g1 h1 =>
          ⟨a, od, vs, hv, h1, for_core (I1.lockG (od := od) (u := .dK vs) trivial g1 h1) (srv_dct (K := X.K) k (upd_same (H := G1) (a := a) (o := .frz od (.dK vs))) (r.mono (Mono.of ((Grow.refl G1).lock (od := od) (u := .dK vs) trivial g1)))) h⟩
        rcases rd with g1 | ⟨od, g1⟩
        · have h1 : H a = some (.dK vs) ∨ ∃ o, H a = some (.frz o (.dK vs)) := I1.gh.rd a _ trivial (.inl g1)
          rcases h1 with h1 | ⟨o, h1⟩
          · left
            refine ⟨a, .dK vs, h1, trivial, fun od => ?_⟩
            have I2 := I1.lock (od := od) (u := .dK vs) trivial g1 h1
            have nB : ∀ o w, B a ≠ some (.frz o w) := fun o w e => by
              have := I1.bg.fr a o w e
              rw [g1] at this
              cases this
            have n0 : ∀ o w, H0 a ≠ some (.frz o w) := fun o w e => by
              have := I1.h0.m.fr a o w e
              rw [h1] at this
              cases this
            refine ⟨a, od, vs, hv, upd_same, ?_⟩
            have srv := srv_dct (K := X.K) k (upd_same (H := G1) (a := a) (o := .frz od (.dK vs))) (r.mono (Mono.of ((Grow.refl G1).lock (od := od) (u := .dK vs) trivial g1)))
            refine for_core (B := upd G1 a (.frz od (.dK vs))) I2.rebase srv ?_
            -- what is wanted, in the locked state
            have un : ∀ {ρ' : DEnv} {σ' : L2.St} {G' H' : Hp}, StD X.K H0 (upd G1 a (.frz od (.dK vs))) G' ρ' σ' H' → H' a = some (.frz od (.dK vs)) ∧ StD X.K H0 B (upd G' a (.dK vs)) ρ' σ' (upd H' a (.dK vs)) := fun {ρ' σ' G' H'} J => by
              have g' := J.bg.fr a od _ upd_same
              exact ⟨J.gh.fr a od _ g', (I2.unbase J).unlock (od := od) (u := .dK vs) trivial g' nB n0⟩
            cases e : forL g fb (dItems k ds) ρ1 with
            | nx ρ' => rw [e] at h; exact fun σ' G' H' J => ⟨(un J).1, h σ' _ _ (un J).2⟩
            | rt r ρ' =>
              rw [e] at h
              intro v σ' G' H' J x
              refine ⟨(un J).1, h v σ' _ _ (un J).2 ?_⟩
              have g' := J.bg.fr a od _ upd_same
              cases r with
              | sh d => exact Rep.mono (mono_unlock g' (u := .dK vs) trivial) x
              | al j => exact x
              | ow d =>
                obtain ⟨p, ev, gp, h0p, nx, c⟩ := x
                have np : p ≠ a := fun z => by rw [z, g'] at gp; cases gp
                exact ⟨p, ev, by rw [upd_ne np]; exact gp, h0p, nx, c.mono (mono_unlock g' (u := .dK vs) trivial) (upd_ne np)⟩
            | bk ρ' => rw [e] at h; exact fun σ' G' H' J => ⟨(un J).1, h σ' _ _ (un J).2⟩
            | ct ρ' => rw [e] at h; exact fun σ' G' H' J => ⟨(un J).1, h σ' _ _ (un J).2⟩
            | xc c ρ' => rw [e] at h; exact fun cls σ' G' H' J em => h cls σ' G' H' (I2.unbase J) em
            | bad => rw [e] at h; exact h
          · exact .inr (open_ o g1 h1)
        · right
          have h1 := I1.gh.fr a od _ g1
          exact ⟨a, od, vs, hv, h1, for_core I1 (srv_dct (K := X.K) k g1 r) h⟩
      | _ => exact h.elim
end

section
variable {X : Cx} {W : WX} {tg e e2 a : Expr} {es : List Expr} {pos p apos cpos tpos : Pos} {elts : List Expr} {kk : Nat}
theorem iDct_of {σ : L2.St} {H : Hp} {i : Nat} {k : DKind} {R : It → Hp → Prop} (h : iDct k i σ H R) : ∃ v, σ[i]? = some (some v) ∧ ∃ d o kvs, v = .ref d ∧ H d = some (.frz o (.dK kvs)) ∧ R (dIt k d o kvs) H := by
  obtain ⟨d, o, kvs, hv, h1, r⟩ := h
  exact ⟨_, hv, d, o, kvs, rfl, h1, r⟩
theorem di_keys (i : Nat) {x : Str} (hN : X.N[i]? = some x := by rfl) (hv : Vis X.env.scope x := by first | exact Or.inl rfl | exact Or.inr (Or.inl rfl) | exact Or.inr (Or.inr rfl)) (hd : (x == ("__debug__" : Str)) = false := by decide)
    (hcd : (x == ("__classdict__" : Str)) = false := by decide) : PI X tg (.Name x pos) (iDct .keys i) :=
  iI (pi_keys (pv i hN hv hd hcd)) fun σ H R h => by
    obtain ⟨v, e, d, o, kvs, ev, h1, r⟩ := iDct_of h
    exact ⟨v, e, d, o, ev, .inl ⟨kvs, h1, r⟩⟩
theorem di_vals (i : Nat) {x : Str} (hN : X.N[i]? = some x := by rfl) (hv : Vis X.env.scope x := by first | exact Or.inl rfl | exact Or.inr (Or.inl rfl) | exact Or.inr (Or.inr rfl)) (hd : (x == ("__debug__" : Str)) = false := by decide)
    (hcd : (x == ("__classdict__" : Str)) = false := by decide) (hbase : attributeBase (.Name x p) "values" X.env (eval (.Name x p) X.env) = eval (.Name x p) X.env := by rfl) (hline : (apos.endLine == cpos.line) = true := by rfl) : PI X tg (.Call (.Attribute (.Name x p) "values" apos) [] [] cpos) (iDct .vals i) :=
  iI (pi_values (pv i hN hv hd hcd) hbase hline) fun σ H R h => by
    obtain ⟨v, e, d, o, kvs, ev, h1, r⟩ := iDct_of h
    exact ⟨v, e, d, o, kvs, ev, h1, r⟩
theorem di_items (i : Nat) {x : Str} (hN : X.N[i]? = some x := by rfl) (hv : Vis X.env.scope x := by first | exact Or.inl rfl | exact Or.inr (Or.inl rfl) | exact Or.inr (Or.inr rfl)) (hd : (x == ("__debug__" : Str)) = false := by decide)
    (hcd : (x == ("__classdict__" : Str)) = false := by decide) (hbase : attributeBase (.Name x p) "items" X.env (eval (.Name x p) X.env) = eval (.Name x p) X.env := by rfl) (hline : (apos.endLine == cpos.line) = true := by rfl) : PI X (.Tuple elts kk tpos) (.Call (.Attribute (.Name x p) "items" apos) [] [] cpos) (iDct .items i) :=
  iI (pi_items (pv i hN hv hd hcd) hbase hline) fun σ H R h => by
    obtain ⟨v, e, d, o, kvs, ev, h1, r⟩ := iDct_of h
    exact ⟨v, e, d, o, kvs, ev, h1, r⟩

/-! ### enumerate, zip -/
def enumD (ds : List D) : List D := ds.zipIdx.map fun p => .tup [.int (p.2 : Nat), p.1]
def goEnum (rs : List R) (ρ : DEnv) : IR := match fzs ρ rs with
  | some (ds, ρ1) => (match ds with
    | [.lst es] => .ok (enumD es) ρ1
    | _ => .bad)
  | none => .bad
def iEnumD (f : AM) : IM := fun ρ => (f ρ).toI goEnum
theorem srv_enum {K : PySem.W.Frag} {G : Hp} {a : Addr} {vs : List V} {ds : List D} (h : Rd G a (.lst vs)) (r : RepAll K G vs ds) : Srv K G (Ite K a) (enumD ds) true := fun H s => by
  have h' : SqL K H a vs := .inl ((Mono.of s).rd _ _ trivial h)
  have hl : (enumD ds).length = vs.length := by unfold enumD; rw [List.length_map, List.length_zipIdx, r.length]
  refine ⟨fun i hi => ?_, ⟨vs, h', Nat.le_of_eq hl.symm⟩, fun i x H' hi y => ?_⟩
  · rw [hl] at hi
    exact ⟨vs, vs[i], h', List.getElem?_eq_getElem hi⟩
  · obtain ⟨T, z, ex, hT, e, y⟩ := y
    obtain ⟨d, hd, rd⟩ := r.getV (y vs h')
    refine ⟨.tup [.int (i : Nat), d], ?_, .inr ⟨rfl, T, _, _, hT, e, ex, rfl, .cons (.int _) (.cons rd .nil)⟩⟩
    unfold enumD
    rw [List.getElem?_map, List.getElem?_zipIdx, hd]
    simp
theorem di_enum {f : AM} (hg : Gl X "enumerate") (hm : X.mg "enumerate" = none) (ha : DA X W [e] f) (hs : starEach [e] X.env = [(false, eval e X.env)] := by rfl) : DI X W true (.Tuple elts kk tpos) (.Call (.Name "enumerate" p) [e] [] pos) (iEnumD f) :=
  iI (pi_enum hg hm ha hs) fun σ H R1 ⟨H0, B, G, ρ, I, h⟩ => cA.okI I h fun rs ρ1 vs G1 H1 s1 I1 x h1 => by
    unfold goEnum at h1
    cases q : fzs ρ1 rs with
    | none => rw [q] at h1; exact h1.elim
    | some z =>
      obtain ⟨ds, ρ2⟩ := z
      simp only [q] at h1
      obtain ⟨G2, s2, I2, ra⟩ := VSs.fzs I1 x q
      match ds, ra, h1 with
      | [d], .cons r .nil, h1 =>
        cases r with
        | lst g1 r1 => exact ⟨_, _, rfl, .inl (I2.gh.rd _ _ trivial g1), h1 _ G2 H1 s2 I2 (srv_enum g1 r1)⟩
        | _ => exact h1.elim
      | [], _, h1 => exact h1.elim
      | .non :: _ :: _, _, h1 => exact h1.elim
      | .bl _ :: _ :: _, _, h1 => exact h1.elim
      | .int _ :: _ :: _, _, h1 => exact h1.elim
      | .str _ :: _ :: _, _, h1 => exact h1.elim
      | .lst _ :: _ :: _, _, h1 => exact h1.elim
      | .tup _ :: _ :: _, _, h1 => exact h1.elim
      | .dct _ :: _ :: _, _, h1 => exact h1.elim
      | .scr _ :: _ :: _, _, h1 => exact h1.elim
      | .xn _ :: _ :: _, _, h1 => exact h1.elim
def zipD (as bs : List D) : List D := (as.zip bs).map fun p => .tup [p.1, p.2]
def zipO (d e : D) : Option (List D) := match d, e with
  | .lst a, .lst b => some (zipD a b)
  | .tup a, .tup b => some (zipD a b)
  | _, _ => none
def goZip (rs : List R) (ρ : DEnv) : IR := match fzs ρ rs with
  | some (ds, ρ1) => (match ds with
    | [d, e] => (match zipO d e with
      | some es => .ok es ρ1
      | none => .bad)
    | _ => .bad)
  | none => .bad
def iZipD (f : AM) : IM := fun ρ => (f ρ).toI goZip
theorem zip_get {as bs : List D} {i : Nat} {a b : D} (h1 : as[i]? = some a) (h2 : bs[i]? = some b) : (zipD as bs)[i]? = some (.tup [a, b]) := by
  unfold zipD
  rw [List.getElem?_map, (List.getElem?_zip_eq_some (z := (a, b))).mpr ⟨h1, h2⟩]
  rfl
theorem srv_zip {K : PySem.W.Frag} {G : Hp} {a b : Addr} {vs ws : List V} {ds es : List D} (h : Rd G a (.lst vs)) (r : RepAll K G vs ds) (h2 : Rd G b (.lst ws)) (r2 : RepAll K G ws es) : Srv K G (Itz K a b) (zipD ds es) true := fun H s => by
  have h' : SqL K H a vs := .inl ((Mono.of s).rd _ _ trivial h)
  have h2' : SqL K H b ws := .inl ((Mono.of s).rd _ _ trivial h2)
  have hl : (zipD ds es).length = min vs.length ws.length := by unfold zipD; rw [List.length_map, List.length_zip, r.length, r2.length]
  refine ⟨fun i hi => ?_, ⟨vs, ws, h', h2', by rw [hl]; omega⟩, fun i x H' hi y => ?_⟩
  · rw [hl] at hi
    exact ⟨vs, ws, vs[i]'(by omega), ws[i]'(by omega), h', h2', List.getElem?_eq_getElem _, List.getElem?_eq_getElem _⟩
  · obtain ⟨T, z, z2, ex, hT, e, y, y2⟩ := y
    obtain ⟨d, hd, rd⟩ := r.getV (y vs h')
    obtain ⟨d2, hd2, rd2⟩ := r2.getV (y2 ws h2')
    exact ⟨.tup [d, d2], zip_get hd hd2, .inr ⟨rfl, T, _, _, hT, e, ex, rfl, .cons rd (.cons rd2 .nil)⟩⟩
theorem srv_zipT {K : PySem.W.Frag} {G : Hp} {a b : Addr} {vs ws : List V} {ds es : List D} (h : SqP K G a vs) (r : RepAll K G vs ds) (h2 : SqP K G b ws) (r2 : RepAll K G ws es) : Srv K G (RZ.ItzT K a b) (zipD ds es) true := fun H s => by
  have h' : SqT K H a vs := ((Mono.of s).seqT h).t
  have h2' : SqT K H b ws := ((Mono.of s).seqT h2).t
  have hl : (zipD ds es).length = min vs.length ws.length := by unfold zipD; rw [List.length_map, List.length_zip, r.length, r2.length]
  refine ⟨fun i hi => ?_, ⟨vs, ws, h', h2', by rw [hl]; omega⟩, fun i x H' hi y => ?_⟩
  · rw [hl] at hi
    exact ⟨vs, ws, vs[i]'(by omega), ws[i]'(by omega), h', h2', List.getElem?_eq_getElem _, List.getElem?_eq_getElem _⟩
  · obtain ⟨T, z, z2, ex, hT, e, y, y2⟩ := y
    obtain ⟨d, hd, rd⟩ := r.getV (y vs h')
    obtain ⟨d2, hd2, rd2⟩ := r2.getV (y2 ws h2')
    exact ⟨.tup [d, d2], zip_get hd hd2, .inr ⟨rfl, T, _, _, hT, e, ex, rfl, .cons rd (.cons rd2 .nil)⟩⟩
theorem di_zip {f : AM} (hg : Gl X "zip") (hm : X.mg "zip" = none) (ha : DA X W [e, e2] f) (hs : starEach [e, e2] X.env = (false, eval e X.env) :: starEach [e2] X.env := by rfl) (hpl : (backTo pos (starEach [e2] X.env)).any (·.1) = false := by rfl) :
    DI X W true (.Tuple elts kk tpos) (.Call (.Name "zip" p) [e, e2] [] pos) (iZipD f) :=
  iI (RZ.pi_zipA hg hm ha hs hpl) fun σ H R1 ⟨H0, B, G, ρ, I, h⟩ => cA.okI I h fun rs ρ1 vs G1 H1 s1 I1 x h1 => by
    unfold goZip at h1
    cases q : fzs ρ1 rs with
    | none => rw [q] at h1; exact h1.elim
    | some z =>
      obtain ⟨ds, ρ2⟩ := z
      simp only [q] at h1
      obtain ⟨G2, s2, I2, ra⟩ := VSs.fzs I1 x q
      match ds, ra, h1 with
      | [d, e], .cons r (.cons r' .nil), h1 =>
        cases r with
        | lst g1 r1 => cases r' with
          | lst g2 r2 => exact ⟨_, _, _, _, rfl, .inl ⟨.inl (I2.gh.rd _ _ trivial g1), .inl (I2.gh.rd _ _ trivial g2), h1 _ G2 H1 s2 I2 (srv_zip g1 r1 g2 r2)⟩⟩
          | _ => exact h1.elim
        | tup g1 r1 => cases r' with
          | tup g2 r2 => exact ⟨_, _, _, _, rfl, .inr ⟨((Mono.of I2.gh).seqT g1).t, ((Mono.of I2.gh).seqT g2).t, h1 _ G2 H1 s2 I2 (srv_zipT g1 r1 g2 r2)⟩⟩
          | _ => exact h1.elim
        | _ => exact h1.elim
      | [], _, h1 => exact h1.elim
      | [_], _, h1 => exact h1.elim
      | _ :: _ :: _ :: _, _, h1 => exact h1.elim

/-! ### o[i] = v, at a name -/
def rSetA : TSet := fun o i v H Q => rSetL o i v H Q ∨ ∃ a H', o = .ref a ∧ DPut H a i v H' ∧ Q H'
theorem set_dct (hu : X.A.units + 1 < cLine) : PSet X (fun o i v H Q => ∃ a H', o = .ref a ∧ DPut H a i v H' ∧ Q H') := by
  intro pins s σ H o i v ov iv u Q I r1 r2 r3 h
  obtain ⟨a, H', rfl, g, q⟩ := h
  cases r1
  exact d_setItem hu I g r2 r3 fun s' I' => ⟨H', I', q⟩
theorem set_A (hu : X.A.units + 1 < cLine) : PSet X rSetA := by
  intro pins s σ H o i v ov iv u Q I r1 r2 r3 h
  rcases h with h | h
  · exact set_list pins s σ H o i v ov iv u Q I r1 r2 r3 h
  · exact set_dct hu pins s σ H o i v ov iv u Q I r1 r2 r3 h
def putO (d k v : D) : Option D := match d with
  | .dct ds => (match keyD k with
    | some key => if ds.length < 16777216 then some (.dct (putD ds key v)) else none
    | none => none)
  | .lst es => (match k with
    | .int j => (ixN es.length j).map fun n => .lst (es.set n v)
    | _ => none)
  | _ => none
def goPut (i : Nat) (rv rk : R) (ρ : DEnv) : SR := match fz ρ rv with
  | some (v, ρ1) => (match pk ρ1 rk with
    | some k => (match ρ1[i]? with
      | some (.ow d) => (match putO d k v with
        | some d' => .nx (ρ1.set i (.ow d'))
        | none => .bad)
      | _ => .bad)
    | none => .bad)
  | none => .bad
def isOw (i : Nat) (ρ : DEnv) : Bool := match ρ[i]? with
  | some (.ow _) => true
  | _ => false
def sPut (i : Nat) (fk fv : EM) : SM := fun ρ => (fv ρ).toS fun rv ρ1 => if isOw i ρ1 = true then (fk ρ1).toS fun rk ρ2 => goPut i (settle rv) rk ρ2 else .bad
theorem putO_go {K : PySem.W.Frag} {G H : Hp} {a : Addr} {d d' k v : D} {x y : V} {Q : Hp → Prop} (c : Cell K G H a d) (rk : RepT K G H y k) (rv : Rep K G x v) (h : putO d k v = some d') (q : ∀ o, Cell K G (upd H a o) a d' → Q (upd H a o)) : rSetA (.ref a) y x H Q := by
  cases d with
  | dct ds =>
    obtain ⟨vs, e, r⟩ := cell_dct c
    dsimp only [putO] at h
    cases q1 : keyD k with
    | none => simp only [q1] at h; cases h
    | some key =>
      simp only [q1] at h
      by_cases z : ds.length < 16777216
      · rw [if_pos z] at h
        cases h
        exact .inr ⟨a, _, rfl, .inl ⟨vs, key, e, key_v rk q1, by rw [r.length, sizeLine_eq]; exact z, rfl⟩, q _ ⟨_, upd_same, r.put rv key⟩⟩
      · rw [if_neg z] at h; cases h
  | lst es =>
    obtain ⟨vs, e, r⟩ := cell_lst c
    cases rk with
    | int j =>
      dsimp only [putO] at h
      cases q1 : ixN es.length j with
      | none => rw [q1] at h; cases h
      | some n =>
        rw [q1] at h
        cases h
        exact .inl ⟨a, vs, j, n, rfl, rfl, e, by rw [r.length]; exact q1, q _ ⟨_, upd_same, r.set rv n⟩⟩
    | _ => cases h
  | _ => cases h
theorem ds_put (i : Nat) {x : Str} {k : Expr} {fk fv : EM} {pos' npos : Pos} (hu : X.A.units + 1 < cLine) (hk : DE X W k fk) (hv : DE X W e fv) (hN : X.N[i]? = some x := by rfl) (hvs : Vis X.env.scope x := by first | exact Or.inl rfl | exact Or.inr (Or.inl rfl) | exact Or.inr (Or.inr rfl)) (hd : (x == ("__debug__" : Str)) = false := by decide)
    (hcd : (x == ("__classdict__" : Str)) = false := by decide)
    (ha : ∀ v, assign (.Subscript (.Name x npos) k pos') X.env v = (do
      let ov ← holding [v] (eval (.Name x npos) X.env)
      let iv ← holding [v, ov] (eval k X.env)
      standAt pos'
      holding [v, ov, iv] (setItem ov iv v)
      release [v, ov, iv] []) := by intro _; rfl)
    (hs : swapsWithSole [.Subscript (.Name x npos) k pos'] e pos.line X.env = pure false := by rfl) (hw : swappedStores [.Subscript (.Name x npos) k pos'] e X.env = pure none := by rfl)
    (h1 : (assignEach [.Subscript (.Name x npos) k pos'] X.env).map (·.2) = [assign (.Subscript (.Name x npos) k pos') X.env] := by rfl) :
    DS X W (.Assign [.Subscript (.Name x npos) k pos'] e pos) (sPut i fk fv) :=
  iS (ps_asg hv (pg_sub (pv i hN hvs hd hcd) hk (set_A hu) ha) hs hw h1) fun D σ H ⟨H0, B, G, ρ, I, h⟩ => cE.okSt I h fun r ρ1 v G1 H1 s1 I1 v1 h1 => by
    obtain ⟨G2, s2, I2, v2⟩ := v1.settle I1
    by_cases z : isOw i ρ1 = true
    · rw [if_pos z] at h1
      have hx : ∃ p, σ[i]? = some (some (.ref p)) := by
        unfold isOw at z
        cases q : ρ1[i]? with
        | none => rw [q] at z; cases z
        | some s =>
          cases s with
          | ow d => obtain ⟨p, e, _⟩ := I2.ow q; exact ⟨p, e⟩
          | _ => rw [q] at z; cases z
      obtain ⟨p, hx⟩ := hx
      refine ⟨_, hx, cE.okSt I2 h1 fun rk ρ2 y G3 H3 s3 I3 v3 h3 => ?_⟩
      unfold goPut at h3
      cases q1 : fz ρ2 (settle r) with
      | none => rw [q1] at h3; exact h3.elim
      | some w =>
        obtain ⟨dv, ρ3⟩ := w
        simp only [q1] at h3
        -- the key first: it is read where the value is not yet laid
        have I3k := I3
        obtain ⟨G4, s4, I4, rv⟩ := VR.fz I3 (v2.stay s3).vr q1
        cases q2 : pk ρ3 rk with
        | none => simp only [q2] at h3; exact h3.elim
        | some dk =>
          simp only [q2] at h3
          cases q3 : ρ3[i]? with
          | none => simp only [q3] at h3; exact h3.elim
          | some sl =>
            cases sl with
            | un => simp only [q3] at h3; exact h3.elim
            | sh d => simp only [q3] at h3; exact h3.elim
            | ow d =>
              simp only [q3] at h3
              cases q4 : putO d dk dv with
              | none => simp only [q4] at h3; exact h3.elim
              | some d' =>
                simp only [q4] at h3
                obtain ⟨p', e', g', h0', c⟩ := I4.ow q3
                rw [hx] at e'
                cases e'
                have rk' : RepT X.K G4 H3 y dk := by
                  cases rk with
                  | sh dd => cases q2; exact Rep.top (Rep.mono (Mono.of s4) v3) (Mono.of I4.gh)
                  | al j => exact VR.pk (r := .al j) I4 v3 q2
                  | ow dd =>
                    cases q2
                    obtain ⟨pk, rfl, _, _, _, cc⟩ := v3
                    exact (cc.mono (Mono.of s4) rfl).top
                exact putO_go c rk' rv q4 fun o cc => h3 σ G4 _ (I4.write q3 hx cc)
    · rw [if_neg z] at h1; exact h1.elim

/-! ### name op= e -/
def isK' (i : Nat) (ρ : DEnv) : Bool := match ρ[i]? with
  | some (.ow _) => true
  | some (.sh _) => true
  | _ => false
def goAug (p : D → D → PR) (i : Nat) (r : R) (ρ : DEnv) : SR := (ap2 p (.al i) r ρ).toS (goSet i)
def sAug (p : D → D → PR) (i : Nat) (f : EM) : SM := fun ρ => if isK' i ρ = true then (f ρ).toS (goAug p i) else .bad
theorem ds_aug (i : Nat) {x : Str} {op : Operator} {r : R2} {p : D → D → PR} {f : EM} {pos' : Pos} (ho : OpR X (inplaceOp op) r) (hp : Prim2 X.K r p) (hNd : X.N.Nodup) (he : DE X W e f) (hi : X.N[i]? = some x := by rfl) (hx : Loc X.env.scope x := by first | exact Or.inl rfl | exact Or.inr rfl)
    (hf : X.fn x = true ∨ X.env.scope.names.lookup x = some .local := by first | exact .inl rfl | exact .inr rfl | assumption) : DS X W (.AugAssign (.Name x pos') op e pos) (sAug p i f) :=
  iS (ps_aug hNd hi hx he (ti := r) ho hf) fun D σ H ⟨H0, B, G, ρ, I, h⟩ => by
    unfold sAug at h
    by_cases z : isK' i ρ = true
    · rw [if_pos z] at h
      have hv : ∃ v, σ[i]? = some (some v) := by
        unfold isK' at z
        cases q : ρ[i]? with
        | none => rw [q] at z; cases z
        | some s =>
          cases s with
          | un => rw [q] at z; cases z
          | sh d => obtain ⟨v, e, _⟩ := I.sh q; exact ⟨v, e⟩
          | ow d => obtain ⟨p, e, _⟩ := I.ow q; exact ⟨_, e⟩
      obtain ⟨v, hv⟩ := hv
      refine ⟨v, hv, cE.okSt I h fun r1 ρ1 y G1 H1 s1 I1 v1 h1 => ?_⟩
      unfold goAug ap2 at h1
      cases q1 : pk ρ1 (.al i) with
      | none => rw [q1] at h1; exact h1.elim
      | some d =>
        cases q2 : pk ρ1 r1 with
        | none => rw [q1, q2] at h1; exact h1.elim
        | some e =>
          rw [q1, q2] at h1
          dsimp only at h1
          refine hp G1 H1 v y d e _ I1.gh (VR.pk (r := .al i) I1 hv q1) (v1.pk I1 q2) ?_
          -- what the operation gives is stored
          have fin : ∀ (pr : PR), SPost X.K X.mg H0 B W D ((pr.er ρ1).toS (goSet i)) → PPost X.K G1 H1 (fun z H2 => D.nx (σ.set i (some z)) H2) pr := fun pr hh => by
            have hh' : EPost X.K X.mg H0 B G1 W σ (fun z H2 => D.nx (σ.set i (some z)) H2) (pr.er ρ1) := by
              cases pr with
              | v d => exact fun v G2 H2 s2 I2 x2 => goSet_go I2 x2 hh
              | nl d => exact fun v G2 H2 s2 I2 x2 => goSet_go I2 x2 hh
              | nd d => exact fun v G2 H2 s2 I2 x2 => goSet_go I2 x2 hh
              | t d => exact fun v G2 H2 s2 I2 x2 => goSet_go I2 x2 hh
              | bad => exact hh
            exact PPost.of I1 hh'
          exact fin _ h1
    · rw [if_neg z] at h; exact h.elim
def rIAddA : R2 := fun x y H Q => (∃ i j, x = .int i ∧ y = .int j ∧ Q (.int (i + j)) H) ∨ (∃ i j, x = .str i ∧ y = .str j ∧ i.length + j.length ≤ sizeLine ∧ Q (.str (i ++ j)) H)
theorem iop_addA : OpR X (inplaceOp .Add) rIAddA := OpR.or iop_add iop_add_str
def pIAdd : D → D → PR
  | .int i, .int j => .v (.int (i + j))
  | .str x, .str y => if x.length + y.length ≤ 16777216 then .v (.str (x ++ y)) else .bad
  | _, _ => .bad
theorem p_iadd {K : PySem.W.Frag} : Prim2 K rIAddA pIAdd := by
  intro G H x y d e Q m rx ry h
  cases rx with
  | int i => cases ry with
    | int j => exact .inl ⟨i, j, rfl, rfl, h _ (.int _)⟩
    | _ => exact h.elim
  | str i => cases ry with
    | str j =>
      dsimp only [pIAdd] at h
      by_cases z : i.length + j.length ≤ 16777216
      · rw [if_pos z] at h
        exact .inr ⟨i, j, rfl, rfl, by rw [sizeLine_eq]; exact z, h _ (.str _)⟩
      · rw [if_neg z] at h; exact h.elim
    | _ => exact h.elim
  | _ => exact h.elim
def pIMul : D → D → PR
  | .int i, .int j => if CMul i j then .v (.int (i * j)) else .bad
  | _, _ => .bad
theorem p_imul {K : PySem.W.Frag} : Prim2 K (rI CMul fun i j => .int (i * j)) pIMul := by
  intro G H x y d e Q m rx ry h
  cases rx with
  | int i => cases ry with
    | int j =>
      dsimp only [pIMul] at h
      by_cases z : CMul i j
      · rw [if_pos z] at h; exact ⟨i, j, rfl, rfl, z, h _ (.int _)⟩
      · rw [if_neg z] at h; exact h.elim
    | _ => exact h.elim
  | _ => exact h.elim

/-! ### isinstance of built-in types -/
inductive Ty where
  | bool | int | str | list | tuple | dict
  deriving DecidableEq
def Ty.name : Ty → String
  | .bool => "bool"
  | .int => "int"
  | .str => "str"
  | .list => "list"
  | .tuple => "tuple"
  | .dict => "dict"
def tyN : D → Option String
  | .non => some "NoneType"
  | .bl _ => some "bool"
  | .int _ => some "int"
  | .str _ => some "str"
  | .tup _ => some "tuple"
  | .lst _ => some "list"
  | .dct _ => some "dict"
  | .scr _ => some "list"
  | .xn _ => none
def isTy (d : D) (T : Ty) : Option Bool := match d with
  | .non => some false
  | .bl _ => some (decide (T = .bool ∨ T = .int))
  | .int _ => some (decide (T = .int))
  | .str _ => some (decide (T = .str))
  | .tup _ => some (decide (T = .tuple))
  | .lst _ => some (decide (T = .list))
  | .dct _ => some (decide (T = .dict))
  | .scr _ => some (decide (T = .list))
  | .xn _ => none
theorem kitB_ty {d : D} {T : Ty} {b : Bool} (h : isTy d T = some b) : ∃ n, tyN d = some n ∧ kitB n T.name = some b := by
  cases d with
  | xn c => cases h
  | non => cases h; exact ⟨_, rfl, by cases T <;> decide +kernel⟩
  | bl x => cases h; exact ⟨_, rfl, by cases T <;> decide +kernel⟩
  | int x => cases h; exact ⟨_, rfl, by cases T <;> decide +kernel⟩
  | str x => cases h; exact ⟨_, rfl, by cases T <;> decide +kernel⟩
  | tup x => cases h; exact ⟨_, rfl, by cases T <;> decide +kernel⟩
  | lst x => cases h; exact ⟨_, rfl, by cases T <;> decide +kernel⟩
  | dct x => cases h; exact ⟨_, rfl, by cases T <;> decide +kernel⟩
  | scr x => cases h; exact ⟨_, rfl, by cases T <;> decide +kernel⟩
theorem tyX_of {K : PySem.W.Frag} {G H : Hp} {v : V} {d : D} {n : String} (r : RepT K G H v d) (m : Grow G H) (h : tyN d = some n) : TyX K H v (.type n) := by
  cases r with
  | xn => cases h
  | non => cases h; exact .base .non
  | bl b => cases h; exact .base (.bl b)
  | int b => cases h; exact .base (.int b)
  | str b => cases h; exact .base (.str b)
  | lst g r =>
    cases h
    rcases g with g | ⟨o, g⟩
    · exact .base (.lst g)
    · exact .base (.frz g)
  | scr g =>
    cases h
    rcases g with (g | ⟨o, g⟩) | ⟨o, its, k, hk, hc, _⟩
    · exact .base (.lst g)
    · exact .base (.frz g)
    · exact .kList hk hc
  | tup g r =>
    cases h
    rcases (Mono.of m).seqT g with ⟨o, g, _⟩ | ⟨o, its, k, hk, hc, _⟩
    · exact .fTuple g
    · exact .kTuple hk hc
  | dct g r =>
    cases h
    rcases g with g | ⟨o, g⟩
    · exact .base (.dK g)
    · exact .fDict g
def goIsi (T : Ty) (r : R) (ρ : DEnv) : ER := match pk ρ r with
  | some d => (match isTy d T with
    | some b => .ok (.sh (.bl b)) ρ
    | none => .bad)
  | none => .bad
def eIsi (T : Ty) (f : EM) : EM := fun ρ => (f ρ).bind (goIsi T)
theorem de_isi (T : Ty) {y : Str} {f : EM} {p2 : Pos} (hg : Gl X "isinstance") (hm : X.mg "isinstance" = none) (hgy : Gl X y) (hmy : X.mg y = none) (hv : bootBuiltins y = some (.type T.name)) (he : DE X W e f)
    (hny : y ≠ "__name__" := by decide) (hdy : (y == ("__debug__" : Str)) = false := by decide) (hb : bootBuiltins "isinstance" = some (.builtin "isinstance") := by decide +kernel)
    (hse : starEach [e, .Name y p2] X.env = (false, eval e X.env) :: starEach [.Name y p2] X.env := by rfl) :
    DE X W (.Call (.Name "isinstance" p) [e, .Name y p2] [] pos) (eIsi T f) :=
  iE (pe_callB (he := hse) call_isi hg hm hb (pa_cons (hs := hse) he (pa_cons (pe_bltn (v := .ty T.name) hgy hmy hv rfl hny hdy) pa_nil))) fun σ H Q ⟨H0, B, G, ρ, I, h⟩ => cE.ok I h fun r ρ1 v G1 H1 _ s1 I1 v1 h1 => by
    unfold goIsi at h1
    cases q : pk ρ1 r with
    | none => rw [q] at h1; exact h1.elim
    | some d =>
      simp only [q] at h1
      cases q2 : isTy d T with
      | none => simp only [q2] at h1; exact h1.elim
      | some b =>
        simp only [q2] at h1
        obtain ⟨n, hn, hk⟩ := kitB_ty q2
        exact ⟨v, .ty T.name, .type n, .type T.name, b, rfl, .ty _, tyX_of (v1.pk I1 q) I1.gh hn, kit_ty hk, h1 _ G1 H1 (Grow.refl _) I1 (.bl b)⟩
/-- isinstance(x, (T, U)) -/
def goIsi2 (T U : Ty) (r : R) (ρ : DEnv) : ER := match pk ρ r with
  | some d => (match isTy d T, isTy d U with
    | some b, some c => .ok (.sh (.bl (b || c))) ρ
    | _, _ => .bad)
  | none => .bad
def eIsi2 (T U : Ty) (f : EM) : EM := fun ρ => (f ρ).bind fun r ρ1 => goIsi2 T U (settle r) ρ1
theorem de_isi2 (T U : Ty) {y z : Str} {f : EM} {p2 p3 p4 : Pos} {j} (hg : Gl X "isinstance") (hm : X.mg "isinstance" = none) (hgy : Gl X y) (hmy : X.mg y = none) (hv : bootBuiltins y = some (.type T.name)) (hgz : Gl X z) (hmz : X.mg z = none) (hvz : bootBuiltins z = some (.type U.name)) (he : DE X W e f)
    (hny : y ≠ "__name__" := by decide) (hdy : (y == ("__debug__" : Str)) = false := by decide) (hnz : z ≠ "__name__" := by decide) (hdz : (z == ("__debug__" : Str)) = false := by decide) (hb : bootBuiltins "isinstance" = some (.builtin "isinstance") := by decide +kernel)
    (hse : starEach [e, .Tuple [.Name y p2, .Name z p3] j p4] X.env = (false, eval e X.env) :: starEach [.Tuple [.Name y p2, .Name z p3] j p4] X.env := by rfl) :
    DE X W (.Call (.Name "isinstance" p) [e, .Tuple [.Name y p2, .Name z p3] j p4] [] pos) (eIsi2 T U f) :=
  iE (pe_callB (he := hse) call_isiT hg hm hb (pa_cons (hs := hse) he (pa_cons (pe_tup (pa_cons (pe_bltn (v := .ty T.name) hgy hmy hv rfl hny hdy) (pa_cons (pe_bltn (v := .ty U.name) hgz hmz hvz rfl hnz hdz) pa_nil))) pa_nil))) fun σ H Q ⟨H0, B, G, ρ, I, h⟩ => cE.okS I h fun r ρ1 v G1 H1 s1 I1 v1 h1 => by
    unfold goIsi2 at h1
    refine ⟨by show 2 ≤ sizeLine; rw [sizeLine_eq]; decide, fun tp htp => ?_⟩
    cases q : pk ρ1 (settle r) with
    | none => rw [q] at h1; exact h1.elim
    | some d =>
      simp only [q] at h1
      cases q2 : isTy d T with
      | none => simp only [q2] at h1; exact h1.elim
      | some b =>
        cases q3 : isTy d U with
        | none => simp only [q2, q3] at h1; exact h1.elim
        | some c =>
          simp only [q2, q3] at h1
          obtain ⟨n, hn, hk⟩ := kitB_ty q2
          obtain ⟨n2, hn2, hk2⟩ := kitB_ty q3
          rw [hn] at hn2
          cases hn2
          have I2 := I1.alloc (o := .tup [.ty T.name, .ty U.name]) htp
          refine ⟨v, tp, [.ty T.name, .ty U.name], .type n, [.type T.name, .type U.name], b || c, rfl, upd_same, .cons (.ty _) (.cons (.ty _) .nil), tyX_of (v1.pk I2 q) I2.gh hn, ?_, h1 _ G1 _ (Grow.refl _) I2 (.bl _)⟩
          refine kitAny_cons (kit_ty hk) (fun e => ?_) (fun e => by rw [e]; rfl)
          rw [e, Bool.false_or]
          exact kitAny_cons (kit_ty hk2) (fun e => by rw [e]; exact kitAny_nil) (fun e => e)
end
end DL

/-! DL13: a def by its name. -/
namespace DL
open PySem PySem.Spec PyProof.Rows L2
/-- the def named x takes n values and does m -/
structure CalD (P : Program) (w : World) (K : PySem.W.Frag) (mg : Str → Option Value) (base : Heap) (k : Nat) (x : Str) (n : Nat) (m : List D → FR) : Prop where
  ex : ∃ (f : Addr) (fd : FuncData) (ps : List Str), FnOk P w K mg base (L2.CX P w) k f fd ps (spOf K mg n m) ∧ mg x = some (.ref f) ∧ PySem.W.keepIn K (.ref f) = true ∧ Binds K fd ps []
/-- the def as it stands: where its name points, its text -/
structure Std (K : PySem.W.Frag) (mg : Str → Option Value) (x : Str) (st : Stmt) (ps : List Str) : Prop where
  ex : ∃ (f : Addr) (fd : FuncData), FunD K x x (defArgs st) (defBody st) (defScope st) [] [] f fd ∧ mg x = some (.ref f)
  b : ∀ (kV doc pm : Value) (an : Option Addr) (cdv ct : Value) (us : List Value), us.length = ps.length → bindArgs (PySem.W.fnOf x x (defArgs st) (defBody st) (defScope st) .none kV doc pm an cdv ct) ⟨us, []⟩ = pure (ps.zip us)
section
variable {P : Program} {w : World} {K : PySem.W.Frag} {mg : Str → Option Value} {base : Heap} {k n : Nat} {x : Str} {m : List D → FR}
theorem CalD.up {j : Nat} (C : CalD P w K mg base j x n m) (h : j ≤ k) : CalD P w K mg base k x n m := by
  obtain ⟨f, fd, ps, F, a, b, c⟩ := C.ex
  exact ⟨f, fd, ps, F.mono h, a, b, c⟩
theorem CalD.less {m' : List D → FR} (C : CalD P w K mg base k x n m) (h : ∀ ds, ds.length = n → m' ds = m ds ∨ m' ds = .bad) : CalD P w K mg base k x n m' := by
  obtain ⟨f, fd, ps, F, a, b, c⟩ := C.ex
  refine ⟨f, fd, ps, F.imp fun vs H Q E ⟨B, ds, hl, g, r, q⟩ => ⟨B, ds, hl, g, r, ?_⟩, a, b, c⟩
  rcases h ds hl with e | e
  · rw [e] at q; exact q
  · rw [e] at q; exact q.elim
theorem cal_bad {st : Stmt} {ps : List Str} (S : Std K mg x st ps) (hn : ps.length = n := by rfl) : CalD P w K mg base 0 x n fun _ => .bad := by
  obtain ⟨f, fd, F, hm⟩ := S.ex
  refine ⟨f, fd, ps, ⟨fun vs H Q E ⟨B, ds, hl, _, r, _⟩ => by rw [r.length, hl, hn], fun A outer s H args us vs Q E _ _ _ _ h => ?_⟩, hm, F.kp, F.bindsN S.b⟩
  obtain ⟨B, ds, hl, _, r, q⟩ := h
  exact q.elim
theorem cal_ok {st : Stmt} {N ps : List Str} {L : Nat} {body : SM} (S : Std K mg x st ps) (sc : FnScope N ps (defScope st)) (hb : ∀ (f : Addr) (cdv : Value) (A : Around) (outer : List Env) (s : Shared) (H : Hp) (E : XK), Room k (A.deeper (envOfC x (defScope st) s.heap.objs.size f cdv)) →
      DSs (cxOf (L2.CX P w) P w K mg base N x (defScope st) f cdv A outer s H E) (fun cls d _ H => E cls d H) (defBody st) body) (hL : N.length = L := by rfl) (hn : ps.length = n := by rfl) : CalD P w K mg base (k + 1) x n (runF L body) := by
  subst hL hn
  obtain ⟨f, fd, F, hm⟩ := S.ex
  refine ⟨f, fd, ps, ?_, hm, F.kp, F.bindsN S.b⟩
  refine F.ok sc (fun vs H Q E ⟨B, ds, hl, _, r, _⟩ => by rw [r.length, hl]) fun cdv A outer s H vs Q E hr hsp => ?_
  obtain ⟨B, ds, hl, sb, r, fp⟩ := hsp
  refine ⟨_, hb f cdv A outer s H E hr, H, B, B, _, StD.entry (N := N) sb r, ?_⟩
  have aft : ∀ {G' : Hp} {ρ' : DEnv} {σ' : L2.St} {H' : Hp}, StD K H B G' ρ' σ' H' → Aft B H G' H' := fun I => ⟨I.h0, I.bg, I.gh, I.nb⟩
  unfold runF at fp
  show SPost K mg H B _ _ (body (ds.map Sl.sh ++ List.replicate (N.length - ds.length) Sl.un))
  cases q : body (ds.map Sl.sh ++ List.replicate (N.length - ds.length) Sl.un) with
  | nx ρ' => rw [q] at fp; exact fun σ' G' H' I => fp _ G' H' (aft I) .non
  | rt r ρ' =>
    rw [q] at fp
    intro v σ' G' H' I x
    cases r with
    | sh d => exact fp v G' H' (aft I) x
    | ow d =>
      obtain ⟨p, rfl, g, h0, _, c⟩ := x
      exact fp p G' H' (aft I) g h0 c
    | al i =>
      dsimp only [fin] at fp
      have x' : σ'[i]? = some (some v) := x
      cases q2 : ρ'[i]? with
      | none => simp only [q2] at fp; exact fp.elim
      | some sl =>
        simp only [q2] at fp
        cases sl with
        | un => exact fp.elim
        | sh d =>
          obtain ⟨v2, e1, rp⟩ := I.sh q2
          rw [x'] at e1
          cases e1
          exact fp v G' H' (aft I) rp
        | ow d =>
          obtain ⟨p, e1, g, h0, c⟩ := I.ow q2
          rw [x'] at e1
          cases e1
          exact fp p G' H' (aft I) g h0 c
  | bk ρ' => rw [q] at fp; exact fp.elim
  | ct ρ' => rw [q] at fp; exact fp.elim
  | xc c ρ' => rw [q] at fp; exact fun cls σ' G' H' I e => fp cls G' H' (aft I) e
  | bad => rw [q] at fp; exact fp
/-- the law's own def, run on its script -/
theorem CalD.law {m : List D → FR} (C : CalD P w K mg base k x 1 m) : ∃ (f : Addr) (fd : FuncData) (ps : List Str), mg x = some (.ref f) ∧
    FnOk P w K mg base (L2.CX P w) k f fd ps fun vs H Q _ => ∃ (a : Addr) (ns : List Int), vs = [.ref a] ∧ SqL K H a (ns.map V.int) ∧ m [.scr ns] = .sh (.bl true) ∧ ∀ H', Q (.bl true) H' := by
  obtain ⟨f, fd, ps, F, a, b, c⟩ := C.ex
  refine ⟨f, fd, ps, a, F.imp fun vs H Q E ⟨p, ns, e, h, hm, q⟩ => ?_⟩
  subst e
  refine ⟨H, [.scr ns], rfl, Grow.refl H, .cons (.scr h) .nil, ?_⟩
  rw [hm]
  intro v G' H' _ r
  cases r
  exact q H'
end
section
variable {X : Cx} {W : WX} {e : Expr} {es : List Expr} {pos : Pos}
theorem de_cal {k j n : Nat} {m : List D → FR} {x : Str} {p : Pos} {fa : AM} (C : CalD X.prog X.w X.K X.mg X.base j x n m) (hr : Room k X.A) (tk : Takes X W) (ha : DA X W (e :: es) fa) (hj : j ≤ k := by decide) (hg : Gl X x := by rfl) (hdb : (x == ("__debug__" : Str)) = false := by decide) (he : starEach (e :: es) X.env = (false, eval e X.env) :: starEach es X.env := by rfl)
    (hpl : (backTo pos (starEach es X.env)).any (·.1) = false := by rfl) : DE X W (.Call (.Name x p) (e :: es) [] pos) (eCall n m fa) := by
  obtain ⟨f, fd, ps, F, a, b, c⟩ := C.ex
  exact de_call F tk (hr.mono hj) hg a b c ha hdb he hpl
theorem takesF : Takes X WF := fun _ _ x => by
  obtain ⟨_, _, _, _, _, _, _, _, _, _, _, _, _, _, _, _, z⟩ := x
  exact z.elim
/-- raise C("..") by facts -/
structure ExcD (K : PySem.W.Frag) (mg : Str → Option Value) (x : Str) : Prop where
  ex : ∃ C : Addr, mg x = some (.ref C) ∧ PySem.W.excIn K C He.veBase "ValueError.__new__" = true ∧ PySem.W.keepIn K (.ref C) = true ∧ PySem.W.subIn K (.ref C) (.type "BaseException") = some true ∧ PySem.W.typeIn K (.ref C) = some (.type "type")
theorem ds_raiseD {x m : Str} {j : Nat} {p p2 pos pos2 : Pos} (c : ExcD X.K X.mg x) (tk : Takes X W) (hc : X.calm = true := by rfl) (hg : Gl X x := by rfl)
    (hdb : (x == ("__debug__" : Str)) = false := by decide) : DS X W (.Raise (some (.Call (.Name x p) [.Constant (.str m) j p2] [] pos2)) none pos) (sRaise x) := by
  obtain ⟨C, a, b, d, e, f⟩ := c.ex
  exact ds_raise hc tk PySem.F.excBase_ValueError b a d (raises_own e f) hg hdb
end
end DL

/-! DL14: two rules for one text; small words for the printed walks. -/
namespace DL
open PySem PySem.Spec PyProof.Rows L2
theorem Room.u1 {k : Nat} {A : Around} (r : Room k A) : A.units + 1 < cLine := by have := r.un; omega
theorem Room.u65 {k : Nat} {A : Around} (r : Room k A) : A.units + 65 < cLine := by have := r.un; omega
theorem u1 {k : Nat} {A : Around} (r : Room k A) : A.units + 1 < cLine := by have := r.un; omega
theorem u65 {k : Nat} {A : Around} (r : Room k A) : A.units + 65 < cLine := by have := r.un; omega
def ER.els (x y : ER) : ER := match x with
  | .bad => y
  | x => x
def eEls (f g : EM) : EM := fun ρ => (f ρ).els (g ρ)
section
variable {X : Cx} {W : WX} {a e e2 : Expr} {es : List Expr} {pos : Pos}
theorem orE {t t' : TE} (h : PE X e t) (h' : PE X e t') : PE X e (fun σ H Q => t σ H Q ∨ t' σ H Q) := ⟨fun pins s σ H Q I q => q.elim (h.run pins s σ H Q I) (h'.run pins s σ H Q I)⟩
theorem de_els {f g : EM} (h1 : DE X W e f) (h2 : DE X W e g) : DE X W e (eEls f g) := iE (orE h1 h2) fun σ H Q ⟨H0, B, G, ρ, I, h⟩ => by
  unfold eEls at h
  cases q : f ρ with
  | bad => rw [q] at h; exact .inr ⟨H0, B, G, ρ, I, h⟩
  | ok r ρ1 => rw [q] at h; exact .inl ⟨H0, B, G, ρ, I, by rw [q]; exact h⟩
  | xc c ρ1 => rw [q] at h; exact .inl ⟨H0, B, G, ρ, I, by rw [q]; exact h⟩
/-- not e as a value -/
def eNotT (f : EM) : EM := fun ρ => (f ρ).bind fun r ρ1 => match tru r ρ1 with
  | .ok b ρ2 => .ok (.sh (.bl (!b))) ρ2
  | _ => .bad
theorem de_nt {f : EM} (ha : DE X W a f) : DE X W (.UnaryOp .Not a pos) (eNotT f) := iE (pe_notT ha) fun σ H Q ⟨H0, B, G, ρ, I, h⟩ => cE.ok I h fun r ρ1 v G1 H1 _ s1 I1 v1 h1 => by
  unfold tru at h1
  cases q : pk ρ1 r with
  | none => rw [q] at h1; exact h1.elim
  | some d =>
    rw [q] at h1
    dsimp only at h1
    cases q2 : truthD d with
    | none => rw [q2] at h1; exact h1.elim
    | some k =>
      rw [q2] at h1
      exact ⟨k, tru_go (v1.pk I1 q) I1.gh q2, h1 _ G1 H1 (Grow.refl _) I1 (.bl _)⟩
def eIndex (fo : EM) (fa : AM) : EM := eEls (eMeth "list" pIndex fo fa) (eMeth "tuple" pTIndex fo fa)
theorem de_index {o : Expr} {fo : EM} {fa : AM} {apos cpos : Pos} (ho : DE X W o fo) (ha : DA X W (e :: es) fa)
    (hbase : attributeBase o "index" X.env (eval o X.env) = eval o X.env := by rfl)
    (hfew : ((backTo cpos (starEach (e :: es) X.env)).all (fun x => !x.1) && (backToKw cpos (keywordEach [] X.env)).all (fun x => x.1.isSome)
      && decide ((e :: es).length + ([] : List Keyword).length + (if ([] : List Keyword).isEmpty then 0 else 1) < 30)) = true := by rfl)
    (hline : (apos.endLine == cpos.line) = true := by rfl) (hs : starEach (e :: es) X.env = (false, eval e X.env) :: starEach es X.env := by rfl) (hplain : (backTo cpos (starEach es X.env)).any (·.1) = false := by rfl) :
    DE X W (.Call (.Attribute o "index" apos) (e :: es) [] cpos) (eIndex fo fa) :=
  de_els (de_meth PySem.F.plainAttrs_list PySem.F.slot_list_index PySem.F.type_list_index mt_index p_index ho ha hbase hfew hline hs hplain)
    (de_meth PySem.F.plainAttrs_tuple PySem.F.slot_tuple_index PySem.F.type_tuple_index mt_tup_index p_tindex ho ha hbase hfew hline hs hplain)
/-- for .. in x: a dict, or what iSeq serves -/
def isDct (i : Nat) (ρ : DEnv) : Bool := match pk ρ (.al i) with
  | some (.dct _) => true
  | _ => false
def sForN (i : Nat) (g : GM) (fb : SM) : SM := fun ρ => if isDct i ρ = true then sForD i .keys g fb ρ else sFor (iSeq (eVar i)) g fb ρ
theorem ds_forN {tg : Expr} {body : List Stmt} {ws : List Nat} (i : Nat) {x : Str} {g : GM} {fb : SM} {npos : Pos} (hp : PassesOwn (model X.prog X.w) X.A X.env X.xe) (hc : X.calm = true) (hg : DG X false ws tg g) (hb : DSs X W body fb) (hN : X.N[i]? = some x := by rfl) (hv : Vis X.env.scope x := by first | exact Or.inl rfl | exact Or.inr (Or.inl rfl) | exact Or.inr (Or.inr rfl)) (hd : (x == ("__debug__" : Str)) = false := by decide)
    (hcd : (x == ("__classdict__" : Str)) = false := by decide) (hs : ∀ z, foldedSetIterable (.Name x npos) X.env z = pure z := by intro _; rfl) : DS X W (.For tg (.Name x npos) body [] pos) (sForN i g fb) :=
  iS (orS (ds_forD hp hc (di_keys i hN hv hd hcd) hg hb hs) (ds_for hp hc (di_seq (de_var i hN hv hd hcd)) hg hb hs)) fun D σ H ⟨H0, B, G, ρ, I, h⟩ => by
    unfold sForN at h
    by_cases z : isDct i ρ = true
    · rw [if_pos z] at h; exact .inl ⟨H0, B, G, ρ, I, h⟩
    · rw [if_neg z] at h; exact .inr ⟨H0, B, G, ρ, I, h⟩
end

/-! ### the law's own def -/
section
variable {P : Program} {w : World} {K : PySem.W.Frag} {mg : Str → Option Value} {base : Heap} {k n : Nat} {x : Str}
/-- a def by its own function object, as fn_ok -/
theorem fn_okD {params : Arguments} {pb : List Stmt} {sco : Scope} {f : Addr} {fd : FuncData} {N ps : List Str} {L : Nat} {body : SM} (F : FunD K x x params pb sco [] [] f fd) (sc : FnScope N ps sco) (hb : ∀ (f : Addr) (cdv : Value) (A : Around) (outer : List Env) (s : Shared) (H : Hp) (E : XK), Room k (A.deeper (envOfC x sco s.heap.objs.size f cdv)) →
      DSs (cxOf (L2.CX P w) P w K mg base N x sco f cdv A outer s H E) (fun cls d _ H => E cls d H) pb body) (hL : N.length = L := by rfl) (hn : ps.length = n := by rfl) : FnOk P w K mg base (L2.CX P w) (k + 1) f fd ps (spOf K mg n (runF L body)) := by
  subst hL hn
  refine F.ok sc (fun vs H Q E ⟨B, ds, hl, _, r, _⟩ => by rw [r.length, hl]) fun cdv A outer s H vs Q E hr hsp => ?_
  obtain ⟨B, ds, hl, sb, r, fp⟩ := hsp
  refine ⟨_, hb f cdv A outer s H E hr, H, B, B, _, StD.entry (N := N) sb r, ?_⟩
  have aft : ∀ {G' : Hp} {ρ' : DEnv} {σ' : L2.St} {H' : Hp}, StD K H B G' ρ' σ' H' → Aft B H G' H' := fun I => ⟨I.h0, I.bg, I.gh, I.nb⟩
  unfold runF at fp
  show SPost K mg H B _ _ (body (ds.map Sl.sh ++ List.replicate (N.length - ds.length) Sl.un))
  cases q : body (ds.map Sl.sh ++ List.replicate (N.length - ds.length) Sl.un) with
  | nx ρ' => rw [q] at fp; exact fun σ' G' H' I => fp _ G' H' (aft I) .non
  | rt r ρ' =>
    rw [q] at fp
    intro v σ' G' H' I x
    cases r with
    | sh d => exact fp v G' H' (aft I) x
    | ow d =>
      obtain ⟨p, rfl, g, h0, _, c⟩ := x
      exact fp p G' H' (aft I) g h0 c
    | al i =>
      dsimp only [fin] at fp
      have x' : σ'[i]? = some (some v) := x
      cases q2 : ρ'[i]? with
      | none => simp only [q2] at fp; exact fp.elim
      | some sl =>
        simp only [q2] at fp
        cases sl with
        | un => exact fp.elim
        | sh d =>
          obtain ⟨v2, e1, rp⟩ := I.sh q2
          rw [x'] at e1
          cases e1
          exact fp v G' H' (aft I) rp
        | ow d =>
          obtain ⟨p, e1, g, h0, c⟩ := I.ow q2
          rw [x'] at e1
          cases e1
          exact fp p G' H' (aft I) g h0 c
  | bk ρ' => rw [q] at fp; exact fp.elim
  | ct ρ' => rw [q] at fp; exact fp.elim
  | xc c ρ' => rw [q] at fp; exact fun cls σ' G' H' I e => fp cls G' H' (aft I) e
  | bad => rw [q] at fp; exact fp
/-- the promise of a law's def: the script goes in, True comes out -/
def spL (K : PySem.W.Frag) : Sp := fun vs H Q _ => ∃ (a : Addr) (ns : List Int), vs = [.ref a] ∧ SqL K H a (ns.map V.int) ∧ ns.length ≤ 63 ∧ ∀ H', Q (.bl true) H'
theorem fn_law {m : List D → FR} {f : Addr} {fd : FuncData} {ps : List Str} (F : FnOk P w K mg base (L2.CX P w) k f fd ps (spOf K mg 1 m)) (h : ∀ ns : List Int, ns.length ≤ 63 → m [.scr ns] = .sh (.bl true)) : FnOk P w K mg base CX0 k f fd ps (spL K) := by
  have F2 : FnOk P w K mg base (L2.CX P w) k f fd ps fun vs H Q _ => ∃ (a : Addr) (ns : List Int), vs = [.ref a] ∧ SqL K H a (ns.map V.int) ∧ ns.length ≤ 63 ∧ ∀ H', Q (.bl true) H' := F.imp fun vs H Q E ⟨p, ns, e, hs, hl, q⟩ => by
    subst e
    refine ⟨H, [.scr ns], rfl, Grow.refl H, .cons (.scr hs) .nil, ?_⟩
    rw [h ns hl]
    intro v G' H' _ r
    cases r
    exact q H'
  refine ⟨fun vs H Q E z => F2.len vs H Q E z, fun A outer s H args us vs Q E hr he hb hv hs => ?_⟩
  refine codeAny_mono (F2.run A outer s H args us vs Q E0 hr he hb hv hs) fun r s' q => ?_
  cases r with
  | ok x => cases x <;> exact q
  | error e =>
    obtain ⟨_, _, _, _, _, _, _, _, _, _, _, _, z⟩ := (show L2.CX P w outer H s E0 e s' from q)
    exact z.elim
end
end DL

/-! DL15: the meanings reckoned by simp: one rule each, applied ones only. -/
namespace DL
open PySem PySem.Spec PyProof.Rows L2
/-! binds: only the first part is looked into -/
theorem v_b1 {r ρ} {k : R → DEnv → ER} : ER.bind (.ok r ρ) k = k r ρ := Eq.trans rfl rfl
theorem v_b2 {c ρ} {k : R → DEnv → ER} : ER.bind (.xc c ρ) k = .xc c ρ := Eq.trans rfl rfl
theorem v_b3 {k : R → DEnv → ER} : ER.bind .bad k = .bad := Eq.trans rfl rfl
theorem v_t1 {r ρ} {k : Bool → DEnv → TR} : TR.bind (.ok r ρ) k = k r ρ := Eq.trans rfl rfl
theorem v_t2 {c ρ} {k : Bool → DEnv → TR} : TR.bind (.xc c ρ) k = .xc c ρ := Eq.trans rfl rfl
theorem v_a1 {r ρ} {k : List R → DEnv → AR} : AR.bind (.ok r ρ) k = k r ρ := Eq.trans rfl rfl
theorem v_a2 {c ρ} {k : List R → DEnv → AR} : AR.bind (.xc c ρ) k = .xc c ρ := Eq.trans rfl rfl
theorem v_ae1 {r ρ} {k : List R → DEnv → ER} : AR.toE (.ok r ρ) k = k r ρ := Eq.trans rfl rfl
theorem v_ae2 {c ρ} {k : List R → DEnv → ER} : AR.toE (.xc c ρ) k = .xc c ρ := Eq.trans rfl rfl
theorem v_ea1 {r ρ} {k : R → DEnv → AR} : ER.toA (.ok r ρ) k = k r ρ := Eq.trans rfl rfl
theorem v_ea2 {c ρ} {k : R → DEnv → AR} : ER.toA (.xc c ρ) k = .xc c ρ := Eq.trans rfl rfl
theorem v_et1 {r ρ} {k : R → DEnv → TR} : ER.toT (.ok r ρ) k = k r ρ := Eq.trans rfl rfl
theorem v_et2 {c ρ} {k : R → DEnv → TR} : ER.toT (.xc c ρ) k = .xc c ρ := Eq.trans rfl rfl
theorem v_es1 {r ρ} {k : R → DEnv → SR} : ER.toS (.ok r ρ) k = k r ρ := Eq.trans rfl rfl
theorem v_es2 {c ρ} {k : R → DEnv → SR} : ER.toS (.xc c ρ) k = .xc c ρ := Eq.trans rfl rfl
theorem v_ts1 {r ρ} {k : Bool → DEnv → SR} : TR.toS (.ok r ρ) k = k r ρ := Eq.trans rfl rfl
theorem v_ts2 {c ρ} {k : Bool → DEnv → SR} : TR.toS (.xc c ρ) k = .xc c ρ := Eq.trans rfl rfl
theorem v_as1 {r ρ} {k : List R → DEnv → SR} : AR.toS (.ok r ρ) k = k r ρ := Eq.trans rfl rfl
theorem v_as2 {c ρ} {k : List R → DEnv → SR} : AR.toS (.xc c ρ) k = .xc c ρ := Eq.trans rfl rfl
theorem v_s1 {ρ} {k : DEnv → SR} : SR.bind (.nx ρ) k = k ρ := Eq.trans rfl rfl
theorem v_s2 {r ρ} {k : DEnv → SR} : SR.bind (.rt r ρ) k = .rt r ρ := Eq.trans rfl rfl
theorem v_s3 {ρ} {k : DEnv → SR} : SR.bind (.bk ρ) k = .bk ρ := Eq.trans rfl rfl
theorem v_s4 {ρ} {k : DEnv → SR} : SR.bind (.ct ρ) k = .ct ρ := Eq.trans rfl rfl
theorem v_s5 {c ρ} {k : DEnv → SR} : SR.bind (.xc c ρ) k = .xc c ρ := Eq.trans rfl rfl
theorem v_ei1 {r ρ} {k : R → DEnv → IR} : ER.toI (.ok r ρ) k = k r ρ := Eq.trans rfl rfl
theorem v_ei2 {c ρ} {k : R → DEnv → IR} : ER.toI (.xc c ρ) k = .xc c ρ := Eq.trans rfl rfl
theorem v_ai1 {r ρ} {k : List R → DEnv → IR} : AR.toI (.ok r ρ) k = k r ρ := Eq.trans rfl rfl
theorem v_ai2 {c ρ} {k : List R → DEnv → IR} : AR.toI (.xc c ρ) k = .xc c ρ := Eq.trans rfl rfl
theorem v_is1 {r ρ} {k : List D → DEnv → SR} : IR.toS (.ok r ρ) k = k r ρ := Eq.trans rfl rfl
theorem v_is2 {c ρ} {k : List D → DEnv → SR} : IR.toS (.xc c ρ) k = .xc c ρ := Eq.trans rfl rfl
theorem v_ie1 {r ρ} {k : List D → DEnv → ER} : IR.toE (.ok r ρ) k = k r ρ := Eq.trans rfl rfl
theorem v_ie2 {c ρ} {k : List D → DEnv → ER} : IR.toE (.xc c ρ) k = .xc c ρ := Eq.trans rfl rfl
theorem v_oe1 {r ρ} {k : Option Int → DEnv → ER} : PrO.toE (.ok r ρ) k = k r ρ := Eq.trans rfl rfl
theorem v_oe2 {c ρ} {k : Option Int → DEnv → ER} : PrO.toE (.xc c ρ) k = .xc c ρ := Eq.trans rfl rfl
theorem v_els1 {r ρ} {y : ER} : ER.els (.ok r ρ) y = .ok r ρ := Eq.trans rfl rfl
theorem v_els2 {y : ER} : ER.els .bad y = y := Eq.trans rfl rfl
theorem v_els3 {c ρ} {y : ER} : ER.els (.xc c ρ) y = .xc c ρ := Eq.trans rfl rfl
/-! slots -/
def varR (i : Nat) (ρ : DEnv) : Option Sl → ER
  | some (.sh d) => .ok (.sh d) ρ
  | some (.ow _) => .ok (.al i) ρ
  | _ => .bad
theorem v_var {i ρ} : eVar i ρ = varR i ρ ρ[i]? := by
  unfold eVar varR
  cases ρ[i]? with
  | none => rfl
  | some s => cases s <;> rfl
theorem v_var1 {i ρ d} : varR i ρ (some (.sh d)) = .ok (.sh d) ρ := Eq.trans rfl rfl
theorem v_var2 {i ρ d} : varR i ρ (some (.ow d)) = .ok (.al i) ρ := Eq.trans rfl rfl
def pkO : Option Sl → Option D
  | some (.ow d) => some d
  | some (.sh d) => some d
  | _ => none
theorem v_pk1 {ρ d} : pk ρ (.sh d) = some d := Eq.trans rfl rfl
theorem v_pk2 {ρ d} : pk ρ (.ow d) = some d := Eq.trans rfl rfl
theorem v_pk3 {ρ i} : pk ρ (.al i) = pkO ρ[i]? := by
  cases h : ρ[i]? with
  | none => simp [pk, pkO, h]
  | some s => cases s <;> simp [pk, pkO, h]
theorem v_pkO1 {d} : pkO (some (.ow d)) = some d := Eq.trans rfl rfl
theorem v_pkO2 {d} : pkO (some (.sh d)) = some d := Eq.trans rfl rfl
def fzO (i : Nat) (ρ : DEnv) : Option Sl → Option (D × DEnv)
  | some (.ow d) => some (d, ρ.set i (.sh d))
  | some (.sh d) => some (d, ρ)
  | _ => none
theorem v_fz1 {ρ d} : fz ρ (.sh d) = some (d, ρ) := Eq.trans rfl rfl
theorem v_fz2 {ρ d} : fz ρ (.ow d) = some (d, ρ) := Eq.trans rfl rfl
theorem v_fz3 {ρ i} : fz ρ (.al i) = fzO i ρ ρ[i]? := by
  cases h : ρ[i]? with
  | none => simp [fz, fzO, h]
  | some s => cases s <;> simp [fz, fzO, h]
theorem v_fzO1 {i ρ d} : fzO i ρ (some (.ow d)) = some (d, ρ.set i (.sh d)) := Eq.trans rfl rfl
theorem v_fzO2 {i ρ d} : fzO i ρ (some (.sh d)) = some (d, ρ) := Eq.trans rfl rfl
/-! words applied -/
theorem v_C {d ρ} : eC d ρ = .ok (.sh d) ρ := Eq.trans rfl rfl
theorem v_op1 {p a ρ} : eOp1 p a ρ = (a ρ).bind (ap1 p) := Eq.trans rfl rfl
def op2B (p : D → D → PR) (r : R) : ER → ER
  | .ok r2 ρ => ap2 p (settle r) r2 ρ
  | .xc c ρ => .xc c ρ
  | .bad => .bad
def op2A (p : D → D → PR) (b : EM) : ER → ER
  | .ok r ρ => op2B p r (b ρ)
  | .xc c ρ => .xc c ρ
  | .bad => .bad
theorem v_op2 {p a b ρ} : eOp2 p a b ρ = op2A p b (a ρ) := by
  show ER.bind (a ρ) _ = _
  cases a ρ with
  | ok r ρ1 => show ER.bind (b ρ1) _ = op2B p r (b ρ1); cases b ρ1 <;> rfl
  | _ => rfl
theorem v_op2a {p b r ρ} : op2A p b (.ok r ρ) = op2B p r (b ρ) := Eq.trans rfl rfl
theorem v_op2x {p b c ρ} : op2A p b (.xc c ρ) = .xc c ρ := Eq.trans rfl rfl
theorem v_op2b {p r r2 ρ} : op2B p r (.ok r2 ρ) = ap2 p (settle r) r2 ρ := Eq.trans rfl rfl
theorem v_op2y {p r c ρ} : op2B p r (.xc c ρ) = .xc c ρ := Eq.trans rfl rfl
theorem v_opN {p a ρ} : eOpN p a ρ = (a ρ).toE (apN p) := Eq.trans rfl rfl
theorem v_aN {ρ} : aNil ρ = .ok [] ρ := Eq.trans rfl rfl
def aCB (r : R) : AR → AR
  | .ok rs ρ => .ok (settle r :: rs) ρ
  | .xc c ρ => .xc c ρ
  | .bad => .bad
def aCA (b : AM) : ER → AR
  | .ok r ρ => aCB r (b ρ)
  | .xc c ρ => .xc c ρ
  | .bad => .bad
theorem v_aC {a b ρ} : aCons a b ρ = aCA b (a ρ) := by
  show ER.toA (a ρ) _ = _
  cases a ρ with
  | ok r ρ1 => show AR.bind (b ρ1) _ = aCB r (b ρ1); cases b ρ1 <;> rfl
  | _ => rfl
theorem v_aCa {b r ρ} : aCA b (.ok r ρ) = aCB r (b ρ) := Eq.trans rfl rfl
theorem v_aCx {b c ρ} : aCA b (.xc c ρ) = .xc c ρ := Eq.trans rfl rfl
theorem v_aCb {r rs ρ} : aCB r (.ok rs ρ) = .ok (settle r :: rs) ρ := Eq.trans rfl rfl
theorem v_aCy {r c ρ} : aCB r (.xc c ρ) = .xc c ρ := Eq.trans rfl rfl
theorem v_lst {a ρ} : eLst a ρ = (a ρ).toE mkL := Eq.trans rfl rfl
theorem v_tup {a ρ} : eTup a ρ = (a ρ).toE mkT := Eq.trans rfl rfl
theorem v_newD {ρ} : eNewD ρ = .ok (.ow (.dct [])) ρ := Eq.trans rfl rfl
def meB (p : D → List D → PR) (r : R) : AR → ER
  | .ok rs ρ => apM p (settle r) rs ρ
  | .xc c ρ => .xc c ρ
  | .bad => .bad
def meA (T : String) (p : D → List D → PR) (b : AM) : ER → ER
  | .ok r ρ => if isK T (settle r) ρ = true then meB p r (b ρ) else .bad
  | .xc c ρ => .xc c ρ
  | .bad => .bad
theorem v_meth {T p a b ρ} : eMeth T p a b ρ = meA T p b (a ρ) := by
  show ER.bind (a ρ) _ = _
  cases a ρ with
  | ok r ρ1 =>
    show (if isK T (settle r) ρ1 = true then AR.toE (b ρ1) _ else .bad) = if isK T (settle r) ρ1 = true then meB p r (b ρ1) else .bad
    cases b ρ1 <;> rfl
  | _ => rfl
theorem v_metha {T p b r ρ} : meA T p b (.ok r ρ) = if isK T (settle r) ρ = true then meB p r (b ρ) else .bad := Eq.trans rfl rfl
theorem v_methb {p r rs ρ} : meB p r (.ok rs ρ) = apM p (settle r) rs ρ := Eq.trans rfl rfl
theorem v_mut {i T p a ρ} : eMut i T p a ρ = if isK T (.al i) ρ = true then (a ρ).toE (goMut i p) else .bad := Eq.trans rfl rfl
theorem v_call {n m a ρ} : eCall n m a ρ = (a ρ).toE (goCall n m) := Eq.trans rfl rfl
theorem v_index {a b ρ} : eIndex a b ρ = (eMeth "list" pIndex a b ρ).els (eMeth "tuple" pTIndex a b ρ) := Eq.trans rfl rfl
def slC (p : D → Option Int → Option Int → PR) (r : R) (lo : Option Int) : PrO → ER
  | .ok hi ρ => apS p (settle r) lo hi ρ
  | .xc c ρ => .xc c ρ
  | .bad => .bad
def slB (p : D → Option Int → Option Int → PR) (h : DEnv → PrO) (r : R) : PrO → ER
  | .ok lo ρ => slC p r lo (h ρ)
  | .xc c ρ => .xc c ρ
  | .bad => .bad
def slA (p : D → Option Int → Option Int → PR) (l h : DEnv → PrO) : ER → ER
  | .ok r ρ => slB p h r (l ρ)
  | .xc c ρ => .xc c ρ
  | .bad => .bad
theorem v_sl {p a l h ρ} : eSl p a l h ρ = slA p l h (a ρ) := by
  show ER.bind (a ρ) _ = _
  cases a ρ with
  | ok r ρ1 =>
    show PrO.toE (l ρ1) _ = slB p h r (l ρ1)
    cases l ρ1 with
    | ok lo ρ2 => show PrO.toE (h ρ2) _ = slC p r lo (h ρ2); cases h ρ2 <;> rfl
    | _ => rfl
  | _ => rfl
theorem v_sla {p l h r ρ} : slA p l h (.ok r ρ) = slB p h r (l ρ) := Eq.trans rfl rfl
theorem v_slb {p h r lo ρ} : slB p h r (.ok lo ρ) = slC p r lo (h ρ) := Eq.trans rfl rfl
theorem v_slc {p r lo hi ρ} : slC p r lo (.ok hi ρ) = apS p (settle r) lo hi ρ := Eq.trans rfl rfl
theorem v_oN {ρ} : oNone ρ = .ok none ρ := Eq.trans rfl rfl
theorem v_oS {f ρ} : oSome f ρ = (f ρ).toO := Eq.trans rfl rfl
theorem v_toO {i ρ} : ER.toO (.ok (.sh (.int i)) ρ) = .ok (some i) ρ := Eq.trans rfl rfl
theorem v_isi {T f ρ} : eIsi T f ρ = (f ρ).bind (goIsi T) := Eq.trans rfl rfl
def is2A (T U : Ty) : ER → ER
  | .ok r ρ => goIsi2 T U (settle r) ρ
  | .xc c ρ => .xc c ρ
  | .bad => .bad
theorem v_isi2 {T U f ρ} : eIsi2 T U f ρ = is2A T U (f ρ) := by show ER.bind (f ρ) _ = _; cases f ρ <;> rfl
theorem v_isi2a {T U r ρ} : is2A T U (.ok r ρ) = goIsi2 T U (settle r) ρ := Eq.trans rfl rfl
def lcA (vs : List Nat) (g : GM) (tt : TM) (e : EM) : IR → ER
  | .ok ds ρ => if ds.length ≤ 16777216 then lcL vs g tt e ds [] (wipeD ρ vs) else .bad
  | .xc c ρ => .xc c ρ
  | .bad => .bad
theorem v_lc {vs it g tt e ρ} : eLC vs it g tt e ρ = lcA vs g tt e (it ρ) := by show IR.toE (it ρ) _ = _; cases it ρ <;> rfl
theorem v_lca {vs g tt e ds ρ} : lcA vs g tt e (.ok ds ρ) = if ds.length ≤ 16777216 then lcL vs g tt e ds [] (wipeD ρ vs) else .bad := Eq.trans rfl rfl
theorem v_val {f ρ} : tVal f ρ = asB (f ρ) := Eq.trans rfl rfl
theorem v_asB1 {b ρ} : asB (.ok (.sh (.bl b)) ρ) = .ok b ρ := Eq.trans rfl rfl
theorem v_asB2 {c ρ} : asB (.xc c ρ) = .xc c ρ := Eq.trans rfl rfl
theorem v_truth {f ρ} : tTruth f ρ = (f ρ).toT tru := Eq.trans rfl rfl
def tandA (g : TM) : TR → TR
  | .ok b ρ => if b = true then g ρ else .ok false ρ
  | .xc c ρ => .xc c ρ
  | .bad => .bad
def torA (g : TM) : TR → TR
  | .ok b ρ => if b = true then .ok true ρ else g ρ
  | .xc c ρ => .xc c ρ
  | .bad => .bad
def tnotA : TR → TR
  | .ok b ρ => .ok (!b) ρ
  | .xc c ρ => .xc c ρ
  | .bad => .bad
theorem v_tand {f g ρ} : tAndD f g ρ = tandA g (f ρ) := by show TR.bind (f ρ) _ = _; cases f ρ <;> rfl
theorem v_tanda {g b ρ} : tandA g (.ok b ρ) = if b = true then g ρ else .ok false ρ := Eq.trans rfl rfl
theorem v_tandx {g c ρ} : tandA g (.xc c ρ) = .xc c ρ := Eq.trans rfl rfl
theorem v_tor {f g ρ} : tOrD f g ρ = torA g (f ρ) := by show TR.bind (f ρ) _ = _; cases f ρ <;> rfl
theorem v_tora {g b ρ} : torA g (.ok b ρ) = if b = true then .ok true ρ else g ρ := Eq.trans rfl rfl
theorem v_torx {g c ρ} : torA g (.xc c ρ) = .xc c ρ := Eq.trans rfl rfl
theorem v_tnot {f ρ} : tNotD f ρ = tnotA (f ρ) := by show TR.bind (f ρ) _ = _; cases f ρ <;> rfl
theorem v_tnota {b ρ} : tnotA (.ok b ρ) = .ok (!b) ρ := Eq.trans rfl rfl
theorem v_tnotx {c ρ} : tnotA (.xc c ρ) = .xc c ρ := Eq.trans rfl rfl
theorem v_tyes {ρ} : tYesD ρ = .ok true ρ := Eq.trans rfl rfl
theorem v_nil {ρ} : sNil ρ = .nx ρ := Eq.trans rfl rfl
theorem v_seq {f g ρ} : sSeq f g ρ = (f ρ).bind g := Eq.trans rfl rfl
theorem v_brk {ρ} : sBreak ρ = .bk ρ := Eq.trans rfl rfl
theorem v_cnt {ρ} : sCont ρ = .ct ρ := Eq.trans rfl rfl
def exprA : ER → SR
  | .ok _ ρ => .nx ρ
  | .xc c ρ => .xc c ρ
  | .bad => .bad
theorem v_expr {f ρ} : sExpr f ρ = exprA (f ρ) := by show ER.toS (f ρ) _ = _; cases f ρ <;> rfl
theorem v_expra {r ρ} : exprA (.ok r ρ) = .nx ρ := Eq.trans rfl rfl
theorem v_exprx {c ρ} : exprA (.xc c ρ) = .xc c ρ := Eq.trans rfl rfl
theorem v_ret {f ρ} : sRet f ρ = (f ρ).toS .rt := Eq.trans rfl rfl
theorem v_retN {ρ} : sRetN ρ = .rt (.sh .non) ρ := Eq.trans rfl rfl
def ifA (f g : SM) : TR → SR
  | .ok b ρ => if b = true then f ρ else g ρ
  | .xc c ρ => .xc c ρ
  | .bad => .bad
theorem v_if {c f g ρ} : sIf c f g ρ = ifA f g (c ρ) := by show TR.toS (c ρ) _ = _; cases c ρ <;> rfl
theorem v_ifa {f g b ρ} : ifA f g (.ok b ρ) = if b = true then f ρ else g ρ := Eq.trans rfl rfl
theorem v_ifx {f g c ρ} : ifA f g (.xc c ρ) = .xc c ρ := Eq.trans rfl rfl
theorem v_set {i f ρ} : sSet i f ρ = (f ρ).toS (goSet i) := Eq.trans rfl rfl
theorem v_raise {c ρ} : sRaise c ρ = .xc c ρ := Eq.trans rfl rfl
theorem v_asg {g f ρ} : sAsg g f ρ = (f ρ).toS (goAsg g) := Eq.trans rfl rfl
theorem v_par {i j f ρ} : sPar i j f ρ = (f ρ).toS (goPar i j) := Eq.trans rfl rfl
theorem v_for {it g b ρ} : sFor it g b ρ = (it ρ).toS (forL g b) := Eq.trans rfl rfl
theorem v_forN {i g b ρ} : sForN i g b ρ = if isDct i ρ = true then sForD i .keys g b ρ else sFor (iSeq (eVar i)) g b ρ := Eq.trans rfl rfl
theorem v_forD {i k g b ρ} : sForD i k g b ρ = goDct k g b (fz ρ (.al i)) := Eq.trans rfl rfl
def putB (i : Nat) (rv : R) : ER → SR
  | .ok rk ρ => goPut i (settle rv) rk ρ
  | .xc c ρ => .xc c ρ
  | .bad => .bad
def putA (i : Nat) (k : EM) : ER → SR
  | .ok rv ρ => if isOw i ρ = true then putB i rv (k ρ) else .bad
  | .xc c ρ => .xc c ρ
  | .bad => .bad
theorem v_put {i k v ρ} : sPut i k v ρ = putA i k (v ρ) := by
  show ER.toS (v ρ) _ = _
  cases v ρ with
  | ok rv ρ1 =>
    show (if isOw i ρ1 = true then ER.toS (k ρ1) _ else .bad) = if isOw i ρ1 = true then putB i rv (k ρ1) else .bad
    cases k ρ1 <;> rfl
  | _ => rfl
theorem v_puta {i k r ρ} : putA i k (.ok r ρ) = if isOw i ρ = true then putB i r (k ρ) else .bad := Eq.trans rfl rfl
theorem v_putb {i r rk ρ} : putB i r (.ok rk ρ) = goPut i (settle r) rk ρ := Eq.trans rfl rfl
theorem v_aug {p i f ρ} : sAug p i f ρ = if isK' i ρ = true then (f ρ).toS (goAug p i) else .bad := Eq.trans rfl rfl
theorem v_gNm {i d ρ} : gNm i d ρ = some (ρ.set i (.sh d)) := Eq.trans rfl rfl
theorem v_iseq {f ρ} : iSeq f ρ = (f ρ).toI goSeq := Eq.trans rfl rfl
theorem v_irev {f ρ} : iRevD f ρ = (f ρ).toI goRev := Eq.trans rfl rfl
theorem v_irng1 {f ρ} : iRange1 f ρ = (f ρ).toI goRng1 := Eq.trans rfl rfl
theorem v_irng2 {f ρ} : iRange2 f ρ = (f ρ).toI goRng2 := Eq.trans rfl rfl
theorem v_ienum {f ρ} : iEnumD f ρ = (f ρ).toI goEnum := Eq.trans rfl rfl
theorem v_izip {f ρ} : iZipD f ρ = (f ρ).toI goZip := Eq.trans rfl rfl
def unD : Nat → DEnv
  | 0 => []
  | n + 1 => .un :: unD n
theorem un_eq : ∀ n : Nat, List.replicate n Sl.un = unD n
  | 0 => rfl
  | n + 1 => by rw [List.replicate_succ, un_eq n]; rfl
theorem v_un0 : unD 0 = [] := Eq.trans rfl rfl
theorem v_un1 {n : Nat} : unD (n + 1) = .un :: unD n := Eq.trans rfl rfl
theorem v_run {L b ds} : runF L b ds = fin (b (ds.map .sh ++ unD (L - ds.length))) := by unfold runF; rw [un_eq]
theorem v_for0 {g b ρ} : forL g b [] ρ = .nx ρ := Eq.trans rfl rfl
def forK (g : GM) (b : SM) (ds : List D) (x : SR) : SR := match x with
  | .nx ρ => forL g b ds ρ
  | .ct ρ => forL g b ds ρ
  | .bk ρ => .nx ρ
  | .rt r ρ => .rt r ρ
  | .xc c ρ => .xc c ρ
  | .bad => .bad
def forG (g : GM) (b : SM) (ds : List D) (x : Option DEnv) : SR := match x with
  | some ρ => forK g b ds (b ρ)
  | none => .bad
theorem v_for1 {g b d ds ρ} : forL g b (d :: ds) ρ = forG g b ds (g d ρ) := by
  unfold forG
  rw [forL]
  cases g d ρ with
  | none => rfl
  | some ρ1 =>
    dsimp only
    unfold forK
    cases b ρ1 <;> rfl
theorem v_fg1 {g b ds ρ} : forG g b ds (some ρ) = forK g b ds (b ρ) := Eq.trans rfl rfl
theorem v_fk1 {g b ds ρ} : forK g b ds (.nx ρ) = forL g b ds ρ := Eq.trans rfl rfl
theorem v_fk2 {g b ds ρ} : forK g b ds (.ct ρ) = forL g b ds ρ := Eq.trans rfl rfl
theorem v_fk3 {g b ds ρ} : forK g b ds (.bk ρ) = .nx ρ := Eq.trans rfl rfl
theorem v_fk4 {g b ds r ρ} : forK g b ds (.rt r ρ) = .rt r ρ := Eq.trans rfl rfl
theorem v_fk5 {g b ds c ρ} : forK g b ds (.xc c ρ) = .xc c ρ := Eq.trans rfl rfl
/-! comprehensions, a step -/
def lcF (vs : List Nat) (g : GM) (tt : TM) (e : EM) (ds acc : List D) (x : Option (D × DEnv)) : ER := match x with
  | some (x, ρ) => lcL vs g tt e ds (acc ++ [x]) (wipeD ρ vs)
  | none => .bad
def lcE (vs : List Nat) (g : GM) (tt : TM) (e : EM) (ds acc : List D) (x : ER) : ER := match x with
  | .ok r ρ => lcF vs g tt e ds acc (fz ρ r)
  | _ => .bad
def lcT (vs : List Nat) (g : GM) (tt : TM) (e : EM) (ds acc : List D) (x : TR) : ER := match x with
  | .ok b ρ => if b = true then lcE vs g tt e ds acc (e ρ) else lcL vs g tt e ds acc (wipeD ρ vs)
  | _ => .bad
def lcG (vs : List Nat) (g : GM) (tt : TM) (e : EM) (ds acc : List D) (x : Option DEnv) : ER := match x with
  | some ρ => lcT vs g tt e ds acc (tt ρ)
  | none => .bad
theorem v_lc0 {vs g tt e acc ρ} : lcL vs g tt e [] acc ρ = .ok (.ow (.lst acc)) ρ := Eq.trans rfl rfl
theorem v_lc1 {vs g tt e d ds acc ρ} : lcL vs g tt e (d :: ds) acc ρ = lcG vs g tt e ds acc (g d ρ) := by
  unfold lcG
  rw [lcL]
  cases g d ρ with
  | none => rfl
  | some ρ1 =>
    dsimp only
    unfold lcT
    cases tt ρ1 with
    | ok b ρ2 =>
      dsimp only
      cases b with
      | false => rfl
      | true =>
        simp only [if_true]
        unfold lcE
        cases e ρ2 with
        | ok r ρ3 =>
          dsimp only
          unfold lcF
          cases fz ρ3 r <;> rfl
        | xc c ρ3 => rfl
        | bad => rfl
    | xc c ρ2 => rfl
    | bad => rfl
theorem v_lg1 {vs g tt e ds acc ρ} : lcG vs g tt e ds acc (some ρ) = lcT vs g tt e ds acc (tt ρ) := Eq.trans rfl rfl
theorem v_lt1 {vs g tt e ds acc ρ b} : lcT vs g tt e ds acc (.ok b ρ) = if b = true then lcE vs g tt e ds acc (e ρ) else lcL vs g tt e ds acc (wipeD ρ vs) := Eq.trans rfl rfl
theorem v_le1 {vs g tt e ds acc r ρ} : lcE vs g tt e ds acc (.ok r ρ) = lcF vs g tt e ds acc (fz ρ r) := Eq.trans rfl rfl
theorem v_lf1 {vs g tt e ds acc x ρ} : lcF vs g tt e ds acc (some (x, ρ)) = lcL vs g tt e ds (acc ++ [x]) (wipeD ρ vs) := Eq.trans rfl rfl

/-! what the words lean on, case by case -/
theorem k_er1 {d ρ} : PR.er ρ (.v d) = .ok (.sh d) ρ := Eq.trans rfl rfl
theorem k_er2 {d ρ} : PR.er ρ (.nl d) = .ok (.ow (.lst d)) ρ := Eq.trans rfl rfl
theorem k_er3 {d ρ} : PR.er ρ (.nd d) = .ok (.ow (.dct d)) ρ := Eq.trans rfl rfl
theorem k_er4 {d ρ} : PR.er ρ (.t d) = .ok (.sh (.tup d)) ρ := Eq.trans rfl rfl
theorem k_er5 {ρ} : PR.er ρ .bad = .bad := Eq.trans rfl rfl
theorem k_fe1 {d ρ} : FR.er ρ (.sh d) = .ok (.sh d) ρ := Eq.trans rfl rfl
theorem k_fe2 {d ρ} : FR.er ρ (.ow d) = .ok (.ow d) ρ := Eq.trans rfl rfl
theorem k_fe3 {d ρ} : FR.er ρ (.xc d) = .xc d ρ := Eq.trans rfl rfl
theorem k_st1 {d} : settle (.sh d) = .sh d := Eq.trans rfl rfl
theorem k_st2 {d} : settle (.ow d) = .sh d := Eq.trans rfl rfl
theorem k_st3 {d} : settle (.al d) = .al d := Eq.trans rfl rfl
theorem k_ofD1 {d} : ofD (some d) = .v d := Eq.trans rfl rfl
theorem k_ofD2 : ofD none = .bad := Eq.trans rfl rfl
theorem k_ofB1 {d} : ofB (some d) = .v (.bl d) := Eq.trans rfl rfl
def ap1K (p : D → PR) (ρ : DEnv) : Option D → ER
  | some d => (p d).er ρ
  | none => .bad
theorem k_ap1 {p r ρ} : ap1 p r ρ = ap1K p ρ (pk ρ r) := by unfold ap1; cases pk ρ r <;> rfl
theorem k_ap1' {p ρ d} : ap1K p ρ (some d) = (p d).er ρ := Eq.trans rfl rfl
def ap2K (p : D → D → PR) (ρ : DEnv) (x y : Option D) : ER := match x, y with
  | some d, some e => (p d e).er ρ
  | _, _ => .bad
theorem k_ap2 {p r s ρ} : ap2 p r s ρ = ap2K p ρ (pk ρ r) (pk ρ s) := by unfold ap2; cases pk ρ r <;> cases pk ρ s <;> rfl
theorem k_ap2' {p ρ d e} : ap2K p ρ (some d) (some e) = (p d e).er ρ := Eq.trans rfl rfl
def apNK (p : List D → PR) (ρ : DEnv) : Option (List D) → ER
  | some d => (p d).er ρ
  | none => .bad
theorem k_apN {p r ρ} : apN p r ρ = apNK p ρ (pks ρ r) := by unfold apN; cases pks ρ r <;> rfl
theorem k_apN' {p ρ d} : apNK p ρ (some d) = (p d).er ρ := Eq.trans rfl rfl
def apSK (p : D → Option Int → Option Int → PR) (lo hi : Option Int) (ρ : DEnv) : Option D → ER
  | some d => (p d lo hi).er ρ
  | none => .bad
theorem k_apS {p r lo hi ρ} : apS p r lo hi ρ = apSK p lo hi ρ (pk ρ r) := by unfold apS; cases pk ρ r <;> rfl
theorem k_apS' {p lo hi ρ d} : apSK p lo hi ρ (some d) = (p d lo hi).er ρ := Eq.trans rfl rfl
def apMK (p : D → List D → PR) (ρ : DEnv) (x : Option D) (y : Option (List D)) : ER := match x, y with
  | some d, some e => (p d e).er ρ
  | _, _ => .bad
theorem k_apM {p r rs ρ} : apM p r rs ρ = apMK p ρ (pk ρ r) (pks ρ rs) := by unfold apM; cases pk ρ r <;> cases pks ρ rs <;> rfl
theorem k_apM' {p ρ d e} : apMK p ρ (some d) (some e) = (p d e).er ρ := Eq.trans rfl rfl
def consO (x : Option D) (y : Option (List D)) : Option (List D) := match x, y with
  | some d, some e => some (d :: e)
  | _, _ => none
theorem k_pks0 {ρ} : pks ρ [] = some [] := Eq.trans rfl rfl
theorem k_pks1 {ρ r rs} : pks ρ (r :: rs) = consO (pk ρ r) (pks ρ rs) := by rw [pks]; cases pk ρ r <;> cases pks ρ rs <;> rfl
theorem k_cons {d ds} : consO (some d) (some ds) = some (d :: ds) := Eq.trans rfl rfl
def fzsC (d : D) : Option (List D × DEnv) → Option (List D × DEnv)
  | some (ds, ρ) => some (d :: ds, ρ)
  | none => none
def fzsK (rs : List R) : Option (D × DEnv) → Option (List D × DEnv)
  | some (d, ρ) => fzsC d (fzs ρ rs)
  | none => none
theorem k_fzs0 {ρ} : fzs ρ [] = some ([], ρ) := Eq.trans rfl rfl
theorem k_fzs1 {ρ r rs} : fzs ρ (r :: rs) = fzsK rs (fz ρ r) := by
  rw [fzs]
  cases fz ρ r with
  | none => rfl
  | some x =>
    obtain ⟨d, ρ1⟩ := x
    show _ = fzsC d (fzs ρ1 rs)
    dsimp only
    cases fzs ρ1 rs <;> rfl
theorem k_fzsK {rs d ρ} : fzsK rs (some (d, ρ)) = fzsC d (fzs ρ rs) := Eq.trans rfl rfl
theorem k_fzsC {d ds ρ} : fzsC d (some (ds, ρ)) = some (d :: ds, ρ) := Eq.trans rfl rfl
def mkLK : Option (List D × DEnv) → ER
  | some (ds, ρ) => if ds.length ≤ 16777216 then .ok (.ow (.lst ds)) ρ else .bad
  | none => .bad
def mkTK : Option (List D × DEnv) → ER
  | some (ds, ρ) => if ds.length ≤ 16777216 then .ok (.sh (.tup ds)) ρ else .bad
  | none => .bad
theorem k_mkL {rs ρ} : mkL rs ρ = mkLK (fzs ρ rs) := by unfold mkL; cases fzs ρ rs <;> rfl
theorem k_mkT {rs ρ} : mkT rs ρ = mkTK (fzs ρ rs) := by unfold mkT; cases fzs ρ rs <;> rfl
theorem k_mkL' {ds ρ} : mkLK (some (ds, ρ)) = if ds.length ≤ 16777216 then .ok (.ow (.lst ds)) ρ else .bad := Eq.trans rfl rfl
theorem k_mkT' {ds ρ} : mkTK (some (ds, ρ)) = if ds.length ≤ 16777216 then .ok (.sh (.tup ds)) ρ else .bad := Eq.trans rfl rfl
def isKK (T : String) : Option D → Bool
  | some d => kindOk T d
  | none => false
theorem k_isK {T r ρ} : isK T r ρ = isKK T (pk ρ r) := by unfold isK; cases pk ρ r <;> rfl
theorem k_isK' {T d} : isKK T (some d) = kindOk T d := Eq.trans rfl rfl
theorem k_kd1 {T x} : kindOk T (.str x) = (T == "str") := Eq.trans rfl rfl
theorem k_kd2 {T x} : kindOk T (.lst x) = (T == "list") := Eq.trans rfl rfl
theorem k_kd3 {T x} : kindOk T (.tup x) = (T == "tuple") := Eq.trans rfl rfl
theorem k_kd4 {T x} : kindOk T (.dct x) = (T == "dict") := Eq.trans rfl rfl
def goMutR (i : Nat) (ρ : DEnv) : Option (D × D) → ER
  | some (ret, d) => .ok (.sh ret) (ρ.set i (.ow d))
  | none => .bad
def goMutS (i : Nat) (p : D → List D → Option (D × D)) (ds : List D) (ρ : DEnv) : Option Sl → ER
  | some (.ow d) => goMutR i ρ (p d ds)
  | _ => .bad
def goMutK (i : Nat) (p : D → List D → Option (D × D)) : Option (List D × DEnv) → ER
  | some (ds, ρ) => goMutS i p ds ρ ρ[i]?
  | none => .bad
theorem k_mut {i p rs ρ} : goMut i p rs ρ = goMutK i p (fzs ρ rs) := by
  unfold goMut
  cases fzs ρ rs with
  | none => rfl
  | some x =>
    obtain ⟨ds, ρ2⟩ := x
    show _ = goMutS i p ds ρ2 ρ2[i]?
    dsimp only
    cases ρ2[i]? with
    | none => rfl
    | some s =>
      cases s with
      | ow d =>
        dsimp only
        show _ = goMutR i ρ2 (p d ds)
        cases p d ds <;> rfl
      | _ => rfl
theorem k_mutK {i p ds ρ} : goMutK i p (some (ds, ρ)) = goMutS i p ds ρ ρ[i]? := Eq.trans rfl rfl
theorem k_mutS {i p ds ρ d} : goMutS i p ds ρ (some (.ow d)) = goMutR i ρ (p d ds) := Eq.trans rfl rfl
theorem k_mutR {i ρ r d} : goMutR i ρ (some (r, d)) = .ok (.sh r) (ρ.set i (.ow d)) := Eq.trans rfl rfl
def truB (ρ : DEnv) : Option Bool → TR
  | some b => .ok b ρ
  | none => .bad
def truK (ρ : DEnv) : Option D → TR
  | some d => truB ρ (truthD d)
  | none => .bad
theorem k_tru {r ρ} : tru r ρ = truK ρ (pk ρ r) := by
  unfold tru
  cases pk ρ r with
  | none => rfl
  | some d =>
    dsimp only
    show _ = truB ρ (truthD d)
    cases truthD d <;> rfl
theorem k_truK {ρ d} : truK ρ (some d) = truB ρ (truthD d) := Eq.trans rfl rfl
theorem k_truB {ρ b} : truB ρ (some b) = .ok b ρ := Eq.trans rfl rfl
theorem k_td1 : truthD .non = some false := Eq.trans rfl rfl
theorem k_td2 {b} : truthD (.bl b) = some b := Eq.trans rfl rfl
theorem k_td3 {i} : truthD (.int i) = some (i != 0) := Eq.trans rfl rfl
theorem k_td4 {x : Str} : truthD (.str x) = if x.length ≤ 16777216 then some ((x.length : Int) != 0) else none := Eq.trans rfl rfl
theorem k_td5 {x} : truthD (.lst x) = some (!x.isEmpty) := Eq.trans rfl rfl
theorem k_td6 {x} : truthD (.tup x) = some (!x.isEmpty) := Eq.trans rfl rfl
def goSetA (i : Nat) : Option (D × DEnv) → SR
  | some (d, ρ) => .nx (ρ.set i (.sh d))
  | none => .bad
theorem k_set1 {i d ρ} : goSet i (.sh d) ρ = .nx (ρ.set i (.sh d)) := Eq.trans rfl rfl
theorem k_set2 {i d ρ} : goSet i (.ow d) ρ = .nx (ρ.set i (.ow d)) := Eq.trans rfl rfl
theorem k_set3 {i j ρ} : goSet i (.al j) ρ = goSetA i (fz ρ (.al j)) := by
  unfold goSet asg
  dsimp only
  cases fz ρ (.al j) <;> rfl
theorem k_setA {i d ρ} : goSetA i (some (d, ρ)) = .nx (ρ.set i (.sh d)) := Eq.trans rfl rfl
def goCallK (n : Nat) (m : List D → FR) : Option (List D × DEnv) → ER
  | some (ds, ρ) => if ds.length = n then (m ds).er ρ else .bad
  | none => .bad
theorem k_call {n m rs ρ} : goCall n m rs ρ = goCallK n m (fzs ρ rs) := by unfold goCall; cases fzs ρ rs <;> rfl
theorem k_callK {n m ds ρ} : goCallK n m (some (ds, ρ)) = if ds.length = n then (m ds).er ρ else .bad := Eq.trans rfl rfl
def finO : Option Sl → FR
  | some (.ow d) => .ow d
  | some (.sh d) => .sh d
  | _ => .bad
theorem k_fin1 {ρ} : fin (.nx ρ) = .sh .non := Eq.trans rfl rfl
theorem k_fin2 {d ρ} : fin (.rt (.sh d) ρ) = .sh d := Eq.trans rfl rfl
theorem k_fin3 {d ρ} : fin (.rt (.ow d) ρ) = .ow d := Eq.trans rfl rfl
theorem k_fin4 {i} {ρ : DEnv} : fin (.rt (.al i) ρ) = finO ρ[i]? := by
  cases h : ρ[i]? with
  | none => simp [fin, finO, h]
  | some s => cases s <;> simp [fin, finO, h]
theorem k_fin5 {c ρ} : fin (.xc c ρ) = .xc c := Eq.trans rfl rfl
theorem k_finO1 {d} : finO (some (.ow d)) = .ow d := Eq.trans rfl rfl
theorem k_finO2 {d} : finO (some (.sh d)) = .sh d := Eq.trans rfl rfl
def goAsgG : Option DEnv → SR
  | some ρ => .nx ρ
  | none => .bad
def goAsgK (g : GM) : Option (D × DEnv) → SR
  | some (d, ρ) => goAsgG (g d ρ)
  | none => .bad
theorem k_asg {g r ρ} : goAsg g r ρ = goAsgK g (fz ρ r) := by
  unfold goAsg
  cases fz ρ r with
  | none => rfl
  | some x =>
    obtain ⟨d, ρ1⟩ := x
    dsimp only
    show _ = goAsgG (g d ρ1)
    cases g d ρ1 <;> rfl
theorem k_asgK {g d ρ} : goAsgK g (some (d, ρ)) = goAsgG (g d ρ) := Eq.trans rfl rfl
theorem k_asgG {ρ} : goAsgG (some ρ) = .nx ρ := Eq.trans rfl rfl
def goParK (i j : Nat) : Option (List D × DEnv) → SR
  | some (ds, ρ1) => (match ds with
    | [d, e] => .nx ((ρ1.set i (.sh d)).set j (.sh e))
    | _ => .bad)
  | none => .bad
theorem k_par {i j rs ρ} : goPar i j rs ρ = goParK i j (fzs ρ rs) := by unfold goPar; cases fzs ρ rs <;> rfl
theorem k_parK {i j d e ρ} : goParK i j (some ([d, e], ρ)) = .nx ((ρ.set i (.sh d)).set j (.sh e)) := Eq.trans rfl rfl
theorem k_gs0 {ρ} : gsNil [] ρ = some ρ := Eq.trans rfl rfl
def gsCK (gs : GsM) (r : List D) : Option DEnv → Option DEnv
  | some ρ => gs r ρ
  | none => none
theorem k_gs1 {g gs d r ρ} : gsCons g gs (d :: r) ρ = gsCK gs r (g d ρ) := by unfold gsCons; dsimp only; cases g d ρ <;> rfl
theorem k_gsK {gs r ρ} : gsCK gs r (some ρ) = gs r ρ := Eq.trans rfl rfl
theorem k_gUn1 {n gs es ρ} : gUn n gs (.tup es) ρ = if es.length = n then gs es ρ else none := Eq.trans rfl rfl
theorem k_gUn2 {n gs es ρ} : gUn n gs (.lst es) ρ = if es.length = n then gs es ρ else none := Eq.trans rfl rfl
def goSeqI (ρ : DEnv) : Option (List D) → IR
  | some ds => .ok ds ρ
  | none => .bad
def goSeqK : Option (D × DEnv) → IR
  | some (d, ρ) => goSeqI ρ (itemsD d)
  | none => .bad
theorem k_seq {r ρ} : goSeq r ρ = goSeqK (fz ρ r) := by
  unfold goSeq
  cases fz ρ r with
  | none => rfl
  | some x =>
    obtain ⟨d, ρ1⟩ := x
    dsimp only
    show _ = goSeqI ρ1 (itemsD d)
    cases itemsD d <;> rfl
theorem k_seqK {d ρ} : goSeqK (some (d, ρ)) = goSeqI ρ (itemsD d) := Eq.trans rfl rfl
theorem k_seqI {ds ρ} : goSeqI ρ (some ds) = .ok ds ρ := Eq.trans rfl rfl
theorem k_it1 {ds} : itemsD (.lst ds) = some ds := Eq.trans rfl rfl
theorem k_it2 {ds} : itemsD (.tup ds) = some ds := Eq.trans rfl rfl
theorem k_it3 {ns} : itemsD (.scr ns) = some (ns.map .int) := Eq.trans rfl rfl
theorem k_it4 {z} : itemsD (.str z) = some (signs z) := Eq.trans rfl rfl
def goRevK : Option (D × DEnv) → IR
  | some (d, ρ1) => (match d with
    | .lst ds => .ok ds.reverse ρ1
    | .tup ds => .ok ds.reverse ρ1
    | _ => .bad)
  | none => .bad
theorem k_rev {r ρ} : goRev r ρ = goRevK (fz ρ r) := by unfold goRev; cases fz ρ r <;> rfl
theorem k_rev1 {ds ρ} : goRevK (some (.lst ds, ρ)) = .ok ds.reverse ρ := Eq.trans rfl rfl
theorem k_rev2 {ds ρ} : goRevK (some (.tup ds, ρ)) = .ok ds.reverse ρ := Eq.trans rfl rfl
theorem p62 : (2 : Int) ^ 62 = 4611686018427387904 := by decide
theorem p63 : (2 : Int) ^ 63 = 9223372036854775808 := by decide
theorem p64 : (2 : Int) ^ 64 = 18446744073709551616 := by decide
theorem k_rng1 {j ρ} : goRng1 [.sh (.int j)] ρ = if -4611686018427387904 ≤ j ∧ j < 4611686018427387904 then .ok (rangeD 0 j.toNat) ρ else .bad := by rw [← p62]; rfl
theorem k_rng2 {i j ρ} : goRng2 [.sh (.int i), .sh (.int j)] ρ = if (-4611686018427387904 ≤ i ∧ i < 4611686018427387904) ∧ -4611686018427387904 ≤ j ∧ j < 4611686018427387904 then .ok (rangeD i (j - i).toNat) ρ else .bad := by rw [← p62]; rfl
def goEnumK : Option (List D × DEnv) → IR
  | some (ds, ρ1) => (match ds with
    | [.lst es] => .ok (enumD es) ρ1
    | _ => .bad)
  | none => .bad
theorem k_enum {rs ρ} : goEnum rs ρ = goEnumK (fzs ρ rs) := by unfold goEnum; cases fzs ρ rs <;> rfl
theorem k_enum1 {es ρ} : goEnumK (some ([.lst es], ρ)) = .ok (enumD es) ρ := Eq.trans rfl rfl
def goZipK : Option (List D × DEnv) → IR
  | some (ds, ρ1) => (match ds with
    | [d, e] => (match zipO d e with
      | some es => .ok es ρ1
      | none => .bad)
    | _ => .bad)
  | none => .bad
theorem k_zip {rs ρ} : goZip rs ρ = goZipK (fzs ρ rs) := by unfold goZip; cases fzs ρ rs <;> rfl
theorem k_zip1 {a b ρ} : goZipK (some ([.lst a, .lst b], ρ)) = .ok (zipD a b) ρ := Eq.trans rfl rfl
theorem k_zip2 {a b ρ} : goZipK (some ([.tup a, .tup b], ρ)) = .ok (zipD a b) ρ := Eq.trans rfl rfl
def goPutR (i : Nat) (ρ : DEnv) : Option D → SR
  | some d => .nx (ρ.set i (.ow d))
  | none => .bad
def goPutL (i : Nat) (v : D) (ρ : DEnv) (k : Option D) (s : Option Sl) : SR := match k, s with
  | some k, some (.ow d) => goPutR i ρ (putO d k v)
  | _, _ => .bad
def goPutK (i : Nat) (rk : R) : Option (D × DEnv) → SR
  | some (v, ρ) => goPutL i v ρ (pk ρ rk) ρ[i]?
  | none => .bad
theorem k_put {i rv rk ρ} : goPut i rv rk ρ = goPutK i rk (fz ρ rv) := by
  unfold goPut
  cases fz ρ rv with
  | none => rfl
  | some x =>
    obtain ⟨v, ρ1⟩ := x
    dsimp only
    show _ = goPutL i v ρ1 (pk ρ1 rk) ρ1[i]?
    cases pk ρ1 rk with
    | none => rfl
    | some k =>
      dsimp only
      cases ρ1[i]? with
      | none => rfl
      | some s =>
        cases s with
        | ow d =>
          dsimp only
          show _ = goPutR i ρ1 (putO d k v)
          cases putO d k v <;> rfl
        | _ => rfl
theorem k_putK {i rk v ρ} : goPutK i rk (some (v, ρ)) = goPutL i v ρ (pk ρ rk) ρ[i]? := Eq.trans rfl rfl
theorem k_putL {i v ρ k d} : goPutL i v ρ (some k) (some (.ow d)) = goPutR i ρ (putO d k v) := Eq.trans rfl rfl
theorem k_putR {i ρ d} : goPutR i ρ (some d) = .nx (ρ.set i (.ow d)) := Eq.trans rfl rfl
def putOD (ds : List (Key × D)) (v : D) : Option Key → Option D
  | some key => if ds.length < 16777216 then some (.dct (putD ds key v)) else none
  | none => none
theorem k_put1 {ds k v} : putO (.dct ds) k v = putOD ds v (keyD k) := by unfold putO; dsimp only; cases keyD k <;> rfl
theorem k_put1' {ds v key} : putOD ds v (some key) = if ds.length < 16777216 then some (.dct (putD ds key v)) else none := Eq.trans rfl rfl
theorem k_put2 {es j v} : putO (.lst es) (.int j) v = (ixN es.length j).map fun n => .lst (es.set n v) := Eq.trans rfl rfl
def isOwK : Option Sl → Bool
  | some (.ow _) => true
  | _ => false
theorem k_isOw {i} {ρ : DEnv} : isOw i ρ = isOwK ρ[i]? := by unfold isOw isOwK; cases ρ[i]? with | none => rfl | some s => cases s <;> rfl
theorem k_isOw1 {d} : isOwK (some (.ow d)) = true := Eq.trans rfl rfl
def isKS : Option Sl → Bool
  | some (.ow _) => true
  | some (.sh _) => true
  | _ => false
theorem k_isKS {i} {ρ : DEnv} : isK' i ρ = isKS ρ[i]? := by unfold isK' isKS; cases ρ[i]? with | none => rfl | some s => cases s <;> rfl
theorem k_isKS1 {d} : isKS (some (.ow d)) = true := Eq.trans rfl rfl
theorem k_isKS2 {d} : isKS (some (.sh d)) = true := Eq.trans rfl rfl
def isDK : Option D → Bool
  | some (.dct _) => true
  | _ => false
theorem k_isD {i ρ} : isDct i ρ = isDK (pk ρ (.al i)) := by unfold isDct isDK; cases pk ρ (.al i) with | none => rfl | some d => cases d <;> rfl
theorem k_isD1 {x} : isDK (some (.dct x)) = true := Eq.trans rfl rfl
theorem k_isD2 {x} : isDK (some (.lst x)) = false := Eq.trans rfl rfl
theorem k_isD3 {x} : isDK (some (.tup x)) = false := Eq.trans rfl rfl
theorem k_isD4 {x} : isDK (some (.scr x)) = false := Eq.trans rfl rfl
theorem k_isD5 {x} : isDK (some (.str x)) = false := Eq.trans rfl rfl
theorem k_aug {p i r ρ} : goAug p i r ρ = (ap2 p (.al i) r ρ).toS (goSet i) := Eq.trans rfl rfl
def goIsiB (ρ : DEnv) : Option Bool → ER
  | some b => .ok (.sh (.bl b)) ρ
  | none => .bad
def goIsiK (T : Ty) (ρ : DEnv) : Option D → ER
  | some d => goIsiB ρ (isTy d T)
  | none => .bad
theorem k_isi {T r ρ} : goIsi T r ρ = goIsiK T ρ (pk ρ r) := by
  unfold goIsi
  cases pk ρ r with
  | none => rfl
  | some d =>
    dsimp only
    show _ = goIsiB ρ (isTy d T)
    cases isTy d T <;> rfl
theorem k_isiK {T ρ d} : goIsiK T ρ (some d) = goIsiB ρ (isTy d T) := Eq.trans rfl rfl
theorem k_isiB {ρ b} : goIsiB ρ (some b) = .ok (.sh (.bl b)) ρ := Eq.trans rfl rfl
def goIs2B (ρ : DEnv) (x y : Option Bool) : ER := match x, y with
  | some b, some c => .ok (.sh (.bl (b || c))) ρ
  | _, _ => .bad
def goIs2K (T U : Ty) (ρ : DEnv) : Option D → ER
  | some d => goIs2B ρ (isTy d T) (isTy d U)
  | none => .bad
theorem k_is2 {T U r ρ} : goIsi2 T U r ρ = goIs2K T U ρ (pk ρ r) := by
  unfold goIsi2
  cases pk ρ r with
  | none => rfl
  | some d =>
    dsimp only
    show _ = goIs2B ρ (isTy d T) (isTy d U)
    cases isTy d T <;> cases isTy d U <;> rfl
theorem k_is2K {T U ρ d} : goIs2K T U ρ (some d) = goIs2B ρ (isTy d T) (isTy d U) := Eq.trans rfl rfl
theorem k_is2B {ρ b c} : goIs2B ρ (some b) (some c) = .ok (.sh (.bl (b || c))) ρ := Eq.trans rfl rfl
theorem k_ty1 {T} : isTy .non T = some false := Eq.trans rfl rfl
theorem k_ty2 {b T} : isTy (.bl b) T = some (decide (T = .bool ∨ T = .int)) := Eq.trans rfl rfl
theorem k_ty3 {b T} : isTy (.int b) T = some (decide (T = .int)) := Eq.trans rfl rfl
theorem k_ty4 {b T} : isTy (.str b) T = some (decide (T = .str)) := Eq.trans rfl rfl
theorem k_ty5 {b T} : isTy (.tup b) T = some (decide (T = .tuple)) := Eq.trans rfl rfl
theorem k_ty6 {b T} : isTy (.lst b) T = some (decide (T = .list)) := Eq.trans rfl rfl
theorem k_ty7 {b T} : isTy (.dct b) T = some (decide (T = .dict)) := Eq.trans rfl rfl
theorem k_ty8 {b T} : isTy (.scr b) T = some (decide (T = .list)) := Eq.trans rfl rfl
theorem k_dct {k g fb ds ρ} : goDct k g fb (some (.dct ds, ρ)) = forL g fb (dItems k ds) ρ := Eq.trans rfl rfl
def ntK : TR → ER
  | .ok b ρ => .ok (.sh (.bl (!b))) ρ
  | _ => .bad
def ntA : ER → ER
  | .ok r ρ => ntK (tru r ρ)
  | .xc c ρ => .xc c ρ
  | .bad => .bad
theorem v_nt {f ρ} : eNotT f ρ = ntA (f ρ) := by
  show ER.bind (f ρ) _ = _
  cases f ρ with
  | ok r ρ1 =>
    show (match tru r ρ1 with
      | .ok b ρ2 => ER.ok (.sh (.bl (!b))) ρ2
      | _ => .bad) = ntK (tru r ρ1)
    cases tru r ρ1 <;> rfl
  | _ => rfl
theorem v_nta {r ρ} : ntA (.ok r ρ) = ntK (tru r ρ) := Eq.trans rfl rfl
theorem k_nt {b ρ} : ntK (.ok b ρ) = .ok (.sh (.bl (!b))) ρ := Eq.trans rfl rfl
def eandK (g : EM) (r : R) (ρ : DEnv) : ER := match r with
  | .sh (.bl b) => if b = true then g ρ else .ok (.sh (.bl false)) ρ
  | _ => .bad
def eorK (g : EM) (r : R) (ρ : DEnv) : ER := match r with
  | .sh (.bl b) => if b = true then .ok (.sh (.bl true)) ρ else g ρ
  | _ => .bad
theorem v_eand {f g ρ} : eAndD f g ρ = (f ρ).bind (eandK g) := Eq.trans rfl rfl
theorem v_eor {f g ρ} : eOrD f g ρ = (f ρ).bind (eorK g) := Eq.trans rfl rfl
theorem k_eand {g b ρ} : eandK g (.sh (.bl b)) ρ = if b = true then g ρ else .ok (.sh (.bl false)) ρ := Eq.trans rfl rfl
theorem k_eor {g b ρ} : eorK g (.sh (.bl b)) ρ = if b = true then .ok (.sh (.bl true)) ρ else g ρ := Eq.trans rfl rfl
/-! prims -/
theorem p_add1 {i j} : pAdd (.int i) (.int j) = .v (.int (i + j)) := Eq.trans rfl rfl
theorem p_add2 {x y : Str} : pAdd (.str x) (.str y) = if x.length + y.length ≤ 16777216 then .v (.str (x ++ y)) else .bad := Eq.trans rfl rfl
theorem p_add3 {x y} : pAdd (.lst x) (.lst y) = if x.length + y.length ≤ 16777216 then .nl (x ++ y) else .bad := Eq.trans rfl rfl
theorem p_add4 {x y} : pAdd (.tup x) (.tup y) = if x.length + y.length ≤ 16777216 then .t (x ++ y) else .bad := Eq.trans rfl rfl
theorem p_sub1 {i j} : pSub (.int i) (.int j) = .v (.int (i - j)) := Eq.trans rfl rfl
theorem p_mul1 {i j} : pMul (.int i) (.int j) = if CMul i j ∨ CMulW i j then .v (.int (i * j)) else .bad := Eq.trans rfl rfl
theorem p_mul2 {x : Str} {k} : pMul (.str x) (.int k) = if -9223372036854775808 ≤ k ∧ k < 1000000 ∧ x.length * k.toNat ≤ 16777216 then .v (.str (repS x k)) else .bad := by rw [← p63]; rfl
theorem p_mul3 {a k} : pMul (.lst a) (.int k) = if -9223372036854775808 ≤ k ∧ k < 9223372036854775808 ∧ a.length * k.toNat ≤ 16777216 then .nl (List.replicate k.toNat a).flatten else .bad := by rw [← p63]; rfl
theorem p_div1 {i j} : pFdiv (.int i) (.int j) = if CDivW i j then .v (.int (i / j)) else .bad := Eq.trans rfl rfl
theorem p_mod1 {i j} : pMod (.int i) (.int j) = if 0 < j then .v (.int (i % j)) else .bad := Eq.trans rfl rfl
theorem p_pow1 {i j} : pPow (.int i) (.int j) = if CPow i j then .v (.int (i ^ j.toNat)) else .bad := Eq.trans rfl rfl
theorem p_shl1 {i j} : pShl (.int i) (.int j) = if CPow i j then .v (.int (i * 2 ^ j.toNat)) else .bad := Eq.trans rfl rfl
theorem p_neg1 {i} : pNeg (.int i) = .v (.int (-i)) := Eq.trans rfl rfl
theorem p_lt1 {i j} : pLt (.int i) (.int j) = .v (.bl (decide (i < j))) := Eq.trans rfl rfl
theorem p_le1 {i j} : pLe (.int i) (.int j) = .v (.bl (decide (i ≤ j))) := Eq.trans rfl rfl
theorem p_gt1 {i j} : pGt (.int i) (.int j) = .v (.bl (decide (j < i))) := Eq.trans rfl rfl
theorem p_ge1 {i j} : pGe (.int i) (.int j) = .v (.bl (decide (j ≤ i))) := Eq.trans rfl rfl
theorem p_eq1 {i j} : pEq (.int i) (.int j) = .v (.bl (decide (i = j))) := Eq.trans rfl rfl
theorem p_eq2 {i j} : pEq (.str i) (.str j) = .v (.bl (decide (i = j))) := Eq.trans rfl rfl
theorem p_eq3 {i j} : pEq (.bl i) (.bl j) = .v (.bl (decide (i = j))) := Eq.trans rfl rfl
theorem p_ne1 {i j} : pNe (.int i) (.int j) = .v (.bl (!decide (i = j))) := Eq.trans rfl rfl
theorem p_ne2 {i j} : pNe (.str i) (.str j) = .v (.bl (!decide (i = j))) := Eq.trans rfl rfl
theorem p_ne3 {i j} : pNe (.bl i) (.bl j) = .v (.bl (!decide (i = j))) := Eq.trans rfl rfl
theorem p_in1 {x y} : pIn x y = ofB (inB x y) := Eq.trans rfl rfl
theorem p_in2 {x y} : pNotIn x y = ofB ((inB x y).map not) := Eq.trans rfl rfl
theorem p_ix1 {ds i} : pIx (.lst ds) (.int i) = ofD (atI ds i) := Eq.trans rfl rfl
theorem p_ix2 {ds i} : pIx (.tup ds) (.int i) = ofD (atI ds i) := Eq.trans rfl rfl
theorem p_ix3 {ns i} : pIx (.scr ns) (.int i) = ofD ((atI ns i).map .int) := Eq.trans rfl rfl
theorem p_ix4 {z : Str} {i} : pIx (.str z) (.int i) = if z.length ≤ 16777216 then ofD ((atI z.cps.toList i).map fun c => .str ⟨#[c]⟩) else .bad := Eq.trans rfl rfl
theorem p_ix5 {ds k} : pIx (.dct ds) k = ofD ((keyD k).bind (valD ds)) := by cases k <;> rfl
theorem p_sl1 {ds lo hi} : pSl (.lst ds) lo hi = .nl (cutD ds lo hi) := Eq.trans rfl rfl
theorem p_sl2 {ns lo hi} : pSl (.scr ns) lo hi = .nl ((cutD ns lo hi).map .int) := Eq.trans rfl rfl
theorem p_sl3 {ds lo hi} : pSl (.tup ds) lo hi = .t (cutD ds lo hi) := Eq.trans rfl rfl
theorem p_sl4 {z : Str} {lo hi} : pSl (.str z) lo hi = if z.length ≤ 16777216 then .v (.str (cutS z lo hi)) else .bad := Eq.trans rfl rfl
theorem p_len1 {ds} : pLen [.lst ds] = .v (.int ds.length) := Eq.trans rfl rfl
theorem p_len2 {ds} : pLen [.tup ds] = .v (.int ds.length) := Eq.trans rfl rfl
theorem p_len3 {ds} : pLen [.scr ds] = .v (.int ds.length) := Eq.trans rfl rfl
theorem p_len4 {ds} : pLen [.dct ds] = .v (.int ds.length) := Eq.trans rfl rfl
theorem p_len5 {z : Str} (h : z.length ≤ 16777216) : pLen [.str z] = .v (.int z.length) := by unfold pLen lenD; simp only [if_pos h]
theorem p_lst1 {ds} : pList [.lst ds] = .nl ds := Eq.trans rfl rfl
theorem p_lst2 {ds} : pList [.tup ds] = .nl ds := Eq.trans rfl rfl
theorem p_lst3 {ns} : pList [.scr ns] = .nl (ns.map .int) := Eq.trans rfl rfl
theorem p_lst4 {ds} : pList [.dct ds] = .nl (ds.map fun kv => kD kv.1) := Eq.trans rfl rfl
theorem p_tp1 {ds} : pTuple [.lst ds] = .t ds := Eq.trans rfl rfl
theorem p_tp2 {ds} : pTuple [.tup ds] = .v (.tup ds) := Eq.trans rfl rfl
theorem p_dct1 {ds} : pDict [.dct ds] = .nd ds := Eq.trans rfl rfl
theorem p_int1 {i} : pInt [.int i] = .v (.int i) := Eq.trans rfl rfl
theorem p_int2 {b} : pInt [.bl b] = .v (.int (if b then 1 else 0)) := Eq.trans rfl rfl
theorem p_min1 {i j} : pMin2 [.int i, .int j] = .v (.int (if j < i then j else i)) := Eq.trans rfl rfl
theorem p_max1 {i j} : pMax2 [.int i, .int j] = .v (.int (if j > i then j else i)) := Eq.trans rfl rfl
theorem p_iadd1 {i j} : pIAdd (.int i) (.int j) = .v (.int (i + j)) := Eq.trans rfl rfl
theorem p_imul1 {i j} : pIMul (.int i) (.int j) = if CMul i j then .v (.int (i * j)) else .bad := Eq.trans rfl rfl
theorem p_app {es x} : mAppend (.lst es) [x] = if es.length < 16777216 then some (.non, .lst (es ++ [x])) else none := Eq.trans rfl rfl
theorem p_key1 {i} : keyD (.int i) = some (.inl i) := Eq.trans rfl rfl
theorem p_key2 {i} : keyD (.str i) = some (.inr i) := Eq.trans rfl rfl
theorem k_toO {i ρ} : ER.toO (.ok (.sh (.int i)) ρ) = .ok (some i) ρ := Eq.trans rfl rfl
theorem at_nat {α : Type} (xs : List α) (i : Nat) : atI xs (i : Int) = xs[i]? := by
  unfold atI ixN
  by_cases h : (i : Int) < (xs.length : Int)
  · rw [if_pos (Int.natCast_nonneg i), if_pos h]; rfl
  · rw [if_pos (Int.natCast_nonneg i), if_neg h]
    rw [List.getElem?_eq_none (by omega)]
    rfl
theorem at_0 {α : Type} {a : α} {r} : atI (a :: r) 0 = some a := at_nat _ 0
theorem at_1 {α : Type} {a b : α} {r} : atI (a :: b :: r) 1 = some b := at_nat _ 1
theorem at_2 {α : Type} {a b c : α} {r} : atI (a :: b :: c :: r) 2 = some c := at_nat _ 2
theorem at_3 {α : Type} {a b c d : α} {r} : atI (a :: b :: c :: d :: r) 3 = some d := at_nat _ 3
theorem at_4 {α : Type} {a b c d e : α} {r} : atI (a :: b :: c :: d :: e :: r) 4 = some e := at_nat _ 4
theorem at_5 {α : Type} {a b c d e f : α} {r} : atI (a :: b :: c :: d :: e :: f :: r) 5 = some f := at_nat _ 5
theorem n_cdiv {i j : Int} (h : 0 < j) (h2 : j < 18446744073709551616) : CDivW i j := ⟨h, by
  have : j.natAbs < 2 ^ 64 := by omega
  have := (Nat.log2_lt (by omega)).mpr this
  omega⟩
theorem n_cmul0 {i j : Int} (h1 : -18446744073709551616 < i) (h2 : i < 18446744073709551616) : CMul i j := .inl ⟨by rw [p64]; exact h1, by rw [p64]; exact h2⟩
theorem n_cmul1 {i j : Int} (h1 : -18446744073709551616 < j) (h2 : j < 18446744073709551616) : CMul i j := .inr ⟨by rw [p64]; exact h1, by rw [p64]; exact h2⟩
theorem n_cmul2 {i j : Int} (h1 : -18446744073709551616 < i) (h2 : i < 18446744073709551616) : CMul i j ∨ CMulW i j := .inl (n_cmul0 h1 h2)
theorem n_cmul3 {i j : Int} (h1 : -18446744073709551616 < j) (h2 : j < 18446744073709551616) : CMul i j ∨ CMulW i j := .inl (n_cmul1 h1 h2)
theorem w_list_tuple : ("list" == "tuple") = false := by decide
theorem w_list_dict : ("list" == "dict") = false := by decide
theorem w_list_str : ("list" == "str") = false := by decide
theorem w_tuple_list : ("tuple" == "list") = false := by decide
theorem w_tuple_dict : ("tuple" == "dict") = false := by decide
theorem w_tuple_str : ("tuple" == "str") = false := by decide
theorem w_dict_list : ("dict" == "list") = false := by decide
theorem w_dict_tuple : ("dict" == "tuple") = false := by decide
theorem w_dict_str : ("dict" == "str") = false := by decide
theorem w_str_list : ("str" == "list") = false := by decide
theorem w_str_tuple : ("str" == "tuple") = false := by decide
theorem w_str_dict : ("str" == "dict") = false := by decide
end DL

/-! DL16: plain helpers: comprehensions, ranges, texts by their signs. -/
namespace DL
open PySem PySem.Spec PyProof.Rows L2
theorem lc_map {vs : List Nat} {g : GM} {tt : TM} {e : EM} {α : Type} (enc f : α → D) (ρ : DEnv) : ∀ (xs : List α) (acc : List D) (_ : ∀ x ∈ xs, ∀ acc ds, lcL vs g tt e (enc x :: ds) acc ρ = lcL vs g tt e ds (acc ++ [f x]) ρ),
    lcL vs g tt e (xs.map enc) acc ρ = .ok (.ow (.lst (acc ++ xs.map f))) ρ
  | [], acc, _ => by rw [List.map_nil, List.map_nil, List.append_nil]; rfl
  | x :: xs, acc, h => by
    rw [List.map_cons, h x (List.mem_cons_self ..), lc_map enc f ρ xs _ fun y hy => h y (List.mem_cons_of_mem _ hy), List.map_cons, List.append_assoc, List.singleton_append]
theorem lc_filter {vs : List Nat} {g : GM} {tt : TM} {e : EM} {α : Type} (enc f : α → D) (p : α → Bool) (ρ : DEnv) : ∀ (xs : List α) (acc : List D) (_ : ∀ x ∈ xs, ∀ acc ds, lcL vs g tt e (enc x :: ds) acc ρ = lcL vs g tt e ds (if p x = true then acc ++ [f x] else acc) ρ),
    lcL vs g tt e (xs.map enc) acc ρ = .ok (.ow (.lst (acc ++ (xs.filter p).map f))) ρ
  | [], acc, _ => by rw [List.filter_nil, List.map_nil, List.map_nil, List.append_nil]; rfl
  | x :: xs, acc, h => by
    rw [List.map_cons, h x (List.mem_cons_self ..), lc_filter enc f p ρ xs _ fun y hy => h y (List.mem_cons_of_mem _ hy)]
    by_cases c : p x = true
    · rw [if_pos c, List.filter_cons_of_pos c, List.map_cons, List.append_assoc, List.singleton_append]
    · rw [if_neg c, List.filter_cons_of_neg c]
theorem rangeD_eq (n : Nat) : rangeD 0 n = (List.range n).map fun i : Nat => D.int (i : Int) := by
  unfold rangeD
  simp
/-- a text by its signs -/
def mk (l : List Nat) : Str := ⟨l.toArray⟩
theorem mk_inj {l k : List Nat} (h : mk l = mk k) : l = k := by
  have := congrArg (fun z : Str => z.cps.toList) h
  simpa [mk] using this
theorem mk_len (l : List Nat) : (mk l).length = l.length := by unfold mk Str.length; simp
theorem mk_list (l : List Nat) : (mk l).cps.toList = l := by unfold mk; simp
theorem mk_app (l k : List Nat) : mk l ++ mk k = mk (l ++ k) := by
  show (⟨l.toArray ++ k.toArray⟩ : Str) = ⟨(l ++ k).toArray⟩
  simp
theorem mk_eta (z : Str) : mk z.cps.toList = z := by unfold mk; simp
theorem mk_rep (l : List Nat) (k : Int) : repS (mk l) k = mk (List.replicate k.toNat l).flatten := by unfold repS; rw [mk_list]; rfl
theorem mk_cut (l : List Nat) (lo hi : Option Int) : cutS (mk l) lo hi = mk ((l.drop (HT.sIx l.length 0 lo)).take (HT.sIx l.length l.length hi - HT.sIx l.length 0 lo)) := by
  unfold cutS
  rw [mk_list, mk_len]
  rfl
theorem cut_lo (l : List Nat) (k : Nat) : cutS (mk l) none (some (k : Int)) = mk (l.take k) := by
  rw [mk_cut, HT.sIx_none, HT.sIx_nat, Nat.sub_zero, List.drop_zero]
  congr 1
  rcases Nat.le_total k l.length with h | h
  · rw [Nat.min_eq_left h]
  · rw [Nat.min_eq_right h, List.take_of_length_le h, List.take_of_length_le (Nat.le_refl _)]
theorem cut_hi (l : List Nat) (k : Nat) : cutS (mk l) (some (k : Int)) none = mk (l.drop k) := by
  rw [mk_cut, HT.sIx_none, HT.sIx_nat]
  congr 1
  rcases Nat.le_total k l.length with h | h
  · rw [Nat.min_eq_left h]
    exact List.take_of_length_le (by rw [List.length_drop]; exact Nat.le_refl _)
  · rw [Nat.min_eq_right h, List.drop_of_length_le h, List.drop_of_length_le (Nat.le_refl _)]
    simp
theorem abc_list : (("abcdefghijklmnopqrstuvwxyz" : Str)).cps.toList = (List.range 26).map (97 + ·) := by decide +kernel
theorem abc_len : (("abcdefghijklmnopqrstuvwxyz" : Str)).length = 26 := by decide +kernel
def ch (i : Int) : Nat := 97 + i.toNat
theorem ix_abc {i : Int} (h0 : 0 ≤ i) (h1 : i < 26) : pIx (.str "abcdefghijklmnopqrstuvwxyz") (.int i) = .v (.str (mk [ch i])) := by
  rw [p_ix4, if_pos (by rw [abc_len]; decide), abc_list]
  obtain ⟨n, rfl⟩ := Int.eq_ofNat_of_zero_le h0
  rw [at_nat, List.getElem?_map, List.getElem?_range (by omega)]
  show _ = PR.v (.str (mk [97 + n]))
  rfl
theorem empty_mk : (("" : Str)) = mk [] := by decide +kernel
theorem join_signs : ∀ l : List Nat, Txt.join (mk []) (l.map fun c => mk [c]) = mk l := by
  intro l
  rw [TL.join_eq]
  have : ∀ l : List Nat, Str.join (mk []) (l.map fun c => mk [c]) = mk l := by
    intro l
    induction l with
    | nil => rfl
    | cons a r ih =>
      cases r with
      | nil => rfl
      | cons b r =>
        show mk [a] ++ mk [] ++ Str.join (mk []) (mk [b] :: r.map fun c => mk [c]) = _
        rw [show Str.join (mk []) (mk [b] :: r.map fun c => mk [c]) = mk (b :: r) from ih, mk_app, mk_app]
        rfl
  exact this l
theorem sum_ones {α : Type} (xs : List α) (g : α → Nat) : (xs.map fun i => (mk [g i]).length).sum = xs.length := by
  induction xs with
  | nil => rfl
  | cons x xs ih => rw [List.map_cons, List.sum_cons, ih, mk_len]; simp only [List.length_cons, List.length_nil]; omega
theorem join_mk {α : Type} (xs : List α) (g : α → Nat) (h : xs.length ≤ 16777216) : pJoin (.str "") [.lst (xs.map fun i => .str (mk [g i]))] = .v (.str (mk (xs.map g))) := by
  have e : (xs.map fun i => D.str (mk [g i])) = (xs.map fun i => mk [g i]).map .str := by rw [List.map_map]; rfl
  unfold pJoin
  simp only [e, strsOf_map]
  rw [if_pos (by rw [List.map_map]; show (xs.map fun i => (mk [g i]).length).sum + _ ≤ _; rw [sum_ones, empty_mk, mk_len]; simpa using h), empty_mk]
  have e2 : (xs.map fun i => mk [g i]) = (xs.map g).map fun c => mk [c] := by rw [List.map_map]; rfl
  rw [e2, join_signs]
theorem nodup_map_range {α : Type} (n : Nat) (f : Nat → α) (h : ∀ i j, i < n → j < n → f i = f j → i = j) : ((List.range n).map f).Nodup :=
  List.pairwise_map.mpr (List.Pairwise.imp_of_mem (fun {a b} ha hb (hab : a ≠ b) e => hab (h a b (List.mem_range.mp ha) (List.mem_range.mp hb) e)) List.nodup_range)
theorem nodup_map {α β : Type} {l : List α} {f : α → β} (hl : l.Nodup) (h : ∀ a ∈ l, ∀ b ∈ l, f a = f b → a = b) : (l.map f).Nodup :=
  List.pairwise_map.mpr (List.Pairwise.imp_of_mem (fun {a b} ha hb (hab : a ≠ b) e => hab (h a ha b hb e)) hl)
theorem cutN {α : Type} (xs : List α) (k : Nat) : cutD xs none (some (k : Int)) = xs.take k := by
  unfold cutD
  rw [HT.sIx_none, HT.sIx_nat, Nat.sub_zero, List.drop_zero]
  rcases Nat.le_total k xs.length with h | h
  · rw [Nat.min_eq_left h]
  · rw [Nat.min_eq_right h, List.take_of_length_le h, List.take_of_length_le (Nat.le_refl _)]
theorem cutS' {α : Type} (xs : List α) (k : Nat) : cutD xs (some (k : Int)) none = xs.drop k := by
  unfold cutD
  rw [HT.sIx_none, HT.sIx_nat]
  rcases Nat.le_total k xs.length with h | h
  · rw [Nat.min_eq_left h]
    exact List.take_of_length_le (by rw [List.length_drop]; exact Nat.le_refl _)
  · rw [Nat.min_eq_right h, List.drop_of_length_le h, List.drop_of_length_le (Nat.le_refl _)]
    simp
theorem cutN3 {α : Type} (xs : List α) : cutD xs none (some 3) = xs.take 3 := cutN xs 3
theorem n_pow9 : CPow 10 9 := ⟨by decide, by decide, by decide⟩
theorem n_shl (j : Nat) (h : j ≤ 1000) : CPow 1 (j : Int) := ⟨by omega, by omega, by decide⟩
theorem two_le (j : Nat) (h : j ≤ 60) : (0 : Int) < 1 * 2 ^ j ∧ (1 : Int) * 2 ^ j < 18446744073709551616 := by
  have h1 : (2 : Int) ^ j = ((2 ^ j : Nat) : Int) := by push_cast; rfl
  have h2 : 2 ^ j ≤ 2 ^ 60 := Nat.pow_le_pow_right (by decide) h
  have h3 : 0 < 2 ^ j := Nat.pow_pos (by decide)
  rw [h1]
  omega
theorem nodup_get {α : Type} {l : List α} (h : l.Nodup) {i j : Nat} {x : α} (h1 : l[i]? = some x) (h2 : l[j]? = some x) : i = j := by
  obtain ⟨a, ha⟩ := List.getElem?_eq_some_iff.mp h1
  obtain ⟨b, hb⟩ := List.getElem?_eq_some_iff.mp h2
  rcases Nat.lt_trichotomy i j with q | q | q
  · exact absurd (ha.trans hb.symm) (List.pairwise_iff_getElem.mp h i j a b q)
  · exact q
  · exact absurd (hb.trans ha.symm) (List.pairwise_iff_getElem.mp h j i b a q)
theorem nodup_drop_take {α : Type} {l : List α} (h : l.Nodup) (t : Nat) : (l.drop t ++ l.take t).Nodup := by
  have : (l.take t ++ l.drop t).Nodup := by rw [List.take_append_drop]; exact h
  exact List.Perm.nodup List.perm_append_comm this
end DL

/-! DL17: an own container of own containers, held by a name. -/
namespace DL
open PySem PySem.Spec PyProof.Rows L2

/-! ### cells beside the own ones -/
def ov (h f : Hp) : Hp := fun a => match f a with
  | some o => some o
  | none => h a
theorem ov_some {h f : Hp} {a : Addr} {o : HO} (e : f a = some o) : ov h f a = some o := by unfold ov; rw [e]
theorem ov_none {h f : Hp} {a : Addr} (e : f a = none) : ov h f a = h a := by unfold ov; rw [e]
theorem ov_upd (h f : Hp) (p : Addr) (o : HO) : ov h (upd f p o) = upd (ov h f) p o := by
  funext a
  by_cases q : a = p
  · subst q; rw [ov_some upd_same, upd_same]
  · rw [upd_ne q]
    unfold ov
    rw [upd_ne q]
theorem ov_cut {h f : Hp} {p : Addr} {o : HO} (e : f p = some o) : ∃ f' : Hp, f' p = none ∧ ov h f = upd (ov h f') p o ∧ ∀ a, a ≠ p → f' a = f a := by
  refine ⟨fun a => if a = p then none else f a, if_pos rfl, ?_, fun a n => if_neg n⟩
  funext a
  by_cases q : a = p
  · subst q; rw [ov_some e, upd_same]
  · rw [upd_ne q]
    unfold ov
    simp only [if_neg q]
section
variable {K : PySem.W.Frag} {mg : Str → Option Value} {H0 B G G' G1 H H' f f' : Hp} {ρ ρ' : DEnv} {W : WX} {σ σ' : L2.St}
abbrev Off (H0 B f : Hp) : Prop := ∀ a o, f a = some o → H0 a = none ∧ B a = none
theorem StD.cell {p : Addr} {o o' : HO} (of : Off H0 B f) (e : f p = some o) (I : StD K (ov H0 f) B G ρ σ H) : StD K (ov H0 (upd f p o')) B G ρ σ (upd H p o') := by
  obtain ⟨f', n, e1, ne⟩ := ov_cut (h := H0) e
  have e2 : ov H0 (upd f p o') = upd (ov H0 f') p o' := by
    rw [← ov_upd]
    funext a
    unfold ov
    by_cases q : a = p
    · subst q; rw [upd_same, upd_same]
    · rw [upd_ne q, upd_ne q, ne a q]
  rw [e2]
  rw [e1] at I
  exact StD.beside (by rw [ov_none n]; exact (of p o e).1) (of p o e).2 I
theorem StD.newCell {p : Addr} {o : HO} (I : StD K (ov H0 f) B G ρ σ H) (hp : H p = none) : StD K (ov H0 (upd f p o)) B G ρ σ (upd H p o) := by
  rw [ov_upd]
  exact I.beside0 hp
theorem StD.atCell {p : Addr} {o : HO} (of : Off H0 B f) (e : f p = some o) (I : StD K (ov H0 f) B G ρ σ H) : H p = some o ∧ G p = none := by
  have hp : H p = some o := I.h0.own p o (ov_some e) (of p o e).2
  refine ⟨hp, ?_⟩
  cases q : G p with
  | none => rfl
  | some u =>
    have := I.nb p u q (of p o e).2
    rw [ov_some e] at this
    cases this
/-- the ghost heap may be made smaller -/
theorem StD.shrink {H1 : Hp} (I : StD K H0 B G ρ σ H) (h : ∀ a o, H1 a = some o → H0 a = some o) : StD K H1 B G ρ σ H := by
  have down : ∀ a, H0 a = none → H1 a = none := fun a n => by
    cases q : H1 a with
    | none => rfl
    | some o => rw [h a o q] at n; cases n
  refine ⟨I.gh, ⟨?_, fun a o e n => I.h0.own a o (h a o e) n⟩, I.bg, fun a o e n => down a (I.nb a o e n), I.len, fun i s e => ?_, I.dj⟩
  · exact (Grow.of h : Grow H1 H0).trans I.h0.m
  · have x := I.sl i s e
    cases s with
    | un => trivial
    | sh d => exact x
    | ow d =>
      obtain ⟨q, e1, g1, h1, c⟩ := x
      exact ⟨q, e1, g1, down q h1, c⟩
end

/-! ### what an own container of own containers holds -/
/-- f bears at p the container d, its entries own containers too -/
def Deep (K : PySem.W.Frag) (G f : Hp) (p : Addr) : D → Prop
  | .lst ds => ∃ es : List (Addr × D), ds = es.map (·.2) ∧ f p = some (.lst (es.map fun e => .ref e.1)) ∧ (∀ e ∈ es, Cell K G f e.1 e.2) ∧ (p :: es.map (·.1)).Nodup
  | .dct kvs => ∃ es : List (Key × Addr × D), kvs = es.map (fun e => (e.1, e.2.2)) ∧ f p = some (.dK (es.map fun e => (e.1, .ref e.2.1))) ∧ (∀ e ∈ es, Cell K G f e.2.1 e.2.2) ∧ (p :: es.map (·.2.1)).Nodup
  | _ => False
section
variable {K : PySem.W.Frag} {mg : Str → Option Value} {H0 B G G' G1 H H' f f' : Hp} {ρ ρ' : DEnv} {W : WX} {σ σ' : L2.St} {p : Addr} {d d' : D} {i : Nat}
theorem Deep.mono (h : Deep K G f p d) (m : Mono G G') : Deep K G' f p d := by
  cases d with
  | lst ds => obtain ⟨es, e1, e2, c, n⟩ := h; exact ⟨es, e1, e2, fun e he => (c e he).mono m rfl, n⟩
  | dct ds => obtain ⟨es, e1, e2, c, n⟩ := h; exact ⟨es, e1, e2, fun e he => (c e he).mono m rfl, n⟩
  | _ => exact h.elim
/-- the state: slot i is pinned to the outer cell p -/
def St2 (K : PySem.W.Frag) (H0 B G : Hp) (i : Nat) (d : D) (ρ : DEnv) (σ : L2.St) (H : Hp) : Prop :=
  ∃ f p, StD K (ov H0 f) B G ρ σ H ∧ ρ[i]? = some (.sh (.xn (.ref p))) ∧ Off H0 B f ∧ Deep K G f p d
theorem StD.pinned {v : V} (I : StD K H0 B G ρ σ H) (h : ρ[i]? = some (.sh (.xn v))) : σ[i]? = some (some v) := by
  obtain ⟨w, e, r⟩ := I.sh h
  cases r
  exact e
theorem StD.offG (I : StD K (ov H0 f) B G ρ σ H) (of : Off H0 B f) : Off H0 G f := fun a o e => ⟨(of a o e).1, (I.atCell of e).2⟩
theorem St2.rebase (I : St2 K H0 B G i d ρ σ H) : St2 K H0 G G i d ρ σ H := by
  obtain ⟨f, p, I, e, of, dp⟩ := I
  exact ⟨f, p, I.rebase, e, I.offG of, dp⟩
theorem St2.unbase (I : St2 K H0 B G1 i d ρ σ H) (J : St2 K H0 G1 G' i d' ρ' σ' H') : St2 K H0 B G' i d' ρ' σ' H' := by
  obtain ⟨f, p, I, e, of, dp⟩ := I
  obtain ⟨f', p', J, e', of', dp'⟩ := J
  have hB : ∀ a, G1 a = none → B a = none := fun a n => I.bg.free n
  have key : ∀ a o, ov H0 f' a = some o → B a = none → G1 a = none := fun a o q n => by
    cases q2 : f' a with
    | some u => exact (of' a u q2).2
    | none =>
      rw [ov_none q2] at q
      cases q3 : G1 a with
      | none => rfl
      | some u =>
        have := I.nb a u q3 n
        cases q4 : f a with
        | some w => rw [ov_some q4] at this; cases this
        | none => rw [ov_none q4, q] at this; cases this
  refine ⟨f', p', ⟨J.gh, ⟨J.h0.m, fun a o q n => J.h0.own a o q (key a o q n)⟩, I.bg.trans J.bg, fun a o q n => ?_, J.len, J.sl, J.dj⟩, e', fun a o q => ⟨(of' a o q).1, hB a (of' a o q).2⟩, dp'⟩
  cases q2 : G1 a with
  | none => exact J.nb a o q q2
  | some u =>
    cases q3 : f' a with
    | some w => have := (of' a w q3).2; rw [q2] at this; cases this
    | none =>
      rw [ov_none q3]
      have := I.nb a u q2 n
      cases q4 : f a with
      | some w => rw [ov_some q4] at this; cases this
      | none => rw [ov_none q4] at this; exact this
end
/-! ### statements over such a state -/
inductive SR2 where
  | nx (d : D) (ρ : DEnv) | bk (d : D) (ρ : DEnv) | ct (d : D) (ρ : DEnv) | bad
abbrev SM2 := D → DEnv → SR2
section
variable (K : PySem.W.Frag) (mg : Str → Option Value)
def S2Post (H0 B : Hp) (i : Nat) (D : Ends) : SR2 → Prop
  | .nx d ρ' => ∀ σ' G' H', St2 K H0 B G' i d ρ' σ' H' → D.nx σ' H'
  | .bk d ρ' => ∀ σ' G' H', St2 K H0 B G' i d ρ' σ' H' → D.bk σ' H'
  | .ct d ρ' => ∀ σ' G' H', St2 K H0 B G' i d ρ' σ' H' → D.ct σ' H'
  | .bad => False
def c2S (i : Nat) (F : SM2) : TS := fun D σ H => ∃ H0 B G ρ d, St2 K H0 B G i d ρ σ H ∧ S2Post K H0 B i D (F d ρ)
end
abbrev DS2 (X : Cx) (i : Nat) (st : Stmt) (F : SM2) : Prop := PS X st (c2S X.K i F)
abbrev DSs2 (X : Cx) (i : Nat) (st : List Stmt) (F : SM2) : Prop := PSs X st (c2S X.K i F)
open Classical in
/-- a statement of the layer that leaves slot i alone -/
noncomputable def lift2 (i : Nat) (f : SM) : SM2 := fun d ρ => match f ρ with
  | .nx ρ' => if ρ'[i]? = ρ[i]? then .nx d ρ' else .bad
  | .bk ρ' => if ρ'[i]? = ρ[i]? then .bk d ρ' else .bad
  | .ct ρ' => if ρ'[i]? = ρ[i]? then .ct d ρ' else .bad
  | _ => .bad
section
variable {X : Cx} {i : Nat} {st : Stmt} {sts : List Stmt} {pos : Pos}
theorem S2Post.unbase {K : PySem.W.Frag} {H0 B G1 H : Hp} {d : D} {ρ : DEnv} {σ : L2.St} {D : Ends} {x : SR2} (I : St2 K H0 B G1 i d ρ σ H) (h : S2Post K H0 B i D x) : S2Post K H0 G1 i D x := by
  cases x with
  | nx d ρ' => exact fun σ' G' H' J => h σ' G' H' (I.unbase J)
  | bk d ρ' => exact fun σ' G' H' J => h σ' G' H' (I.unbase J)
  | ct d ρ' => exact fun σ' G' H' J => h σ' G' H' (I.unbase J)
  | bad => exact h
theorem ds2_lift {W : WX} {f : SM} (h : DS X W st f) : DS2 X i st (lift2 i f) := iS h fun D σ H ⟨H0, B, G, ρ, d, I, q⟩ => by
  have q := S2Post.unbase I q
  obtain ⟨f0, p, I, e, of, dp⟩ := I
  have of := I.offG of
  refine ⟨ov H0 f0, G, G, ρ, I.rebase, ?_⟩
  unfold lift2 at q
  have go : ∀ {ρ' : DEnv} {σ' : L2.St} {G' H' : Hp}, ρ'[i]? = ρ[i]? → StD X.K (ov H0 f0) G G' ρ' σ' H' → St2 X.K H0 G G' i d ρ' σ' H' := fun z J => ⟨f0, p, J, by rw [z, e], of, dp.mono (Mono.of J.bg)⟩
  cases q2 : f ρ with
  | nx ρ' =>
    rw [q2] at q
    by_cases z : ρ'[i]? = ρ[i]?
    · simp only [if_pos z] at q; exact fun σ' G' H' J => q σ' G' H' (go z J)
    · simp only [if_neg z] at q; exact q.elim
  | bk ρ' =>
    rw [q2] at q
    by_cases z : ρ'[i]? = ρ[i]?
    · simp only [if_pos z] at q; exact fun σ' G' H' J => q σ' G' H' (go z J)
    · simp only [if_neg z] at q; exact q.elim
  | ct ρ' =>
    rw [q2] at q
    by_cases z : ρ'[i]? = ρ[i]?
    · simp only [if_pos z] at q; exact fun σ' G' H' J => q σ' G' H' (go z J)
    · simp only [if_neg z] at q; exact q.elim
  | rt r ρ' => rw [q2] at q; exact q.elim
  | xc c ρ' => rw [q2] at q; exact q.elim
  | bad => rw [q2] at q; exact q.elim
def seq2 (f g : SM2) : SM2 := fun d ρ => match f d ρ with
  | .nx d' ρ' => g d' ρ'
  | x => x
theorem ds2_nil : DSs2 X i [] fun d ρ => .nx d ρ := iSs pss_nil fun D σ H ⟨H0, B, G, ρ, d, I, h⟩ => h σ G H I
theorem ds2_one {f : SM2} (h : DS2 X i st f) : DSs2 X i [st] f := pss_one h
theorem ds2_cons {f g : SM2} (h1 : DS2 X i st f) (h2 : DSs2 X i sts g) : DSs2 X i (st :: sts) (seq2 f g) :=
  iSs (pss_cons h1 h2) fun D σ H ⟨H0, B, G, ρ, d, I, h⟩ => by
    refine ⟨H0, B, G, ρ, d, I, ?_⟩
    unfold seq2 at h
    cases q : f d ρ with
    | nx d1 ρ1 => rw [q] at h; exact fun σ' G' H' I' => ⟨H0, B, G', ρ1, d1, I', h⟩
    | bk d1 ρ1 => rw [q] at h; exact h
    | ct d1 ρ1 => rw [q] at h; exact h
    | bad => rw [q] at h; exact h
end
end DL

/-! DL18: tests and loops over an own container of own containers. -/
namespace DL
open PySem PySem.Spec PyProof.Rows L2
abbrev TM2 := D → DEnv → Option (Bool × DEnv)
def T2Post (K : PySem.W.Frag) (H0 B G : Hp) (i : Nat) (d : D) (σ : L2.St) (Q : Bool → Hp → Prop) : Option (Bool × DEnv) → Prop
  | some (b, ρ') => ∀ G' H', Grow G G' → St2 K H0 B G' i d ρ' σ H' → Q b H'
  | none => False
def c2T (K : PySem.W.Frag) (i : Nat) (T : TM2) : TT := fun σ H Q => ∃ H0 B G ρ d, St2 K H0 B G i d ρ σ H ∧ T2Post K H0 B G i d σ Q (T d ρ)
abbrev DT2 (X : Cx) (i : Nat) (e : Expr) (T : TM2) : Prop := PT X e (c2T X.K i T)
open Classical in
noncomputable def liftT (i : Nat) (f : TM) : TM2 := fun d ρ => match f ρ with
  | .ok b ρ' => if ρ'[i]? = ρ[i]? then some (b, ρ') else none
  | _ => none
def if2 (c : TM2) (F G : SM2) : SM2 := fun d ρ => match c d ρ with
  | some (b, ρ') => if b = true then F d ρ' else G d ρ'
  | none => .bad
def for2L (g : GM) (body : SM2) : List D → D → DEnv → SR2
  | [], d, ρ => .nx d ρ
  | x :: xs, d, ρ => match g x ρ with
    | none => .bad
    | some ρ1 => match body d ρ1 with
      | .nx d2 ρ2 => for2L g body xs d2 ρ2
      | .ct d2 ρ2 => for2L g body xs d2 ρ2
      | .bk d2 ρ2 => .nx d2 ρ2
      | .bad => .bad
open Classical in
noncomputable def for2 (i : Nat) (it : IM) (g : GM) (body : SM2) : SM2 := fun d ρ => match it ρ with
  | .ok xs ρ' => if ρ'[i]? = ρ[i]? then for2L g body xs d ρ' else .bad
  | _ => .bad
section
variable {X : Cx} {W : WX} {i : Nat} {c tg iter : Expr} {body a b : List Stmt} {pos : Pos} {tp : Bool} {ws : List Nat}
theorem dt2_lift {f : TM} (h : DT X W c f) : DT2 X i c (liftT i f) := iT h fun σ H Q ⟨H0, B, G, ρ, d, I, q⟩ => by
  obtain ⟨f0, p, I, e, of, dp⟩ := I
  refine ⟨ov H0 f0, B, G, ρ, I, ?_⟩
  unfold liftT at q
  cases q2 : f ρ with
  | ok k ρ' =>
    rw [q2] at q
    by_cases z : ρ'[i]? = ρ[i]?
    · simp only [if_pos z] at q
      exact fun G' H' s J => q G' H' s ⟨f0, p, J, by rw [z, e], of, dp.mono (Mono.of s)⟩
    · simp only [if_neg z] at q; exact q.elim
  | xc c ρ' => rw [q2] at q; exact q.elim
  | bad => rw [q2] at q; exact q.elim
theorem ds2_if {fc : TM2} {f g : SM2} (hc : DT2 X i c fc) (ha : DSs2 X i a f) (hb : DSs2 X i b g) : DS2 X i (.If c a b pos) (if2 fc f g) :=
  iS (ps_if hc ha hb) fun D σ H ⟨H0, B, G, ρ, d, I, h⟩ => by
    refine ⟨H0, B, G, ρ, d, I, ?_⟩
    unfold if2 at h
    cases q : fc d ρ with
    | none => rw [q] at h; exact h.elim
    | some z =>
      obtain ⟨k, ρ1⟩ := z
      rw [q] at h
      intro G1 H1 s I1
      cases k with
      | true => exact ⟨H0, B, G1, ρ1, d, I1, h⟩
      | false => exact ⟨H0, B, G1, ρ1, d, I1, h⟩
theorem ds2_for {it : IM} {g : GM} {fb : SM2} (hp : PassesOwn (model X.prog X.w) X.A X.env X.xe) (hc : X.calm = true) (hi : DI X W tp tg iter it) (hg : DG X tp ws tg g) (hw : i ∉ ws) (hgi : ∀ x ρ ρ', g x ρ = some ρ' → ρ'[i]? = ρ[i]?) (hb : DSs2 X i body fb) (hs : ∀ x, foldedSetIterable iter X.env x = pure x := by intro _; rfl) :
    DS2 X i (.For tg iter body [] pos) (for2 i it g fb) :=
  iS (ps_for hp hc hi hg hb hs) fun D σ H ⟨H0, B, G, ρ, d0, I, h⟩ => by
    have hI := I
    obtain ⟨f0, p, I0, e0, of, dp⟩ := I
    refine ⟨ov H0 f0, B, G, ρ, I0, ?_⟩
    unfold for2 at h
    cases q : it ρ with
    | xc c ρ1 => rw [q] at h; exact h.elim
    | bad => rw [q] at h; exact h.elim
    | ok ds ρ1 =>
      rw [q] at h
      by_cases z : ρ1[i]? = ρ[i]?
      · simp only [if_pos z] at h
        intro J G1 H1 s1 I1 srv
        have J1 : St2 X.K H0 B G1 i d0 ρ1 σ H1 := ⟨f0, p, I1, by rw [z, e0], of, dp.mono (Mono.of s1)⟩
        have h := S2Post.unbase J1 h
        refine ⟨fun k m σ H => m = ds.length - k ∧ k ≤ ds.length ∧ ∃ G ρ d, St2 X.K H0 G1 G i d ρ σ H ∧ S2Post X.K H0 G1 i D (for2L g fb (ds.drop k) d ρ), ⟨ds.length, rfl, Nat.zero_le _, G1, ρ1, d0, J1.rebase, h⟩, ?_⟩
        rintro k m σ2 H2 ⟨rfl, hk, G2, ρ2, d2, I2, h2⟩
        obtain ⟨f2, p2, S2, e2, of2, dp2⟩ := I2
        obtain ⟨sgo, sstop, syld⟩ := srv H2 (S2.bg.trans S2.gh)
        by_cases hlt : k < ds.length
        · obtain ⟨x0, hd⟩ := lt_get hlt
          rw [drop_get hd] at h2
          refine .inr ⟨sgo k hlt, fun σ' H' => ∃ G ρ d, St2 X.K H0 G1 G i d ρ σ' H' ∧ S2Post X.K H0 G1 i D (for2L g fb (ds.drop (k + 1)) d ρ), fun σ' H' n' => ⟨ds.length - (k + 1), by omega, rfl, hlt, n'⟩, fun x H' y => ?_⟩
          obtain ⟨d', hd', yy⟩ := syld k x H' hlt y
          rw [hd] at hd'
          cases hd'
          dsimp only [for2L] at h2
          have fin : ∀ {H3 : Hp}, StD X.K (ov H0 f2) G1 G2 ρ2 σ2 H3 → RepY X.K G2 H3 tp x x0 → cG X.K tp ws g x σ2 H3 fun σ2 H2 => c2S X.K i fb { D with nx := fun σ' H' => ∃ G ρ d, St2 X.K H0 G1 G i d ρ σ' H' ∧ S2Post X.K H0 G1 i D (for2L g fb (ds.drop (k + 1)) d ρ), ct := fun σ' H' => ∃ G ρ d, St2 X.K H0 G1 G i d ρ σ' H' ∧ S2Post X.K H0 G1 i D (for2L g fb (ds.drop (k + 1)) d ρ), bk := D.nx } σ2 H2 := fun {H3} I3 ry => by
            refine ⟨ov H0 f2, G1, G2, ρ2, x0, I3, ry, ?_⟩
            cases q3 : g x0 ρ2 with
            | none => simp only [q3] at h2; exact h2.elim
            | some ρ3 =>
              simp only [q3] at h2
              intro σ3 _ J3
              refine ⟨H0, G1, G2, ρ3, d2, ⟨f2, p2, J3, by rw [hgi _ _ _ q3, e2], of2, dp2⟩, ?_⟩
              cases q4 : fb d2 ρ3 with
              | nx d4 ρ4 => simp only [q4] at h2; exact fun σ' G' H' J4 => ⟨G', ρ4, d4, J4, h2⟩
              | ct d4 ρ4 => simp only [q4] at h2; exact fun σ' G' H' J4 => ⟨G', ρ4, d4, J4, h2⟩
              | bk d4 ρ4 => simp only [q4] at h2; exact h2
              | bad => simp only [q4] at h2; exact h2
          rcases yy with ⟨e, r⟩ | ⟨et, p, vs, es, hp, e, ex, ed, ra⟩
          · subst e
            exact fin S2 (.inl (r.mono (Mono.of S2.bg)))
          · subst e
            exact fin (S2.alloc hp) (.inr ⟨et, p, vs, es, ex, upd_same, ed, ra.mono (Mono.of S2.bg)⟩)
        · have e : k = ds.length := by omega
          subst e
          rw [List.drop_length] at h2
          exact .inl ⟨sstop, h2 σ2 G2 H2 ⟨f2, p2, S2, e2, of2, dp2⟩⟩
      · simp only [if_neg z] at h; exact h.elim
end
end DL

/-! DL19: an inner container changed. -/
namespace DL
open PySem PySem.Spec PyProof.Rows L2
def updK (kvs : List (Key × D)) (k : Key) (c : D) : List (Key × D) := match kvs with
  | [] => []
  | kv :: r => if kv.1 = k then (k, c) :: r else kv :: updK r k c
/-- the inner container under a key -/
def inner (d k : D) : Option D := match d with
  | .dct kvs => (keyD k).bind (valD kvs)
  | .lst ds => (match k with
    | .int j => atI ds j
    | _ => none)
  | _ => none
def setIn (d k c : D) : D := match d with
  | .dct kvs => (match keyD k with
    | some key => .dct (updK kvs key c)
    | none => .dct kvs)
  | .lst ds => (match k with
    | .int j => (match ixN ds.length j with
      | some n => .lst (ds.set n c)
      | none => .lst ds)
    | _ => .lst ds)
  | d => d
section
variable {K : PySem.W.Frag} {G f : Hp} {p : Addr}
theorem cell_other {q a : Addr} {o : HO} {d : D} (h : Cell K G f a d) (n : a ≠ q) : Cell K G (upd f q o) a d := h.mono (Mono.refl _) (upd_ne n)
theorem upd_dct {es : List (Key × Addr × D)} {key : Key} {c c' : D} (h : valD (es.map fun e => (e.1, e.2.2)) key = some c) :
    ∃ a b q, es = a ++ (key, q, c) :: b ∧ valV (es.map fun e => (e.1, V.ref e.2.1)) key = some (.ref q) ∧ updK (es.map fun e => (e.1, e.2.2)) key c' = (a ++ (key, q, c') :: b).map fun e => (e.1, e.2.2) := by
  induction es with
  | nil => cases h
  | cons e es ih =>
    unfold valD at h
    rw [List.map_cons, List.find?_cons] at h
    by_cases z : e.1 = key
    · rw [decide_eq_true z] at h
      have hc : e.2.2 = c := Option.some.inj h
      obtain ⟨k, q, d⟩ := e
      dsimp only at z hc
      subst z hc
      refine ⟨[], es, q, rfl, ?_, ?_⟩
      · unfold valV
        rw [List.map_cons, List.find?_cons, decide_eq_true rfl]
        rfl
      · rw [List.map_cons, updK, if_pos rfl]
        rfl
    · rw [decide_eq_false z] at h
      obtain ⟨a, b, q, h1, h2, h3⟩ := ih h
      refine ⟨e :: a, b, q, by rw [h1]; rfl, ?_, ?_⟩
      · unfold valV at h2 ⊢
        rw [List.map_cons, List.find?_cons, decide_eq_false z]
        exact h2
      · rw [List.map_cons, updK, if_neg z, h3]
        rfl
theorem deep_at {d k c : D} {y : V} (h : Deep K G f p d) (hk : inner d k = some c) (ry : ∀ H, RepT K H H y k) : ∃ q o, f q = some o ∧ q ≠ p ∧ Cell K G f q c ∧ (∀ (H : Hp) (Q : VK), H p = f p → Q (.ref q) H → rIxA K (.ref p) y H Q) ∧
    ∀ G' o' c', Mono G G' → Cell K G' (upd f q o') q c' → Deep K G' (upd f q o') p (setIn d k c') := by
  cases d with
  | dct kvs =>
    obtain ⟨es, rfl, e2, hc, nd⟩ := h
    unfold inner at hk
    dsimp only at hk
    cases q1 : keyD k with
    | none => rw [q1] at hk; cases hk
    | some key =>
      rw [q1] at hk
      obtain ⟨a, b, q, h1, h2, h3⟩ := upd_dct (c' := c) hk
      have hm : (key, q, c) ∈ es := by rw [h1]; exact List.mem_append_right _ (List.mem_cons_self ..)
      have cq := hc _ hm
      obtain ⟨o, ho⟩ := cq.there
      have nd1 := nd
      rw [h1, List.map_append, List.map_cons] at nd1
      obtain ⟨np, nd2⟩ := List.nodup_cons.mp nd1
      have nqp : q ≠ p := fun z => np (by rw [← z]; exact List.mem_append_right _ (List.mem_cons_self ..))
      refine ⟨q, o, ho, nqp, cq, fun H Q e q2 => .inr ⟨p, .ref q, rfl, ?_, q2⟩, fun G' o' c' mg' cc => ?_⟩
      · have hy := key_v (ry H) q1
        rw [hy, ← h2]
        exact .inl ⟨_, key, .inl (by rw [e, e2]), rfl, rfl⟩
      · obtain ⟨a2, b2, q2, g1, g2, g3⟩ := upd_dct (c' := c') hk
        have hq : q2 = q := by rw [h2] at g2; cases g2; rfl
        subst hq
        unfold setIn
        simp only [q1]
        refine ⟨a2 ++ (key, q2, c') :: b2, g3, ?_, ?_, ?_⟩
        · rw [upd_ne (Ne.symm nqp), e2, g1, List.map_append, List.map_append]
          rfl
        · have nd3 := nd
          rw [g1, List.map_append, List.map_cons] at nd3
          obtain ⟨_, nd4⟩ := List.nodup_cons.mp nd3
          obtain ⟨_, n5, n6⟩ := List.nodup_append.mp nd4
          obtain ⟨n7, _⟩ := List.nodup_cons.mp n5
          intro e he
          rcases List.mem_append.mp he with he | he
          · refine Cell.mono (cell_other (hc e (by rw [g1]; exact List.mem_append_left _ he)) fun z => ?_) mg' rfl
            exact n6 _ (List.mem_map.mpr ⟨e, he, rfl⟩) _ (List.mem_cons_self ..) z
          · rcases List.mem_cons.mp he with rfl | he
            · exact cc
            · refine Cell.mono (cell_other (hc e (by rw [g1]; exact List.mem_append_right _ (List.mem_cons_of_mem _ he))) fun z => ?_) mg' rfl
              exact n7 (by rw [← z]; exact List.mem_map.mpr ⟨e, he, rfl⟩)
        · rw [g1] at nd
          rw [List.map_append, List.map_cons] at nd ⊢
          exact nd
  | lst ds =>
    obtain ⟨es, rfl, e2, hc, nd⟩ := h
    unfold inner at hk
    dsimp only at hk
    cases k with
    | int j =>
      dsimp only at hk
      unfold atI at hk
      cases q1 : ixN (es.map (·.2)).length j with
      | none => rw [q1] at hk; cases hk
      | some n =>
        rw [q1] at hk
        have hk : (es.map (·.2))[n]? = some c := hk
        rw [List.getElem?_map] at hk
        cases q3 : es[n]? with
        | none => rw [q3] at hk; cases hk
        | some e =>
          rw [q3] at hk
          have hcc : e.2 = c := Option.some.inj hk
          have hm : e ∈ es := List.mem_of_getElem? q3
          have cq := hc _ hm
          rw [hcc] at cq
          obtain ⟨o, ho⟩ := cq.there
          obtain ⟨np, nd2⟩ := List.nodup_cons.mp nd
          have nqp : e.1 ≠ p := fun z => np (by rw [← z]; exact List.mem_map.mpr ⟨e, hm, rfl⟩)
          have hn : n < es.length := (List.getElem?_eq_some_iff.mp q3).1
          have hvy : y = .int j := by
            have := ry (fun _ => none)
            cases this
            rfl
          subst hvy
          refine ⟨e.1, o, ho, nqp, cq, fun H Q e1 q2 => .inl (.inl ⟨p, _, j, .ref e.1, rfl, rfl, .inl (.inl (by rw [e1, e2])), ?_, q2⟩), fun G' o' c' mg' cc => ?_⟩
          · unfold atI
            rw [List.length_map] at q1 ⊢
            rw [q1]
            show (es.map fun e => V.ref e.1)[n]? = _
            rw [List.getElem?_map, q3]
            rfl
          · unfold setIn
            simp only [q1]
            refine ⟨es.set n (e.1, c'), ?_, ?_, ?_, ?_⟩
            · rw [List.map_set]
            · rw [upd_ne (Ne.symm nqp), e2]
              congr 2
              rw [List.map_set]
              apply List.ext_getElem?
              intro m
              by_cases z : n = m
              · subst z
                rw [List.getElem?_set_self (by rw [List.length_map]; exact hn), List.getElem?_map, q3]
                rfl
              · rw [List.getElem?_set_ne z]
            · intro e' he'
              obtain ⟨m, hm2⟩ := List.mem_iff_getElem?.mp he'
              by_cases z : n = m
              · subst z
                rw [List.getElem?_set_self hn] at hm2
                cases hm2
                exact cc
              · rw [List.getElem?_set_ne z] at hm2
                refine Cell.mono (cell_other (hc e' (List.mem_of_getElem? hm2)) fun z2 => z ?_) mg' rfl
                have a1 : (es.map (·.1))[n]? = some e.1 := by rw [List.getElem?_map, q3]; rfl
                have a2 : (es.map (·.1))[m]? = some e.1 := by rw [List.getElem?_map, hm2, ← z2]; rfl
                exact nodup_get nd2 a1 a2
            · have : (es.set n (e.1, c')).map (·.1) = es.map (·.1) := by
                rw [List.map_set]
                apply List.ext_getElem?
                intro m
                by_cases z : n = m
                · subst z
                  rw [List.getElem?_set_self (by rw [List.length_map]; exact hn), List.getElem?_map, q3]
                  rfl
                · rw [List.getElem?_set_ne z]
              rw [this]
              exact nd
    | _ => cases hk
  | _ => exact h.elim
end
end DL

/-! DL20: the statements that change an own container of own containers. -/
namespace DL
open PySem PySem.Spec PyProof.Rows L2
section
variable {K : PySem.W.Frag} {mg : Str → Option Value} {H0 B G G' G1 H H' f f' : Hp} {ρ ρ' : DEnv} {W : WX} {σ σ' : L2.St} {p : Addr} {d d' k : D} {i : Nat}
/-- a part of such a statement that the layer reckons -/
theorem cE2 {fe : EM} {R1 : VK} (I : StD K (ov H0 f) B G ρ σ H) (e : fe ρ = .ok (.sh k) ρ') (go : ∀ v G1 H1, Grow G G1 → StD K (ov H0 f) B G1 ρ' σ H1 → Rep K G1 v k → R1 v H1) : cE K mg W fe σ H R1 := by
  refine ⟨ov H0 f, B, G, ρ, I, ?_⟩
  rw [e]
  exact go
theorem flat_rep {v : V} (h : Rep K G v k) (fl : flatD k = true) : ∀ H, RepT K H H v k := fun H => by
  cases h with
  | non => exact .non
  | bl b => exact .bl b
  | int b => exact .int b
  | str b => exact .str b
  | _ => cases fl
open Classical in
noncomputable def put2 (i : Nat) (f1 f2 fv : EM) : SM2 := fun d ρ => match fv ρ with
  | .ok (.sh v) ρ1 => (match f1 ρ1 with
    | .ok (.sh k1) ρ2 => (match f2 ρ2 with
      | .ok (.sh k2) ρ3 => (match inner d k1 with
        | some c => (match putO c k2 v with
          | some c' => if flatD k1 = true ∧ ρ1[i]? = ρ[i]? ∧ ρ2[i]? = ρ[i]? ∧ ρ3[i]? = ρ[i]? then .nx (setIn d k1 c') ρ3 else .bad
          | none => .bad)
        | none => .bad)
      | _ => .bad)
    | _ => .bad)
  | _ => .bad
end
section
variable {X : Cx} {W : WX} {i : Nat} {e k1 k2 : Expr} {pos : Pos}
theorem ds2_put2 (i : Nat) {x : Str} {f1 f2 fv : EM} {pos' npos p1 : Pos} (hu : X.A.units + 1 < cLine) (hk1 : DE X W k1 f1) (hk2 : DE X W k2 f2) (hv : DE X W e fv) (hN : X.N[i]? = some x := by rfl) (hvs : Vis X.env.scope x := by first | exact Or.inl rfl | exact Or.inr (Or.inl rfl) | exact Or.inr (Or.inr rfl)) (hd : (x == ("__debug__" : Str)) = false := by decide)
    (hcd : (x == ("__classdict__" : Str)) = false := by decide) (hpl : PlainIx k1 := by exact fun _ _ => rfl)
    (ha : ∀ v, assign (.Subscript (.Subscript (.Name x npos) k1 p1) k2 pos') X.env v = (do
      let ov ← holding [v] (eval (.Subscript (.Name x npos) k1 p1) X.env)
      let iv ← holding [v, ov] (eval k2 X.env)
      standAt pos'
      holding [v, ov, iv] (setItem ov iv v)
      release [v, ov, iv] []) := by intro _; rfl)
    (hs : swapsWithSole [.Subscript (.Subscript (.Name x npos) k1 p1) k2 pos'] e pos.line X.env = pure false := by rfl) (hw : swappedStores [.Subscript (.Subscript (.Name x npos) k1 p1) k2 pos'] e X.env = pure none := by rfl)
    (h1 : (assignEach [.Subscript (.Subscript (.Name x npos) k1 p1) k2 pos'] X.env).map (·.2) = [assign (.Subscript (.Subscript (.Name x npos) k1 p1) k2 pos') X.env] := by rfl) :
    DS2 X i (.Assign [.Subscript (.Subscript (.Name x npos) k1 p1) k2 pos'] e pos) (put2 i f1 f2 fv) :=
  iS (ps_asg hv (pg_sub (pe_ix (ix_A hu) (pv i hN hvs hd hcd) hk1 hpl) hk2 (set_A hu) ha) hs hw h1) fun D σ H ⟨H0, B, G, ρ, d, ⟨f0, p, I, e0, of, dp⟩, h⟩ => by
    unfold put2 at h
    split at h
    · rename_i v ρ1 q1
      split at h
      · rename_i kd1 ρ2 q2
        split at h
        · rename_i kd2 ρ3 q3
          split at h
          · rename_i c q4
            split at h
            · rename_i c' q5
              by_cases z : flatD kd1 = true ∧ ρ1[i]? = ρ[i]? ∧ ρ2[i]? = ρ[i]? ∧ ρ3[i]? = ρ[i]?
              · simp only [if_pos z] at h
                obtain ⟨z0, z1, z2, z3⟩ := z
                refine cE2 I q1 fun w G1 H1 s1 I1 rv => ?_
                refine ⟨_, I1.pinned (by rw [z1, e0]), ?_⟩
                refine cE2 I1 q2 fun y G2 H2 s2 I2 ry => ?_
                have dp2 := dp.mono (Mono.of (s1.trans s2))
                obtain ⟨q, o, ho, nqp, cq, rd, wr⟩ := deep_at dp2 q4 (flat_rep ry z0)
                obtain ⟨hp, _⟩ : H2 p = f0 p ∧ True := by
                  obtain ⟨u, hu2⟩ : ∃ u, f0 p = some u := by
                    cases d with
                    | lst ds => obtain ⟨es, _, e2, _⟩ := dp2; exact ⟨_, e2⟩
                    | dct ds => obtain ⟨es, _, e2, _⟩ := dp2; exact ⟨_, e2⟩
                    | _ => exact dp2.elim
                  exact ⟨by rw [hu2]; exact (I2.atCell of hu2).1, trivial⟩
                refine rd H2 _ hp ?_
                refine cE2 I2 q3 fun y2 G3 H3 s3 I3 ry2 => ?_
                have cq3 : Cell X.K G3 H3 q c := by
                  have := (cq.mono (H' := f0) (Mono.of s3) rfl)
                  exact this.mono (Mono.refl _) (by rw [ho]; exact (I3.atCell of ho).1)
                refine putO_go cq3 (ry2.top I3.m) (rv.mono (Mono.of (s2.trans s3))) q5 fun o' cc => ?_
                refine h σ G3 _ ⟨upd f0 q o', p, I3.cell of ho, by rw [z3, e0], ?_, ?_⟩
                · intro a u hu3
                  by_cases za : a = q
                  · subst za; exact of a o ho
                  · rw [upd_ne za] at hu3; exact of a u hu3
                · exact wr G3 o' c' (Mono.of s3) (cc.mono (Mono.refl _) (by rw [upd_same, upd_same]))
              · simp only [if_neg z] at h; exact h.elim
            · exact h.elim
          · exact h.elim
        · exact h.elim
      · exact h.elim
    · exact h.elim
open Classical in
noncomputable def mut2 (i : Nat) (T : String) (p : D → List D → Option (D × D)) (f1 fv : EM) : SM2 := fun d ρ => match f1 ρ with
  | .ok (.sh k1) ρ1 => (match fv ρ1 with
    | .ok (.sh v) ρ2 => (match inner d k1 with
      | some c => (match p c [v] with
        | some (_, c') => if flatD k1 = true ∧ kindOk T c = true ∧ ρ1[i]? = ρ[i]? ∧ ρ2[i]? = ρ[i]? then .nx (setIn d k1 c') ρ2 else .bad
        | none => .bad)
      | none => .bad)
    | _ => .bad)
  | _ => .bad
theorem kind_cell {K : PySem.W.Frag} {G H : Hp} {q : Addr} {c : D} {T : String} (h : Cell K G H q c) (m : Grow G H) (k : kindOk T c = true) : KindV K T (.ref q) H := KindV.of h.top m k
theorem ds2_mut2 (i : Nat) {x : Str} {T id : String} {name : Str} {r : V → List V → Hp → VK → Prop} {p : D → List D → Option (D × D)} {f1 fv : EM} {npos p1 apos cpos : Pos} (hu : X.A.units + 1 < cLine) (pa : PlainAttrs T) (slot : Slot T name id) (hty : typeOf (.builtin id) = pure (.type "method_descriptor")) (hm : MtR X id r) (hp : MutOk X.K r p)
    (hk1 : DE X W k1 f1) (hv : DE X W e fv) (hN : X.N[i]? = some x := by rfl) (hvs : Vis X.env.scope x := by first | exact Or.inl rfl | exact Or.inr (Or.inl rfl) | exact Or.inr (Or.inr rfl)) (hd : (x == ("__debug__" : Str)) = false := by decide)
    (hcd : (x == ("__classdict__" : Str)) = false := by decide) (hpl : PlainIx k1 := by exact fun _ _ => rfl)
    (hbase : attributeBase (.Subscript (.Name x npos) k1 p1) name X.env (eval (.Subscript (.Name x npos) k1 p1) X.env) = eval (.Subscript (.Name x npos) k1 p1) X.env := by rfl)
    (hfew : ((backTo cpos (starEach [e] X.env)).all (fun x => !x.1) && (backToKw cpos (keywordEach [] X.env)).all (fun x => x.1.isSome)
      && decide ([e].length + ([] : List Keyword).length + (if ([] : List Keyword).isEmpty then 0 else 1) < 30)) = true := by rfl)
    (hline : (apos.endLine == cpos.line) = true := by rfl) (hs : starEach [e] X.env = (false, eval e X.env) :: starEach [] X.env := by rfl) (hplain : (backTo cpos (starEach [] X.env)).any (·.1) = false := by rfl)
    (hsw : swapsWith (.Call (.Attribute (.Subscript (.Name x npos) k1 p1) name apos) [e] [] cpos) none pos.line X.env = pure false := by rfl) :
    DS2 X i (.Expr (.Call (.Attribute (.Subscript (.Name x npos) k1 p1) name apos) [e] [] cpos) pos) (mut2 i T p f1 fv) :=
  iS (ps_expr (pe_km pa slot hty hm (pe_ix (ix_A hu) (pv i hN hvs hd hcd) hk1 hpl) (pa_cons (hs := hs) hv pa_nil) hbase hfew hline hs hplain) hsw) fun D σ H ⟨H0, B, G, ρ, d, ⟨f0, p0, I, e0, of, dp⟩, h⟩ => by
    unfold mut2 at h
    split at h
    · rename_i kd1 ρ1 q1
      split at h
      · rename_i v ρ2 q2
        split at h
        · rename_i c q4
          split at h
          · rename_i ret c' q5
            by_cases z : flatD kd1 = true ∧ kindOk T c = true ∧ ρ1[i]? = ρ[i]? ∧ ρ2[i]? = ρ[i]?
            · simp only [if_pos z] at h
              obtain ⟨z0, zk, z1, z2⟩ := z
              refine ⟨_, I.pinned e0, ?_⟩
              refine cE2 I q1 fun y G2 H2 s2 I2 ry => ?_
              have dp2 := dp.mono (Mono.of s2)
              obtain ⟨q, o, ho, nqp, cq, rd, wr⟩ := deep_at dp2 q4 (flat_rep ry z0)
              have hpp : H2 p0 = f0 p0 := by
                obtain ⟨u, hu2⟩ : ∃ u, f0 p0 = some u := by
                  cases d with
                  | lst ds => obtain ⟨es, _, e2, _⟩ := dp2; exact ⟨_, e2⟩
                  | dct ds => obtain ⟨es, _, e2, _⟩ := dp2; exact ⟨_, e2⟩
                  | _ => exact dp2.elim
                rw [hu2]
                exact (I2.atCell of hu2).1
              refine rd H2 _ hpp ?_
              have cq2 : Cell X.K G2 H2 q c := cq.mono (Mono.refl _) (by rw [ho]; exact (I2.atCell of ho).1)
              refine ⟨kind_cell cq2 I2.gh zk, ?_⟩
              refine cE2 I2 q2 fun y2 G3 H3 s3 I3 ry2 => ?_
              have cq3 : Cell X.K G3 H3 q c := by
                have := (cq.mono (H' := f0) (Mono.of s3) rfl)
                exact this.mono (Mono.refl _) (by rw [ho]; exact (I3.atCell of ho).1)
              refine hp G3 H3 q c [y2] [v] ret c' _ I3.gh cq3 (.cons ry2 .nil) q5 fun rv o' rr cc => ?_
              refine h σ G3 _ ⟨upd f0 q o', p0, I3.cell of ho, by rw [z2, e0], ?_, ?_⟩
              · intro a u hu3
                by_cases za : a = q
                · subst za; exact of a o ho
                · rw [upd_ne za] at hu3; exact of a u hu3
              · exact wr G3 o' c' (Mono.of s3) (cc.mono (Mono.refl _) (by rw [upd_same, upd_same]))
            · simp only [if_neg z] at h; exact h.elim
          · exact h.elim
        · exact h.elim
      · exact h.elim
    · exact h.elim
end
end DL

/-! DL21: a new inner container, tests by key, entering and leaving. -/
namespace DL
open PySem PySem.Spec PyProof.Rows L2
section
variable {K : PySem.W.Frag} {mg : Str → Option Value} {H0 B G G' G1 H H' f f' : Hp} {ρ ρ' : DEnv} {W : WX} {σ σ' : L2.St} {p q : Addr} {d d' k : D} {i : Nat}
/-- a free own cell is laid beside -/
theorem StD.adopt {o : HO} (I : StD K H0 B G ρ σ H) (hq : H q = some o) (g : G q = none) (h0 : H0 q = none) (nx : ∀ (i : Nat) (e : D), ρ[i]? = some (.ow e) → σ[i]? ≠ some (some (.ref q))) : StD K (upd H0 q o) B G ρ σ H := by
  refine ⟨I.gh, ⟨I.h0.m.add hq, fun a u e n => ?_⟩, I.bg, fun a u e n => ?_, I.len, fun j s e => ?_, I.dj⟩
  · by_cases z : a = q
    · subst z; rw [upd_same] at e; rw [hq]; exact e
    · rw [upd_ne z] at e; exact I.h0.own a u e n
  · have z : a ≠ q := fun z => by rw [z, g] at e; cases e
    rw [upd_ne z]
    exact I.nb a u e n
  · have x := I.sl j s e
    cases s with
    | un => trivial
    | sh d => exact x
    | ow d =>
      obtain ⟨r, e1, g1, h1, c⟩ := x
      have nq : r ≠ q := fun z => nx j d e (by rw [← z]; exact join_some e1)
      exact ⟨r, e1, g1, by rw [upd_ne nq]; exact h1, c⟩
end
open Classical in
noncomputable def new2 (i : Nat) (fk fv : EM) : SM2 := fun d ρ => match fv ρ with
  | .ok (.ow d1) ρ1 => (match fk ρ1 with
    | .ok (.sh k) ρ2 => (match d with
      | .dct kvs => (match keyD k with
        | some key => if kvs.any (fun kv => decide (kv.1 = key)) = false ∧ kvs.length < 16777216 ∧ ρ1[i]? = ρ[i]? ∧ ρ2[i]? = ρ[i]? then .nx (.dct (kvs ++ [(key, d1)])) ρ2 else .bad
        | none => .bad)
      | _ => .bad)
    | _ => .bad)
  | _ => .bad
section
variable {X : Cx} {W : WX} {i : Nat} {e k : Expr} {pos : Pos}
theorem ds2_new (i : Nat) {x : Str} {fk fv : EM} {pos' npos : Pos} (hu : X.A.units + 1 < cLine) (hk : DE X W k fk) (hv : DE X W e fv) (hN : X.N[i]? = some x := by rfl) (hvs : Vis X.env.scope x := by first | exact Or.inl rfl | exact Or.inr (Or.inl rfl) | exact Or.inr (Or.inr rfl)) (hd : (x == ("__debug__" : Str)) = false := by decide)
    (hcd : (x == ("__classdict__" : Str)) = false := by decide)
    (ha : ∀ v, assign (.Subscript (.Name x npos) k pos') X.env v = (do
      let ov ← holding [v] (eval (.Name x npos) X.env)
      let iv ← holding [v, ov] (eval k X.env)
      standAt pos'
      holding [v, ov, iv] (setItem ov iv v)
      release [v, ov, iv] []) := by intro _; rfl)
    (hs : swapsWithSole [.Subscript (.Name x npos) k pos'] e pos.line X.env = pure false := by rfl) (hw : swappedStores [.Subscript (.Name x npos) k pos'] e X.env = pure none := by rfl)
    (h1 : (assignEach [.Subscript (.Name x npos) k pos'] X.env).map (·.2) = [assign (.Subscript (.Name x npos) k pos') X.env] := by rfl) :
    DS2 X i (.Assign [.Subscript (.Name x npos) k pos'] e pos) (new2 i fk fv) :=
  iS (ps_asg hv (pg_sub (pv i hN hvs hd hcd) hk (set_A hu) ha) hs hw h1) fun D σ H ⟨H0, B, G, ρ, d, ⟨f0, p, I, e0, of, dp⟩, h⟩ => by
    unfold new2 at h
    split at h
    · rename_i d1 ρ1 q1
      split at h
      · rename_i kd ρ2 q2
        split at h
        · rename_i kvs
          split at h
          · rename_i key q3
            by_cases z : kvs.any (fun kv => decide (kv.1 = key)) = false ∧ kvs.length < 16777216 ∧ ρ1[i]? = ρ[i]? ∧ ρ2[i]? = ρ[i]?
            · simp only [if_pos z] at h
              obtain ⟨za, zl, z1, z2⟩ := z
              refine ⟨ov H0 f0, B, G, ρ, I, ?_⟩
              rw [q1]
              intro v G1 H1 s1 I1 vr
              obtain ⟨q, rfl, gq, h0q, nx, cq⟩ := vr
              obtain ⟨o, ho⟩ := cq.there
              have fq : f0 q = none := by
                cases z : f0 q with
                | none => rfl
                | some u => rw [ov_some z] at h0q; cases h0q
              have h0q' : H0 q = none := by rw [ov_none fq] at h0q; exact h0q
              have I1' : StD X.K (ov H0 (upd f0 q o)) B G1 ρ1 σ H1 := by
                rw [ov_upd]
                exact I1.adopt ho gq h0q nx
              have bq : B q = none := I1.bg.free gq
              have of1 : Off H0 B (upd f0 q o) := fun a u hu3 => by
                by_cases za : a = q
                · subst za; exact ⟨h0q', bq⟩
                · rw [upd_ne za] at hu3; exact of a u hu3
              refine ⟨_, I1'.pinned (by rw [z1, e0]), ?_⟩
              refine cE2 I1' q2 fun y G2 H2 s2 I2 ry => ?_
              obtain ⟨es, e1, e2, hc, nd⟩ := dp
              have hpq : p ≠ q := fun z => by rw [z, fq] at e2; cases e2
              have e2' : upd f0 q o p = some (.dK (es.map fun e => (e.1, .ref e.2.1))) := by rw [upd_ne hpq]; exact e2
              obtain ⟨hp, _⟩ := I2.atCell of1 e2'
              have hy : y = kV key := key_v (ry.top I2.m) q3
              subst e1
              have nk : (es.map fun e => (e.1, V.ref e.2.1)).any (fun kv => decide (kv.1 = key)) = false := by
                rw [List.any_map] at za ⊢
                exact za
              refine .inr ⟨p, upd H2 p (.dK (putK (es.map fun e => (e.1, V.ref e.2.1)) key (.ref q))), rfl, ?_, ?_⟩
              · rw [hy]
                exact .inl ⟨_, key, hp, rfl, by rw [List.length_map] at zl ⊢; rw [sizeLine_eq]; exact zl, rfl⟩
              · refine h σ G2 _ ⟨upd (upd f0 q o) p (.dK (putK (es.map fun e => (e.1, V.ref e.2.1)) key (.ref q))), p, I2.cell of1 e2', by rw [z2, e0], ?_, ?_⟩
                · intro a u hu3
                  by_cases za : a = p
                  · subst za; exact of a _ e2
                  · rw [upd_ne za] at hu3; exact of1 a u hu3
                · have hes : ∀ e ∈ es, e.2.1 ≠ q := fun e he z => by
                    obtain ⟨u, hu3⟩ := (hc e he).there
                    rw [z, fq] at hu3
                    cases hu3
                  refine ⟨es ++ [(key, q, d1)], by rw [List.map_append]; rfl, ?_, ?_, ?_⟩
                  · rw [upd_same]
                    unfold putK
                    rw [if_neg (by rw [nk]; decide), List.map_append]
                    rfl
                  · intro e he
                    rcases List.mem_append.mp he with he | he
                    · have ne : e.2.1 ≠ p := fun z => (List.nodup_cons.mp nd).1 (by rw [← z]; exact List.mem_map.mpr ⟨e, he, rfl⟩)
                      exact ((hc e he).mono (H' := f0) (Mono.of (s1.trans s2)) rfl).mono (Mono.refl _) (by rw [upd_ne ne, upd_ne (hes e he)])
                    · rw [List.mem_singleton.mp he]
                      exact cq.mono (Mono.of s2) (by rw [upd_ne (Ne.symm hpq), upd_same, ho])
                  · rw [List.map_append]
                    show (p :: (es.map (·.2.1) ++ [q])).Nodup
                    rw [← List.cons_append]
                    refine List.nodup_append.mpr ⟨nd, by simp, fun a ha b hb => ?_⟩
                    rw [List.mem_singleton.mp hb]
                    rcases List.mem_cons.mp ha with rfl | ha
                    · exact hpq
                    · obtain ⟨e, he, rfl⟩ := List.mem_map.mp ha
                      exact hes e he
            · simp only [if_neg z] at h; exact h.elim
          · exact h.elim
        · exact h.elim
      · exact h.elim
    · exact h.elim
end
end DL

/-! DL22: tests by key over such a container; entering, leaving. -/
namespace DL
open PySem PySem.Spec PyProof.Rows L2
open Classical in
noncomputable def in2 (i : Nat) (f : EM) : TM2 := fun d ρ => match f ρ with
  | .ok (.sh k) ρ1 => (match d with
    | .dct kvs => (match keyD k with
      | some key => if ρ1[i]? = ρ[i]? then some ((valD kvs key).isSome, ρ1) else none
      | none => none)
    | _ => none)
  | _ => none
def c3S (K : PySem.W.Frag) (mg : Str → Option Value) (W : WX) (i : Nat) (F : D → DEnv → SR) : TS := fun D σ H => ∃ H0 B G ρ d, St2 K H0 B G i d ρ σ H ∧ SPost K mg H0 B W D (F d ρ)
abbrev DSs3 (X : Cx) (W : WX) (i : Nat) (st : List Stmt) (F : D → DEnv → SR) : Prop := PSs X st (c3S X.K X.mg W i F)
def seq3 (f : SM2) (F : D → DEnv → SR) : D → DEnv → SR := fun d ρ => match f d ρ with
  | .nx d' ρ' => F d' ρ'
  | _ => .bad
open Classical in
noncomputable def blk3 (i : Nat) (F : D → DEnv → SR) (d : D) (ρ : DEnv) : SR := if h : ∃ r, ∀ v, F d (ρ.set i (.sh (.xn v))) = r then Classical.choose h else .bad
open Classical in
theorem blk3_eq {i : Nat} {F : D → DEnv → SR} {d : D} {ρ : DEnv} {r : SR} (h : ∀ v, F d (ρ.set i (.sh (.xn v))) = r) : blk3 i F d ρ = r := by
  have hx : ∃ r, ∀ v, F d (ρ.set i (.sh (.xn v))) = r := ⟨r, h⟩
  unfold blk3
  rw [dif_pos hx]
  exact (Classical.choose_spec hx .non).symm.trans (h .non)
section
variable {X : Cx} {W : WX} {i : Nat} {st : Stmt} {sts : List Stmt} {e : Expr} {pos : Pos}
theorem dt2_in (i : Nat) {x : Str} {f : EM} {npos : Pos} (hu : X.A.units + 1 < cLine) (he : DE X W e f) (hN : X.N[i]? = some x := by rfl) (hvs : Vis X.env.scope x := by first | exact Or.inl rfl | exact Or.inr (Or.inl rfl) | exact Or.inr (Or.inr rfl)) (hd : (x == ("__debug__" : Str)) = false := by decide)
    (hcd : (x == ("__classdict__" : Str)) = false := by decide) (hm : behindInMarks .In (.Name x npos) = false := by rfl) : DT2 X i (.Compare e [.In] [.Name x npos] pos) (in2 i f) :=
  iT (pt_cmpR (op_din hu) he (pv i hN hvs hd hcd) hm) fun σ H Q ⟨H0, B, G, ρ, d, ⟨f0, p, I, e0, of, dp⟩, h⟩ => by
    unfold in2 at h
    split at h
    · rename_i k ρ1 q1
      split at h
      · rename_i kvs
        split at h
        · rename_i key q2
          by_cases z : ρ1[i]? = ρ[i]?
          · simp only [if_pos z] at h
            refine cE2 I q1 fun y G1 H1 s1 I1 ry => ?_
            refine ⟨_, I1.pinned (by rw [z, e0]), ?_⟩
            have dp1 := dp.mono (Mono.of s1)
            obtain ⟨es, e1, e2, hc, nd⟩ := dp1
            obtain ⟨hp, _⟩ := I1.atCell of e2
            have hy : y = kV key := key_v (ry.top I1.m) q2
            refine ⟨p, _, rfl, .inl ⟨_, key, .inl hp, hy, rfl⟩, ?_⟩
            refine ⟨_, rfl, ?_⟩
            have hv : (valV (es.map fun e => (e.1, V.ref e.2.1)) key).isSome = (valD kvs key).isSome := by
              rw [e1]
              unfold valV valD
              rw [Option.isSome_map, Option.isSome_map, List.find?_map, List.find?_map, Option.isSome_map, Option.isSome_map]
              rfl
            rw [hv]
            exact h G1 H1 s1 ⟨f0, p, I1, by rw [z, e0], of, dp.mono (Mono.of s1)⟩
          · simp only [if_neg z] at h; exact h.elim
        · exact h.elim
      · exact h.elim
    · exact h.elim
theorem ds3_cons {f : SM2} {F : D → DEnv → SR} (h1 : DS2 X i st f) (h2 : DSs3 X W i sts F) : DSs3 X W i (st :: sts) (seq3 f F) :=
  iSs (pss_cons h1 h2) fun D σ H ⟨H0, B, G, ρ, d, I, h⟩ => by
    refine ⟨H0, B, G, ρ, d, I, ?_⟩
    unfold seq3 at h
    cases q : f d ρ with
    | nx d1 ρ1 => rw [q] at h; exact fun σ' G' H' I' => ⟨H0, B, G', ρ1, d1, I', h⟩
    | bk d1 ρ1 => rw [q] at h; exact h.elim
    | ct d1 ρ1 => rw [q] at h; exact h.elim
    | bad => rw [q] at h; exact h.elim
end
section
variable {K : PySem.W.Frag} {mg : Str → Option Value} {H0 B G G' G1 H H' f f' : Hp} {ρ ρ' : DEnv} {W : WX} {σ σ' : L2.St} {p q : Addr} {d d' k : D} {i : Nat}
theorem StD.freezeAll : ∀ (as : List Addr) {G : Hp}, as.Nodup → (∀ a ∈ as, (∃ o, H a = some o) ∧ G a = none ∧ H0 a = none ∧ ∀ (i : Nat) (e : D), ρ[i]? = some (.ow e) → σ[i]? ≠ some (some (.ref a))) → StD K H0 B G ρ σ H →
    ∃ G', Grow G G' ∧ StD K H0 B G' ρ σ H ∧ (∀ a ∈ as, G' a = H a) ∧ ∀ a, a ∉ as → G' a = G a
  | [], G, _, _, I => ⟨G, Grow.refl G, I, (fun a h => absurd h (by simp)), fun _ _ => rfl⟩
  | a :: as, G, nd, h, I => by
    obtain ⟨n1, n2⟩ := List.nodup_cons.mp nd
    obtain ⟨⟨o, ho⟩, g, h0, nx⟩ := h a (List.mem_cons_self ..)
    obtain ⟨I1, s1⟩ := I.freezeCell ho g h0 nx
    obtain ⟨G2, s2, I2, e1, e2⟩ := StD.freezeAll as n2 (fun b hb => by
      obtain ⟨x, y, z, w⟩ := h b (List.mem_cons_of_mem _ hb)
      exact ⟨x, by rw [upd_ne (fun q => n1 (by rw [← q]; exact hb))]; exact y, z, w⟩) I1
    refine ⟨G2, s1.trans s2, I2, fun b hb => ?_, fun b hb => ?_⟩
    · rcases List.mem_cons.mp hb with rfl | hb
      · rw [e2 _ n1, upd_same, ho]
      · exact e1 b hb
    · rw [e2 b fun z => hb (List.mem_cons_of_mem _ z), upd_ne fun z => hb (by rw [z]; exact List.mem_cons_self ..)]
theorem deep_all : ∀ (es : List (Addr × D)), (∀ e ∈ es, Rep K G (.ref e.1) e.2) → RepAll K G (es.map fun e => V.ref e.1) (es.map (·.2))
  | [], _ => .nil
  | e :: es, h => .cons (h e (List.mem_cons_self ..)) (deep_all es fun x hx => h x (List.mem_cons_of_mem _ hx))
theorem deep_kv : ∀ (es : List (Key × Addr × D)), (∀ e ∈ es, Rep K G (.ref e.2.1) e.2.2) → RepKV K G (es.map fun e => (e.1, V.ref e.2.1)) (es.map fun e => (e.1, e.2.2))
  | [], _ => .nil
  | e :: es, h => .cons (h e (List.mem_cons_self ..)) (deep_kv es fun x hx => h x (List.mem_cons_of_mem _ hx))
theorem St2.leave (I : St2 K H0 B G i d ρ σ H) : ∃ G', Grow G G' ∧ StD K H0 B G' (ρ.set i (.sh d)) σ H := by
  obtain ⟨f, p, I, e0, of, dp⟩ := I
  have J : StD K H0 B G ρ σ H := I.shrink fun a o e => by
    cases q : f a with
    | none => rw [ov_none q]; exact e
    | some u => rw [(of a u q).1] at e; cases e
  have info : ∀ a o, f a = some o → (∃ o, H a = some o) ∧ G a = none ∧ H0 a = none ∧ ∀ (i : Nat) (e : D), ρ[i]? = some (.ow e) → σ[i]? ≠ some (some (.ref a)) := fun a o e => by
    obtain ⟨h1, h2⟩ := I.atCell of e
    refine ⟨⟨o, h1⟩, h2, (of a o e).1, fun j x hx hj => ?_⟩
    obtain ⟨r, e1, _, h3, _⟩ := I.ow hx
    rw [hj] at e1
    cases e1
    rw [ov_some e] at h3
    cases h3
  have pin := I.pinned e0
  have fin : ∀ (as : List Addr) (_ : as.Nodup) (_ : ∀ a ∈ as, ∃ o, f a = some o) (_ : ∀ G', Mono G G' → (∀ a ∈ as, G' a = f a) → Rep K G' (.ref p) d), ∃ G', Grow G G' ∧ StD K H0 B G' (ρ.set i (.sh d)) σ H := fun as nd ha hr => by
    obtain ⟨G', s, I', e1, _⟩ := J.freezeAll as nd fun a h => by obtain ⟨o, ho⟩ := ha a h; exact info a o ho
    have r := hr G' (Mono.of s) fun a h => by
      obtain ⟨o, ho⟩ := ha a h
      rw [e1 a h, ho]
      exact (I.atCell of ho).1
    exact ⟨G', s, I'.reslot (i := i) (s := .sh d) ⟨_, by rw [pin]; rfl, r⟩ fun _ z => nomatch z⟩
  cases d with
  | lst ds =>
    obtain ⟨es, rfl, e2, hc, nd⟩ := dp
    refine fin (p :: es.map (·.1)) nd (fun a ha => ?_) fun G' m hG => ?_
    · rcases List.mem_cons.mp ha with rfl | ha
      · exact ⟨_, e2⟩
      · obtain ⟨e, he, rfl⟩ := List.mem_map.mp ha
        exact (hc e he).there
    · have hr : ∀ e ∈ es, Rep K G' (.ref e.1) e.2 := fun e he => ((hc e he).mono (H' := G') m (hG _ (List.mem_cons_of_mem _ (List.mem_map.mpr ⟨e, he, rfl⟩)))).rep (Mono.refl _)
      refine .lst (.inl (by rw [hG p (List.mem_cons_self ..)]; exact e2)) ?_
      exact deep_all es hr
  | dct kvs =>
    obtain ⟨es, rfl, e2, hc, nd⟩ := dp
    refine fin (p :: es.map (·.2.1)) nd (fun a ha => ?_) fun G' m hG => ?_
    · rcases List.mem_cons.mp ha with rfl | ha
      · exact ⟨_, e2⟩
      · obtain ⟨e, he, rfl⟩ := List.mem_map.mp ha
        exact (hc e he).there
    · have hr : ∀ e ∈ es, Rep K G' (.ref e.2.1) e.2.2 := fun e he => ((hc e he).mono (H' := G') m (hG _ (List.mem_cons_of_mem _ (List.mem_map.mpr ⟨e, he, rfl⟩)))).rep (Mono.refl _)
      refine .dct (.inl (by rw [hG p (List.mem_cons_self ..)]; exact e2)) ?_
      exact deep_kv es hr
  | _ => exact dp.elim
end
/-- leaving: from here on the name holds data that stays -/
def exit3 (i : Nat) (g : SM) : D → DEnv → SR := fun d ρ => g (ρ.set i (.sh d))
open Classical in
noncomputable def enter3 (i : Nat) (f : SM) (F : D → DEnv → SR) : SM := fun ρ => match f ρ with
  | .nx ρ' => if ρ'[i]? = some (.ow (.dct [])) then blk3 i F (.dct []) ρ' else .bad
  | _ => .bad
section
variable {X : Cx} {W : WX} {i : Nat} {st : Stmt} {sts : List Stmt}
theorem ds3_exit {g : SM} (h : DSs X W sts g) : DSs3 X W i sts (exit3 i g) := iSs h fun D σ H ⟨H0, B, G, ρ, d, I, q⟩ => by
  obtain ⟨G', s, J⟩ := I.leave
  exact ⟨H0, B, G', _, J, q⟩
theorem ds3_enter {f : SM} {F : D → DEnv → SR} (h1 : DS X W st f) (h2 : DSs3 X W i sts F) : DSs X W (st :: sts) (enter3 i f F) :=
  iSs (pss_cons h1 h2) fun D σ H ⟨H0, B, G, ρ, I, h⟩ => by
    refine ⟨H0, B, G, ρ, I, ?_⟩
    unfold enter3 at h
    cases q : f ρ with
    | nx ρ1 =>
      rw [q] at h
      by_cases z : ρ1[i]? = some (.ow (.dct []))
      · simp only [if_pos z] at h
        intro σ1 G1 H1 J
        unfold blk3 at h
        by_cases hx : ∃ r, ∀ v, F (.dct []) (ρ1.set i (.sh (.xn v))) = r
        · rw [dif_pos hx] at h
          have hr := Classical.choose_spec hx
          obtain ⟨p, e1, g, h0, c⟩ := J.ow z
          obtain ⟨o, ho⟩ := c.there
          obtain ⟨vs, ev, rv⟩ := c
          cases rv
          -- the slot is forgotten, the cell laid beside, the slot pinned
          have J1 : StD X.K H0 B G1 (ρ1.set i .un) σ1 H1 := J.reslot (s := .un) True.intro (fun _ z => nomatch z)
          have nx : ∀ (j : Nat) (e : DL.D), (ρ1.set i Sl.un)[j]? = some (.ow e) → σ1[j]? ≠ some (some (.ref p)) := fun j e a b => by
            rcases set_get a with ⟨_, z2⟩ | ⟨nj, a⟩
            · cases z2
            · exact nj (J.dj j i e (.dct []) p a z b e1)
          have J2 := J1.adopt ev g h0 nx
          have J3 := J2.reslot (i := i) (s := .sh (.xn (.ref p))) ⟨_, by rw [e1]; rfl, .xn _⟩ (fun _ z => nomatch z)
          rw [List.set_set] at J3
          have li : i < ρ1.length := (List.getElem?_eq_some_iff.mp z).1
          refine ⟨H0, B, G1, ρ1.set i (.sh (.xn (.ref p))), .dct [], ⟨upd (fun _ => none) p (.dK []), p, ?_, List.getElem?_set_self li, ?_, ?_⟩, ?_⟩
          · rw [ov_upd, show ov H0 (fun _ => none) = H0 from rfl]
            exact J3
          · intro a u hu
            by_cases za : a = p
            · subst za; exact ⟨h0, J.bg.free g⟩
            · rw [upd_ne za] at hu; cases hu
          · exact ⟨[], rfl, upd_same, (fun e he => absurd he (by simp)), by simp⟩
          · rw [hr]; exact h
        · rw [dif_neg hx] at h; exact h.elim
      · simp only [if_neg z] at h; exact h.elim
    | rt r ρ1 => rw [q] at h; exact h.elim
    | bk ρ1 => rw [q] at h; exact h.elim
    | ct ρ1 => rw [q] at h; exact h.elim
    | xc c ρ1 => rw [q] at h; exact h.elim
    | bad => rw [q] at h; exact h
end
end DL

/-! DL23: targets that leave a slot alone; entering at a list of fresh lists. -/
namespace DL
open PySem PySem.Spec PyProof.Rows L2
abbrev GOff (i : Nat) (g : GM) : Prop := ∀ x ρ ρ', g x ρ = some ρ' → ρ'[i]? = ρ[i]?
abbrev GsOff (i : Nat) (g : GsM) : Prop := ∀ x ρ ρ', g x ρ = some ρ' → ρ'[i]? = ρ[i]?
theorem goff_nm {i j : Nat} (h : j ≠ i) : GOff i (gNm j) := fun x ρ ρ' e => by
  cases e
  exact List.getElem?_set_ne h
theorem gsoff_nil {i : Nat} : GsOff i gsNil := fun x ρ ρ' e => by
  unfold gsNil at e
  cases x with
  | nil => cases e; rfl
  | cons a b => cases e
theorem gsoff_cons {i : Nat} {g : GM} {gs : GsM} (h : GOff i g) (hs : GsOff i gs) : GsOff i (gsCons g gs) := fun x ρ ρ' e => by
  unfold gsCons at e
  cases x with
  | nil => cases e
  | cons a b =>
    dsimp only at e
    cases q : g a ρ with
    | none => rw [q] at e; cases e
    | some ρ1 =>
      rw [q] at e
      exact (hs b ρ1 ρ' e).trans (h a ρ ρ1 q)
theorem goff_un {i n : Nat} {gs : GsM} (hs : GsOff i gs) : GOff i (gUn n gs) := fun x ρ ρ' e => by
  unfold gUn at e
  cases x with
  | tup es =>
    dsimp only at e
    by_cases z : es.length = n
    · rw [if_pos z] at e; exact hs es ρ ρ' e
    · rw [if_neg z] at e; cases e
  | lst es =>
    dsimp only at e
    by_cases z : es.length = n
    · rw [if_pos z] at e; exact hs es ρ ρ' e
    · rw [if_neg z] at e; cases e
  | _ => cases e
end DL

/-! DL24: try .. except x as e: the class of what was raised. -/
namespace DL
open PySem PySem.Spec PyProof.Rows L2

/-! ### a result that is the same for all values -/
open Classical in
noncomputable def comV {α : Type} (bad : α) (f : V → α) : α := if h : ∃ r, ∀ v, f v = r then choose h else bad
open Classical in
theorem comV_eq {α : Type} {bad r : α} {f : V → α} (h : ∀ v, f v = r) : comV bad f = r := by
  have hx : ∃ r, ∀ v, f v = r := ⟨r, h⟩
  unfold comV
  rw [dif_pos hx]
  exact (Classical.choose_spec hx .non).symm.trans (h .non)
open Classical in
theorem comV_cases {α : Type} {bad : α} {f : V → α} : (∀ v, comV bad f = f v) ∨ comV bad f = bad := by
  by_cases hx : ∃ r, ∀ v, f v = r
  · refine .inl fun v => ?_
    unfold comV
    rw [dif_pos hx]
    exact (Classical.choose_spec hx v).symm
  · refine .inr ?_
    unfold comV
    rw [dif_neg hx]

/-! ### the classes of errors -/
/-- whether the class c stands under the class C -/
def isSub (c C : Str) : Bool := C == ("ValueError" : Str) || (C == ("OddsError" : Str) || c == C)
structure ErrF (K : PySem.W.Frag) (mg : Str → Option Value) (errs : List Str) : Prop where
  root : ∃ O, mg ("OddsError" : Str) = some (.ref O) ∧ ∀ c ∈ errs, ∀ D, mg c = some (.ref D) → PySem.W.exmOne K (.ref D) (.ref O) = some true
  at_ : ∀ c ∈ errs, ∃ D, mg c = some (.ref D) ∧ ExcC K D ∧ PySem.W.kitOne K (.ref D) (.type "ValueError") = some true ∧ ∀ C ∈ errs, ∀ E, mg C = some (.ref E) → PySem.W.kitOne K (.ref D) (.ref E) = some (isSub c C)
/-- the object at a is an error of the class c, and it is pinned -/
structure EPin (Y : Cx) (errs : List Str) (a : Addr) (c : Str) : Prop where
  ex : ∃ (D : Addr) (oe : Obj), (a, oe) ∈ Y.pn ∧ c ∈ errs ∧ Y.mg c = some (.ref D) ∧ Zc (.ref D) none oe ∧ ∃ vs, oe.data = .fields vs

section
variable {Y : Cx} {errs : List Str} {a : Addr} {c : Str}
def rIsE1 (K : PySem.W.Frag) (D a : Addr) : List V → Hp → VK → Prop := fun xs H Q => ∃ (x : V) (u : Value) (b : Bool), xs = [.ref a, x] ∧ ClsV x u ∧ PySem.W.kitOne K (.ref D) u = some b ∧ Q (.bl b) H
def rIsET (K : PySem.W.Frag) (D a : Addr) : List V → Hp → VK → Prop := fun xs H Q => ∃ (tp : Addr) (cs : List V) (us : List Value) (b : Bool), xs = [.ref a, .ref tp] ∧ H tp = some (.tup cs) ∧ Paired ClsV cs us ∧ PySem.W.kitAny K (.ref D) us = some b ∧ Q (.bl b) H
theorem inst_at {pins : List (Addr × Obj)} {σ : L2.St} {H : Hp} {s : Shared} {D : Addr} {oe : Obj} (I : Inv Y pins σ H s) (hp : (a, oe) ∈ Y.pn) (hz : Zc (.ref D) none oe) (hf : ∃ vs, oe.data = .fields vs) : PySem.W.InstAt s.heap a oe D none := by
  have g := (I.pin (a, oe) (List.mem_append_left _ hp)).1
  obtain ⟨vs, hv⟩ := hf
  obtain ⟨oc, od, dt, sl⟩ := oe
  obtain ⟨e1, e2⟩ := hz
  dsimp only at e1 e2 hv
  subst e1 e2 hv
  exact ⟨g, rfl, rfl, trivial⟩
theorem call_isE1 {D : Addr} {oe : Obj} (C : ExcC Y.K D) (hp : (a, oe) ∈ Y.pn) (hz : Zc (.ref D) none oe) (hf : ∃ vs, oe.data = .fields vs) : CallR Y (.builtin "isinstance") (rIsE1 Y.K D a) := fun pins s σ H xs us Q I r h => by
  obtain ⟨x, u, b, rfl, k, e, q⟩ := h
  obtain ⟨u1, u2, rfl, r1, r2⟩ := vals2 r
  cases (show u1 = Value.ref a from r1)
  have eu := k.eq r2
  subst eu
  exact PySem.W.kia_one (PySem.W.handS_kitx_exc C.hg C.hk C.hs C.hd C.ha C.hn C.ht C.hm) I.kIn (inst_at I hp hz hf) e (fun z => nomatch z) fun tk => ⟨.bl b, H, I.tok tk, rfl, q⟩
theorem call_isET {D : Addr} {oe : Obj} (C : ExcC Y.K D) (hp : (a, oe) ∈ Y.pn) (hz : Zc (.ref D) none oe) (hf : ∃ vs, oe.data = .fields vs) : CallR Y (.builtin "isinstance") (rIsET Y.K D a) := fun pins s σ H xs us Q I r h => by
  obtain ⟨tp, cs, ws, b, rfl, hT, k, e, q⟩ := h
  obtain ⟨u1, u2, rfl, r1, r2⟩ := vals2 r
  cases (show u1 = Value.ref a from r1)
  cases (show u2 = Value.ref tp from r2)
  obtain ⟨_, its, rv, o, h1, h2, n, h3⟩ := (show ObjOk Y.prog Y.w H s.heap tp (.tup cs) from I.hok tp _ hT)
  have ei := ClsV.all k rv
  subst ei
  obtain ⟨oc, od, dt, sl⟩ := o
  dsimp only at h2 h3
  subst h2 h3
  exact PySem.W.kia_tup (PySem.W.handS_kitx_exc C.hg C.hk C.hs C.hd C.ha C.hn C.ht C.hm) I.kIn (inst_at I hp hz hf) h1 e (fun z => nomatch z) fun tk => ⟨.bl b, H, I.tok tk, rfl, q⟩
end

/-! ### a class by its name -/
/-- the expression names the class C -/
structure CE (Y : Cx) (errs : List Str) (e : Expr) (C : Str) : Prop where
  ex : ∃ (x : V) (u : Value), PE Y e (tC x) ∧ ClsV x u ∧ ∀ c D, c ∈ errs → Y.mg c = some (.ref D) → PySem.W.kitOne Y.K (.ref D) u = some (isSub c C)
section
variable {Y : Cx} {errs : List Str} {a : Addr} {c : Str} {pos p p2 : Pos}
theorem ce_ve (E : ErrF Y.K Y.mg errs) (hm : Y.mg ("ValueError" : Str) = none) (hg : Gl Y "ValueError" := by rfl) : CE Y errs (.Name "ValueError" pos) "ValueError" :=
  ⟨.ty "ValueError", .type "ValueError", pe_bltn hg hm (by decide +kernel) rfl, .ty _, fun c D hc hD => by
    obtain ⟨D', h1, _, h3, _⟩ := E.at_ c hc
    rw [hD] at h1
    cases h1
    exact h3⟩
theorem ce_own {C : Str} (E : ErrF Y.K Y.mg errs) (hC : C ∈ errs) (hg : Gl Y C := by rfl) (hdb : (C == ("__debug__" : Str)) = false := by decide) : CE Y errs (.Name C pos) C := by
  obtain ⟨F, h1, _⟩ := E.at_ C hC
  exact ⟨.ref F, .ref F, pe_glob hg h1 rfl hdb, .own F, fun c D hc hD => by
    obtain ⟨D', h2, _, _, h5⟩ := E.at_ c hc
    rw [hD] at h2
    cases h2
    exact h5 C hC F h1⟩
/-- several -/
structure CEs (Y : Cx) (errs : List Str) (es : List Expr) (Cs : List Str) : Prop where
  ex : ∃ (xs : List V) (us : List Value), PA Y es (fun σ H Q => Q xs H) ∧ Paired ClsV xs us ∧ xs.length = Cs.length ∧ ∀ c D, c ∈ errs → Y.mg c = some (.ref D) → PySem.W.kitAny Y.K (.ref D) us = some (Cs.any fun C => isSub c C)
theorem ces_nil : CEs Y errs [] [] := ⟨[], [], pa_nil, .nil, rfl, fun _ _ _ _ => rfl⟩
theorem ces_cons {e : Expr} {es : List Expr} {C : Str} {Cs : List Str} (h : CE Y errs e C) (t : CEs Y errs es Cs) (hs : starEach (e :: es) Y.env = (false, eval e Y.env) :: starEach es Y.env := by rfl) : CEs Y errs (e :: es) (C :: Cs) := by
  obtain ⟨x, u, h1, h2, h3⟩ := h.ex
  obtain ⟨xs, us, t1, t2, t3, t4⟩ := t.ex
  refine ⟨x :: xs, u :: us, iA (pa_cons h1 t1 hs) fun σ H Q q => q, .cons h2 t2, by rw [List.length_cons, List.length_cons, t3], fun c D hc hD => ?_⟩
  refine kitAny_cons (h3 c D hc hD) (fun e => ?_) (fun e => ?_)
  · rw [List.any_cons, e, Bool.false_or]; exact t4 c D hc hD
  · rw [List.any_cons, e, Bool.true_or]
open Classical in
/-- isinstance(name, class) for the error that the name holds -/
noncomputable def eIsE (i : Nat) (v : V) (b : Bool) : EM := fun ρ => if ρ[i]? = some (.sh (.xn v)) then .ok (.sh (.bl b)) ρ else .bad
theorem de_isE {W : WX} (i : Nat) {x C : Str} {e2 : Expr} {np : Pos} (E : ErrF Y.K Y.mg errs) (P : EPin Y errs a c) (hC : CE Y errs e2 C) (hg : Gl Y "isinstance") (hm : Y.mg "isinstance" = none) (hN : Y.N[i]? = some x := by rfl)
    (hv : Vis Y.env.scope x := by first | exact Or.inl rfl | exact Or.inr (Or.inl rfl) | exact Or.inr (Or.inr rfl)) (hd : (x == ("__debug__" : Str)) = false := by decide) (hcd : (x == ("__classdict__" : Str)) = false := by decide)
    (hse : starEach [.Name x np, e2] Y.env = (false, eval (.Name x np) Y.env) :: starEach [e2] Y.env := by rfl) (hse2 : starEach [e2] Y.env = (false, eval e2 Y.env) :: starEach [] Y.env := by rfl) (hb : bootBuiltins "isinstance" = some (.builtin "isinstance") := by decide +kernel)
    (hpl : (backTo pos (starEach [e2] Y.env)).any (·.1) = false := by rfl) :
    DE Y W (.Call (.Name "isinstance" p) [.Name x np, e2] [] pos) (eIsE i (.ref a) (isSub c C)) := by
  obtain ⟨D, oe, hp, hc, hmc, hz, hf⟩ := P.ex
  obtain ⟨D', hD, X1, _⟩ := E.at_ c hc
  rw [hmc] at hD
  cases hD
  obtain ⟨y, u, h1, h2, h3⟩ := hC.ex
  refine iE (pe_callB (he := hse) (hpl := hpl) (call_isE1 X1 hp hz hf) hg hm hb (pa_cons (hs := hse) (pv i hN hv hd hcd) (pa_cons (hs := hse2) h1 pa_nil))) fun σ H Q ⟨H0, B, G, ρ, I, h⟩ => ?_
  unfold eIsE at h
  by_cases z : ρ[i]? = some (.sh (.xn (.ref a)))
  · rw [if_pos z] at h
    exact ⟨_, I.pinned z, y, u, _, rfl, h2, h3 c D hc hmc, h _ G H (Grow.refl _) I (.bl _)⟩
  · rw [if_neg z] at h; exact h.elim
theorem de_isET {W : WX} (i : Nat) {x : Str} {Cs : List Str} {es : List Expr} {np : Pos} {j} (E : ErrF Y.K Y.mg errs) (P : EPin Y errs a c) (hC : CEs Y errs es Cs) (hl : Cs.length ≤ 16777216) (hg : Gl Y "isinstance") (hm : Y.mg "isinstance" = none) (hN : Y.N[i]? = some x := by rfl)
    (hv : Vis Y.env.scope x := by first | exact Or.inl rfl | exact Or.inr (Or.inl rfl) | exact Or.inr (Or.inr rfl)) (hd : (x == ("__debug__" : Str)) = false := by decide) (hcd : (x == ("__classdict__" : Str)) = false := by decide)
    (hse : starEach [.Name x np, .Tuple es j p2] Y.env = (false, eval (.Name x np) Y.env) :: starEach [.Tuple es j p2] Y.env := by rfl) (hse2 : starEach [.Tuple es j p2] Y.env = (false, eval (.Tuple es j p2) Y.env) :: starEach [] Y.env := by rfl) (hb : bootBuiltins "isinstance" = some (.builtin "isinstance") := by decide +kernel)
    (hpl : (backTo pos (starEach [.Tuple es j p2] Y.env)).any (·.1) = false := by rfl) :
    DE Y W (.Call (.Name "isinstance" p) [.Name x np, .Tuple es j p2] [] pos) (eIsE i (.ref a) (Cs.any fun C => isSub c C)) := by
  obtain ⟨D, oe, hp, hc, hmc, hz, hf⟩ := P.ex
  obtain ⟨D', hD, X1, _⟩ := E.at_ c hc
  rw [hmc] at hD
  cases hD
  obtain ⟨xs, us, h1, h2, h2l, h3⟩ := hC.ex
  refine iE (pe_callB (he := hse) (hpl := hpl) (call_isET X1 hp hz hf) hg hm hb (pa_cons (hs := hse) (pv i hN hv hd hcd) (pa_cons (hs := hse2) (pe_tup h1) pa_nil))) fun σ H Q ⟨H0, B, G, ρ, I, h⟩ => ?_
  unfold eIsE at h
  by_cases z : ρ[i]? = some (.sh (.xn (.ref a)))
  · rw [if_pos z] at h
    refine ⟨_, I.pinned z, by rw [h2l, sizeLine_eq]; exact hl, fun tp htp => ?_⟩
    exact ⟨tp, xs, us, _, rfl, upd_same, h2, h3 c D hc hmc, h _ G _ (Grow.refl _) (I.alloc htp) (.bl _)⟩
  · rw [if_neg z] at h; exact h.elim
end

/-! ### defs that take such an error -/
/-- what a def promises that is called with the pinned object p -/
structure FnX (P : Program) (w : World) (K : PySem.W.Frag) (mg : Str → Option Value) (base : Heap) (k : Nat) (f : Addr) (fd : FuncData) (ps : List Str) (sp : Addr × Obj → Sp) : Prop where
  len : ∀ p vs H Q E, sp p vs H Q E → vs.length = ps.length
  run : ∀ (A : Around) (outer : List Env) (s : Shared) (H : Hp) (args : Args) (us : List Value) (vs : List V) (Q : VK) (E : XK) (p : Addr × Obj), L2H.RoomH k A → L2H.PinOk outer H s p → Env0 P w K mg base A outer s H → BindsTo s fd args (ps.zip us) → Vals vs us → sp p vs H Q E → codeAny (model P w) A (.call (.ref f) args) (CR (L2.CX P w) outer P w H s Q E) s
def spX (K : PySem.W.Frag) (mg : Str → Option Value) (errs : List Str) (m : Str → FR) : Addr × Obj → Sp := fun p vs H Q E => vs = [.ref p.1] ∧ ∃ c D B, c ∈ errs ∧ mg c = some (.ref D) ∧ Zc (.ref D) none p.2 ∧ (∃ ws, p.2.data = .fields ws) ∧ Grow B H ∧ FPost K mg B H Q E (m c)
section
variable {P : Program} {w : World} {K : PySem.W.Frag} {mg : Str → Option Value} {base : Heap} {k : Nat} {x qual : Str}
theorem FunD.okX' {params : Arguments} {pb : List Stmt} {sco : Scope} {dvs : List V} {kws : List (Str × V)} {f : Addr} {fd : FuncData} {N ps : List Str} {sp : Addr × Obj → Sp} (F : FunD K x qual params pb sco dvs kws f fd) (S : FnScope N ps sco) (len : ∀ p vs H Q E, sp p vs H Q E → vs.length = ps.length)
    (hbody : ∀ (cdv : Value) (A : Around) (outer : List Env) (s : Shared) (H : Hp) (vs : List V) (Q : VK) (E : XK) (p : Addr × Obj), L2H.RoomH k (A.deeper (envOfC qual sco s.heap.objs.size f cdv)) → sp p vs H Q E → ∃ t, PSs (L2H.cxH (L2.CX P w) P w K mg base N qual sco f cdv A outer s H E p) pb t ∧ t { nx := fun _ H' => Q .non H', rt := Q } (L2.start N vs) H) : FnX P w K mg base (k + 1) f fd ps sp := by
  obtain ⟨oc, od, dV, kV, doc, pm, an, cdv, ct, osl, rfl, lk, hcd, _, _⟩ := F.ex
  refine ⟨len, fun A outer s H args us vs Q E p hr pinned e0 bd rv pr => ?_⟩
  have hl := len _ _ _ _ _ pr
  have kin : K.In s.heap := e0.mod.kin.keeps fun b o e => (e0.bs b o e).1
  have nol : s.heap.NoLimit := e0.mod.nolimit.keeps fun b o e => (e0.bs b o e).1
  have kinds : ∀ z ∈ ps.zip us, sco.names.lookup z.1 = some .local ∨ (sco.names.lookup z.1 = some .cell ∧ ((cellsFrom (s.heap.objs.size + 1) sco.names []).lookup z.1).isSome = true) := fun ⟨n, v⟩ hz => (S.par n (List.of_mem_zip hz).1).imp id fun q => ⟨q, PySem.W.cellsFrom_some _ _ _ (.inl q)⟩
  refine codeAny_call_function hr.depth (kin _ _ lk) rfl S.co S.gen rfl (PySem.W.codeRec_of kin hcd) (bd _ _ _ _ (wpAny_newFunctionEnv_cells S.kind kinds fun env he s1 st => ?_))
  subst he
  obtain ⟨t, ht, hq⟩ := hbody cdv A outer s H vs Q E p (hr.deeper _) pr
  refine ⟨nol.keeps st.toInCall.keep, codeAny_func (wpAny_mono (ht.run [] s1 (L2.start N vs) H _ (L2H.inv_startH S pinned e0 hl rv st) hq) (fun fl s' hs => ?_) fun e s' hs => hs)⟩
  cases fl with
  | ret u => obtain ⟨v, σ', H', J, rv', q⟩ := hs; exact ⟨v, H', J.os, J.bare, J.base, J.hok, rv', q⟩
  | next => obtain ⟨σ', H', J, q⟩ := hs; exact ⟨V.non, H', J.os, J.bare, J.base, J.hok, rfl, q⟩
  | brk => obtain ⟨_, _, _, q⟩ := hs; exact False.elim q
  | cont => obtain ⟨_, _, _, q⟩ := hs; exact False.elim q
/-- the def named x takes an error and does m by its class -/
structure CalX (P : Program) (w : World) (K : PySem.W.Frag) (mg : Str → Option Value) (base : Heap) (k : Nat) (errs : List Str) (x : Str) (m : Str → FR) : Prop where
  ex : ∃ (f : Addr) (fd : FuncData) (ps : List Str), FnX P w K mg base k f fd ps (spX K mg errs m) ∧ mg x = some (.ref f) ∧ PySem.W.keepIn K (.ref f) = true ∧ Binds K fd ps []
noncomputable def runX (L : Nat) (body : V → Str → SM) (c : Str) : FR := comV .bad fun v => fin (body v c (.sh (.xn v) :: List.replicate (L - 1) .un))
theorem calx_ok {errs : List Str} {st : Stmt} {N : List Str} {y : Str} {L : Nat} {body : V → Str → SM} (S : Std K mg x st [y]) (sc : FnScope N [y] (defScope st)) (hb : ∀ (f : Addr) (cdv : Value) (A : Around) (outer : List Env) (s : Shared) (H : Hp) (E : XK) (p : Addr × Obj) (c : Str), L2H.RoomH k (A.deeper (envOfC x (defScope st) s.heap.objs.size f cdv)) →
      EPin (L2H.cxH (L2.CX P w) P w K mg base N x (defScope st) f cdv A outer s H E p) errs p.1 c → DSs (L2H.cxH (L2.CX P w) P w K mg base N x (defScope st) f cdv A outer s H E p) (fun cls d _ H => E cls d H) (defBody st) (body (.ref p.1) c)) (hL : N.length = L := by rfl) : CalX P w K mg base (k + 1) errs x (runX L body) := by
  subst hL
  obtain ⟨f, fd, F, hm⟩ := S.ex
  refine ⟨f, fd, [y], ?_, hm, F.kp, F.bindsN S.b⟩
  refine FunD.okX' F sc (fun p vs H Q E h => by rw [h.1]; rfl) fun cdv A outer s H vs Q E p hr hsp => ?_
  obtain ⟨rfl, c, D, B, hc, hD, hz, hf, gr, fp⟩ := hsp
  refine ⟨_, hb f cdv A outer s H E p c hr ⟨D, p.2, by show p ∈ [p]; simp, hc, hD, hz, hf⟩, H, B, B, _, StD.entry (N := N) gr (.cons (.xn _) .nil), ?_⟩
  have aft : ∀ {G' : Hp} {ρ' : DEnv} {σ' : L2.St} {H' : Hp}, StD K H B G' ρ' σ' H' → Aft B H G' H' := fun I => ⟨I.h0, I.bg, I.gh, I.nb⟩
  have fp : FPost K mg B H Q E (fin (body (.ref p.1) c (.sh (.xn (.ref p.1)) :: List.replicate (N.length - 1) .un))) := by
    unfold runX at fp
    rcases comV_cases (bad := FR.bad) (f := fun v => fin (body v c (.sh (.xn v) :: List.replicate (N.length - 1) .un))) with h | h
    · rw [h (.ref p.1)] at fp; exact fp
    · rw [h] at fp; exact fp.elim
  show SPost K mg H B _ _ (body (.ref p.1) c (.sh (.xn (.ref p.1)) :: List.replicate (N.length - 1) Sl.un))
  cases q : body (.ref p.1) c (.sh (.xn (.ref p.1)) :: List.replicate (N.length - 1) Sl.un) with
  | nx ρ' => rw [q] at fp; exact fun σ' G' H' I => fp _ G' H' (aft I) .non
  | rt r ρ' =>
    rw [q] at fp
    intro v σ' G' H' I x
    cases r with
    | sh d => exact fp v G' H' (aft I) x
    | ow d => obtain ⟨p, rfl, g, h0, _, c⟩ := x; exact fp p G' H' (aft I) g h0 c
    | al i =>
      dsimp only [fin] at fp
      have x' : σ'[i]? = some (some v) := x
      cases q2 : ρ'[i]? with
      | none => simp only [q2] at fp; exact fp.elim
      | some sl =>
        simp only [q2] at fp
        cases sl with
        | un => exact fp.elim
        | sh d =>
          obtain ⟨v2, e1, rp⟩ := I.sh q2
          rw [x'] at e1
          cases e1
          exact fp v G' H' (aft I) rp
        | ow d =>
          obtain ⟨p, e1, g, h0, c⟩ := I.ow q2
          rw [x'] at e1
          cases e1
          exact fp p G' H' (aft I) g h0 c
  | bk ρ' => rw [q] at fp; exact fp.elim
  | ct ρ' => rw [q] at fp; exact fp.elim
  | xc c ρ' => rw [q] at fp; exact fun cls σ' G' H' I e => fp cls G' H' (aft I) e
  | bad => rw [q] at fp; exact fp
end
/-- a result that is no error -/
def FR.calm : FR → FR
  | .xc _ => .bad
  | r => r
open Classical in
noncomputable def eCalX (i : Nat) (v : V) (r : FR) : EM := fun ρ => if ρ[i]? = some (.sh (.xn v)) then r.calm.er ρ else .bad
section
variable {Y : Cx} {errs : List Str} {a : Addr} {c : Str} {pos p : Pos}
theorem de_calX {W : WX} {k j : Nat} (i : Nat) {x y : Str} {m : Str → FR} {np : Pos} (P : EPin Y errs a c) (C : CalX Y.prog Y.w Y.K Y.mg Y.base j errs y m) (hr : L2H.RoomH k Y.A) (hj : j ≤ k := by decide) (hg : Gl Y y := by rfl) (hN : Y.N[i]? = some x := by rfl)
    (hv : Vis Y.env.scope x := by first | exact Or.inl rfl | exact Or.inr (Or.inl rfl) | exact Or.inr (Or.inr rfl)) (hd : (x == ("__debug__" : Str)) = false := by decide) (hcd : (x == ("__classdict__" : Str)) = false := by decide)
    (hdb : (y == ("__debug__" : Str)) = false := by decide) (he : starEach [.Name x np] Y.env = (false, eval (.Name x np) Y.env) :: starEach [] Y.env := by rfl) (hpl : (backTo pos (starEach [] Y.env)).any (·.1) = false := by rfl) :
    DE Y W (.Call (.Name y p) [.Name x np] [] pos) (eCalX i (.ref a) (m c)) := by
  obtain ⟨D, oe, hp, hc, hmc, hz, hf⟩ := P.ex
  obtain ⟨f, fd, ps, F, hmf, hk, hb⟩ := C.ex
  refine ⟨fun pins s σ H Q I h => ?_⟩
  obtain ⟨H0, B, G, ρ, S, h⟩ := h
  unfold eCalX at h
  by_cases z : ρ[i]? = some (.sh (.xn (.ref a)))
  · rw [if_pos z] at h
    refine wpAny_Call_Name_kw (ld_glob I hg hmf ?_ hdb)
    have ar : PA Y [.Name x np] (fun σ H Q => ∃ v, σ[i]? = some (some v) ∧ Q [v] H) := iA (pa_cons (hs := he) (pv i hN hv hd hcd) pa_nil) fun σ H Q q => q
    refine PySem.W.callWith_K (h₀ := Y.base) I.ok.mod.kin hk (thn (ar.run pos pins s σ H (fun vs H1 => vs = [.ref a] ∧ H1 = H) I ⟨_, S.pinned z, rfl, rfl⟩) fun us s1 ⟨vs, H1, I1, rv, e1, e2⟩ => ⟨I1.kIn, ?_⟩) he hpl
    subst e1 e2
    have P1 := I1.pin (a, oe) (List.mem_append_left _ hp)
    have pk : L2H.PinOk Y.stack H1 s1 (a, oe) := ⟨P1.1, P1.2.1, fun hm => (List.mem_cons.mp (I1.stkSub a hm)).elim P1.2.2.1 P1.2.2.2.1, P1.2.2.2.2⟩
    have pr : spX Y.K Y.mg errs m (a, oe) [.ref a] H1 Q (fun _ _ _ => False) := by
      refine ⟨rfl, c, D, G, hc, hmc, hz, hf, S.gh, ?_⟩
      cases q : m c with
      | sh d => rw [q] at h; exact fun v G' H' A r => h v G' H' A.bg (S.after A) r
      | ow d =>
        rw [q] at h
        exact fun p G' H' A g n cl => h _ G' H' A.bg (S.after A) ⟨p, rfl, g, S.h0.free n, fun i e x y => (S.notown n) i e x y, cl⟩
      | xc c => rw [q] at h; exact h.elim
      | bad => rw [q] at h; exact h
    have hlen : us.length = ps.length := by rw [← rv.length]; exact F.len _ _ _ _ _ pr
    have bd := hb s1 us I1.kIn (by rw [List.append_nil]; exact hlen)
    rw [List.append_nil] at bd
    refine wpAny_call (codeAny_mono (F.run Y.A Y.stack s1 H1 ⟨us, []⟩ us [.ref a] Q (fun _ _ _ => False) (a, oe) (hr.mono hj) pk I1.env0 bd rv pr) fun r s' hq => ?_)
    cases r with
    | error e =>
      obtain ⟨_, _, _, _, _, _, _, _, _, _, _, _, zz⟩ := (show L2.CX Y.prog Y.w Y.stack H1 s1 (fun _ _ _ => False) e s' from hq)
      exact zz.elim
    | ok fl =>
      cases fl with
      | ret u => exact I1.after hq
      | next => exact False.elim hq
      | brk => exact False.elim hq
      | cont => exact False.elim hq
  · rw [if_neg z] at h; exact h.elim
end

/-! ### try -/
/-- behind the suite the name holds nothing -/
def clnS (i : Nat) : SR → SR
  | .nx ρ => .nx (ρ.set i .un)
  | .rt r ρ => .rt r (ρ.set i .un)
  | .bk ρ => .bk (ρ.set i .un)
  | .ct ρ => .ct (ρ.set i .un)
  | .xc _ _ => .bad
  | .bad => .bad
open Classical in
noncomputable def sTry (errs : List Str) (i : Nat) (f : SM) (h : V → Str → SM) : SM := fun ρ => match f ρ with
  | .xc c ρ1 => if c ∈ errs then comV .bad fun v => clnS i (h v c (ρ1.set i (.sh (.xn v)))) else .bad
  | r => r
section
variable {K : PySem.W.Frag} {mg : Str → Option Value} {H0 B G H : Hp} {ρ : DEnv} {σ : L2.St} {i : Nat}
theorem StD.gone (I : StD K H0 B G ρ σ H) (i : Nat) : StD K H0 B G (ρ.set i .un) (σ.set i none) H :=
  I.wiped (vs := [i]) (List.length_set ..) fun j hj => List.getElem?_set_ne fun z => hj (by rw [z]; simp)
theorem clnS_go {W : WX} {D : Ends} {x : SR} (h : SPost K mg H0 B W D (clnS i x)) : SPost K mg H0 B WF { nx := fun σ' H' => D.nx (σ'.set i none) H', rt := D.rt, bk := fun σ' H' => D.bk (σ'.set i none) H', ct := fun σ' H' => D.ct (σ'.set i none) H' } x := by
  cases x with
  | nx ρ' => exact fun σ' G' H' I => h _ G' H' (I.gone i)
  | bk ρ' => exact fun σ' G' H' I => h _ G' H' (I.gone i)
  | ct ρ' => exact fun σ' G' H' I => h _ G' H' (I.gone i)
  | rt r ρ' =>
    intro v σ' G' H' I x
    refine h v σ' G' H' (I.reslot (s := .un) True.intro fun _ z => nomatch z) ?_
    cases r with
    | sh d => exact x
    | al j => exact x
    | ow d =>
      obtain ⟨p, e, g, h0, nx, c⟩ := x
      refine ⟨p, e, g, h0, fun j e a => ?_, c⟩
      rcases set_get a with ⟨_, z⟩ | ⟨_, a⟩
      · cases z
      · exact nx j e a
  | xc c ρ' => exact h.elim
  | bad => exact h
end
section
variable {X : Cx} {W : WX} {body suite : List Stmt} {b0 : Stmt} {np pos pos' : Pos}
theorem ds_try (errs : List Str) (i : Nat) {n : Str} {fb : SM} {fh : V → Str → SM} (E : ErrF X.K X.mg errs) (tk : Takes X W) (hN : X.N.Nodup)
    (hb : ∀ (W : WX) (pn : List (Addr × Obj)) (xe : Value → Shared → Prop), Takes (X.tr pn xe) W → PassesOwn (model X.prog X.w) X.A X.env xe → DSs (X.tr pn xe) W body fb)
    (hsu : ∀ (a : Addr) (oe : Obj) (c : Str) (pn : List (Addr × Obj)), EPin (X.suite a ((a, oe) :: pn)) errs a c → DSs (X.suite a ((a, oe) :: pn)) WF (b0 :: suite) (fh (.ref a) c))
    (hi : X.N[i]? = some n := by rfl) (hln : X.env.kindOf n = some .local := by rfl) (hs : X.stack = X.env :: X.outer := by rfl) (hf : X.env.frame = some X.env.locals := by rfl) (hg : Gl X "OddsError" := by rfl) :
    DS X W (.Try body [.ExceptHandler (some (.Name "OddsError" np)) (some n) (b0 :: suite) pos'] [] [] pos) (sTry errs i fb fh) := by
  obtain ⟨O, hO, hsub⟩ := E.root
  refine iS (ps_try_as (x := "OddsError") (c := .ref O) (i := i) (tb := fun W => cS X.K X.mg W fb) (Wout := W) (ts := fun a cls d D σ H => ∃ c Dc, c ∈ errs ∧ X.mg c = some (.ref Dc) ∧ cls = .ref Dc ∧ d = none ∧ cS X.K X.mg WF (fh (.ref a) c) D σ H)
    hs hf hN hi hln ⟨hg, by decide, .inl hO⟩ tk hb fun a oe cls d pn hz hfl => ⟨fun pins s σ H D I h => ?_⟩) fun D σ H ⟨H0, B, G, ρ, I, h⟩ => ?_
  · obtain ⟨c, Dc, hc, hD, rfl, rfl, q⟩ := h
    exact (hsu a oe c pn ⟨Dc, oe, List.mem_cons_self .., hc, hD, hz, hfl⟩).run pins s σ H D I q
  · refine ⟨H0, B, G, ρ, I, ?_⟩
    unfold sTry at h
    cases q : fb ρ with
    | nx ρ' => rw [q] at h; exact h
    | rt r ρ' => rw [q] at h; exact h
    | bk ρ' => rw [q] at h; exact h
    | ct ρ' => rw [q] at h; exact h
    | bad => rw [q] at h; exact h
    | xc c ρ1 =>
      simp only [q] at h
      by_cases hc : c ∈ errs
      · rw [if_pos hc] at h
        intro cls σ' G' H' J hcls
        obtain ⟨Dc, hD, _⟩ := E.at_ c hc
        rw [hD] at hcls
        cases hcls
        refine ⟨true, hsub c hc Dc hD, fun _ a ha => ⟨c, Dc, hc, hD, rfl, rfl, H0, B, G', _, J.setS i (v := .ref a) (s := .sh (.xn (.ref a))) ⟨_, rfl, .xn _⟩ (fun _ z => nomatch z), ?_⟩, fun z => nomatch z⟩
        rcases comV_cases (bad := SR.bad) (f := fun v => clnS i (fh v c (ρ1.set i (.sh (.xn v))))) with z | z
        · rw [z (.ref a)] at h
          exact clnS_go h
        · rw [z] at h; exact h.elim
      · rw [if_neg hc] at h; exact h.elim
end
end DL

/-! DL25: own things lent: an expression reads them, what it gives holds none of them. -/
namespace DL
open PySem PySem.Spec PyProof.Rows L2

/-! ### data in which nothing may change -/
mutual
def immD : D → Bool
  | .non => true
  | .bl _ => true
  | .int _ => true
  | .str _ => true
  | .tup ds => immDs ds
  | _ => false
def immDs : List D → Bool
  | [] => true
  | d :: ds => immD d && immDs ds
end
def immKV : List (Key × D) → Bool
  | [] => true
  | kv :: r => immD kv.2 && immKV r
theorem immDs_all : ∀ ds : List D, (∀ d ∈ ds, immD d = true) → immDs ds = true
  | [], _ => rfl
  | d :: ds, h => by
    show (immD d && immDs ds) = true
    rw [h d (List.mem_cons_self ..), immDs_all ds fun x hx => h x (List.mem_cons_of_mem _ hx)]
    rfl
/-- a result that holds nothing lent -/
def okR : R → Bool
  | .sh d => immD d
  | .ow (.lst ds) => immDs ds
  | .ow (.dct kvs) => immKV kvs
  | _ => false
def shS : Sl → Sl
  | .ow d => .sh d
  | s => s
def shAll (ρ : DEnv) : DEnv := ρ.map shS
def TupAt (G : Hp) (b : Addr) : Prop := ∃ o xs, G b = some (.frz o (.tup xs))
section
variable {K : PySem.W.Frag} {G G2 : Hp}
mutual
theorem imm_rep (h : ∀ b, TupAt G b → G2 b = G b) : ∀ {v : V} {d : D}, Rep K G v d → immD d = true → Rep K G2 v d
  | _, _, .non, _ => .non
  | _, _, .bl b, _ => .bl b
  | _, _, .int b, _ => .int b
  | _, _, .str b, _ => .str b
  | _, _, .tup g r, i => by
    refine .tup ?_ (imm_reps h r i)
    rcases g with ⟨o, g, p⟩ | g
    · exact .inl ⟨o, by rw [h _ ⟨o, _, g⟩]; exact g, p⟩
    · exact .inr g
  | _, _, .lst _ _, i => nomatch i
  | _, _, .scr _, i => nomatch i
  | _, _, .dct _ _, i => nomatch i
  | _, _, .xn _, i => nomatch i
theorem imm_reps (h : ∀ b, TupAt G b → G2 b = G b) : ∀ {vs : List V} {ds : List D}, RepAll K G vs ds → immDs ds = true → RepAll K G2 vs ds
  | _, _, .nil, _ => .nil
  | _, _, @RepAll.cons _ _ v vs d ds r t, i => by
    have i : (immD d && immDs ds) = true := i
    rw [Bool.and_eq_true] at i
    exact .cons (imm_rep h r i.1) (imm_reps h t i.2)
end
theorem imm_kv (h : ∀ b, TupAt G b → G2 b = G b) : ∀ {vs : List (Key × V)} {ds : List (Key × D)}, RepKV K G vs ds → immKV ds = true → RepKV K G2 vs ds
  | _, _, .nil, _ => .nil
  | _, _, @RepKV.cons _ _ k v vs d ds r t, i => by
    have i : (immD d && immKV ds) = true := i
    rw [Bool.and_eq_true] at i
    exact .cons (imm_rep h r i.1) (imm_kv h t i.2)
end

/-! ### locking several -/
section
variable {X : Cx} {pins : List (Addr × Obj)} {σ : L2.St} {H : Hp} {s : Shared}
theorem lockMany (I : Inv X pins σ H s) : ∀ as : List Addr, (∀ a ∈ as, ∃ u, H a = some u ∧ Mut (some u)) → ∃ H1, Inv X pins σ H1 s ∧ (∀ a ∈ as, ∃ od u, H a = some u ∧ H1 a = some (.frz od u)) ∧ ∀ b, b ∉ as → H1 b = H b
  | [], _ => ⟨H, I, fun _ h => (by simp at h), fun _ _ => rfl⟩
  | a :: r, h => by
    obtain ⟨H1, I1, h1, h2⟩ := lockMany I r fun b hb => h b (List.mem_cons_of_mem _ hb)
    by_cases m : a ∈ r
    · refine ⟨H1, I1, fun b hb => ?_, fun b hb => h2 b fun z => hb (List.mem_cons_of_mem _ z)⟩
      rcases List.mem_cons.mp hb with rfl | hb
      · exact h1 _ m
      · exact h1 b hb
    · obtain ⟨u, hu, mu⟩ := h a (List.mem_cons_self ..)
      obtain ⟨od, I2⟩ := I1.lock (by rw [h2 a m]; exact hu) mu
      refine ⟨_, I2, fun b hb => ?_, fun b hb => ?_⟩
      · by_cases e : b = a
        · subst e; exact ⟨od, u, hu, upd_same⟩
        · rcases List.mem_cons.mp hb with z | hb
          · exact absurd z e
          · rw [upd_ne e]; exact h1 b hb
      · rw [upd_ne fun z => hb (by rw [z]; exact List.mem_cons_self ..)]
        exact h2 b fun z => hb (List.mem_cons_of_mem _ z)
open Classical in
noncomputable def unl (as : List Addr) (H H' : Hp) : Hp := fun b => if b ∈ as then H b else H' b
theorem unl_in {as : List Addr} {H H' : Hp} {b : Addr} (h : b ∈ as) : unl as H H' b = H b := if_pos h
theorem unl_out {as : List Addr} {H H' : Hp} {b : Addr} (h : b ∉ as) : unl as H H' b = H' b := if_neg h
theorem unlockMany {H' : Hp} {s' : Shared} (I' : Inv X pins σ H' s') (hn : ∀ a u, H a = some u → Mut (some u) → ∀ o w, X.H_0 a ≠ some (.frz o w)) : ∀ as : List Addr, (∀ a ∈ as, ∃ od u, H a = some u ∧ Mut (some u) ∧ H' a = some (.frz od u)) → Inv X pins σ (unl as H H') s'
  | [], _ => by
    have : unl [] H H' = H' := funext fun b => unl_out (by simp)
    rw [this]
    exact I'
  | a :: r, h => by
    have I1 := unlockMany I' hn r fun b hb => h b (List.mem_cons_of_mem _ hb)
    obtain ⟨od, u, hu, mu, h1⟩ := h a (List.mem_cons_self ..)
    by_cases m : a ∈ r
    · have : unl (a :: r) H H' = unl r H H' := funext fun b => by
        by_cases z : b ∈ r
        · rw [unl_in z, unl_in (List.mem_cons_of_mem _ z)]
        · have : b ∉ a :: r := fun q => by
            rcases List.mem_cons.mp q with rfl | q
            · exact z m
            · exact z q
          rw [unl_out z, unl_out this]
      rw [this]
      exact I1
    · have I2 := I1.unlock (d := a) (od := od) (u := u) (by rw [unl_out m]; exact h1) (hn a u hu mu)
      have : unl (a :: r) H H' = upd (unl r H H') a u := funext fun b => by
        by_cases e : b = a
        · subst e; rw [upd_same, unl_in (List.mem_cons_self ..)]; exact hu
        · rw [upd_ne e]
          by_cases z : b ∈ r
          · rw [unl_in z, unl_in (List.mem_cons_of_mem _ z)]
          · rw [unl_out z, unl_out fun q => (List.mem_cons.mp q).elim e z]
      rw [this]
      exact I2
end

/-! ### lending all own things -/
section
variable {K : PySem.W.Frag} {H0 B G H : Hp} {ρ : DEnv} {σ : L2.St}
/-- where the own things stand -/
def ownA1 : Option Sl → Option (Option V) → Option Addr
  | some (.ow _), some (some (.ref p)) => some p
  | _, _ => none
theorem ownA1_some {x : Option Sl} {y : Option (Option V)} {p : Addr} (h : ownA1 x y = some p) : ∃ d, x = some (Sl.ow d) ∧ y = some (some (V.ref p)) := by
  unfold ownA1 at h
  split at h
  · rename_i d q
    cases h
    exact ⟨d, rfl, rfl⟩
  · cases h
def ownAs (ρ : DEnv) (σ : L2.St) : List Addr := (List.range ρ.length).filterMap fun i => ownA1 ρ[i]? σ[i]?
theorem mem_ownAs {a : Addr} : a ∈ ownAs ρ σ ↔ ∃ (i : Nat) (d : D), ρ[i]? = some (Sl.ow d) ∧ σ[i]? = some (some (V.ref a)) := by
  unfold ownAs
  rw [List.mem_filterMap]
  constructor
  · rintro ⟨i, _, h⟩
    obtain ⟨d, e1, e2⟩ := ownA1_some h
    exact ⟨i, d, e1, e2⟩
  · rintro ⟨i, d, e1, e2⟩
    refine ⟨i, List.mem_range.mpr (List.getElem?_eq_some_iff.mp e1).1, ?_⟩
    rw [e1, e2]
    rfl
theorem StD.own_at (I : StD K H0 B G ρ σ H) {a : Addr} (h : a ∈ ownAs ρ σ) : G a = none ∧ H0 a = none ∧ ∃ u, H a = some u ∧ Mut (some u) ∧ ∀ o xs, u ≠ .frz o (.tup xs) := by
  obtain ⟨i, d, e1, e2⟩ := mem_ownAs.mp h
  obtain ⟨p, e3, g, h0, c⟩ := I.ow e1
  rw [e2] at e3
  cases e3
  refine ⟨g, h0, ?_⟩
  cases d with
  | lst ds => obtain ⟨vs, e, _⟩ := c; exact ⟨_, e, trivial, fun _ _ z => nomatch z⟩
  | dct ds => obtain ⟨vs, e, _⟩ := c; exact ⟨_, e, trivial, fun _ _ z => nomatch z⟩
  | _ => exact c.elim
theorem shAll_get {i : Nat} {s : Sl} (h : (shAll ρ)[i]? = some s) : ∃ s0, ρ[i]? = some s0 ∧ s = shS s0 := by
  unfold shAll at h
  rw [List.getElem?_map] at h
  cases q : ρ[i]? with
  | none => rw [q] at h; cases h
  | some s0 => rw [q] at h; cases h; exact ⟨s0, rfl, rfl⟩
theorem shAll_ow {i : Nat} {d : D} : (shAll ρ)[i]? ≠ some (.ow d) := fun h => by
  obtain ⟨s0, _, e⟩ := shAll_get h
  cases s0 <;> cases e
theorem lend (I : StD K H0 B G ρ σ H) {H1 : Hp} (h1 : ∀ a ∈ ownAs ρ σ, ∃ od u, H a = some u ∧ H1 a = some (.frz od u)) (h2 : ∀ b, b ∉ ownAs ρ σ → H1 b = H b) : StD K H0 B (unl (ownAs ρ σ) H1 G) (shAll ρ) σ H1 := by
  have out : ∀ {b : Addr} {o : HO}, G b = some o → b ∉ ownAs ρ σ := fun e m => by rw [(I.own_at m).1] at e; cases e
  have gg : Grow G (unl (ownAs ρ σ) H1 G) := ⟨fun a u _ r => by
    have : a ∉ ownAs ρ σ := by rcases r with r | ⟨_, r⟩ <;> exact out r
    unfold Rd
    rw [unl_out this]
    exact r, fun a o u e => by rw [unl_out (out e)]; exact e⟩
  refine ⟨⟨fun a u pl r => ?_, fun a o u e => ?_⟩, ⟨⟨fun a u pl r => ?_, fun a o u e => ?_⟩, fun a o e n => ?_⟩, I.bg.trans gg, fun a o e n => ?_, by unfold shAll; rw [List.length_map]; exact I.len, fun i s e => ?_, fun i j d e p a _ _ _ => (shAll_ow a).elim⟩
  · by_cases m : a ∈ ownAs ρ σ
    · unfold Rd at r; rw [unl_in m] at r; exact r
    · unfold Rd at r; rw [unl_out m] at r
      have := I.gh.rd a u pl r
      unfold Rd
      rw [h2 a m]
      exact this
  · by_cases m : a ∈ ownAs ρ σ
    · rw [unl_in m] at e; exact e
    · rw [unl_out m] at e; rw [h2 a m]; exact I.gh.fr a o u e
  · have m : a ∉ ownAs ρ σ := fun m => by rcases r with r | ⟨_, r⟩ <;> (rw [(I.own_at m).2.1] at r; cases r)
    have := I.h0.m.rd a u pl r
    unfold Rd
    rw [h2 a m]
    exact this
  · have m : a ∉ ownAs ρ σ := fun m => by rw [(I.own_at m).2.1] at e; cases e
    rw [h2 a m]
    exact I.h0.m.fr a o u e
  · have m : a ∉ ownAs ρ σ := fun m => by rw [(I.own_at m).2.1] at e; cases e
    rw [h2 a m]
    exact I.h0.own a o e n
  · by_cases m : a ∈ ownAs ρ σ
    · exact (I.own_at m).2.1
    · rw [unl_out m] at e; exact I.nb a o e n
  · obtain ⟨s0, e0, rfl⟩ := shAll_get e
    have x := I.sl i s0 e0
    cases s0 with
    | un => trivial
    | sh d => obtain ⟨v, e1, r⟩ := x; exact ⟨v, e1, r.mono (Mono.of gg)⟩
    | ow d =>
      obtain ⟨p, e1, g, h0, c⟩ := x
      have m : p ∈ ownAs ρ σ := mem_ownAs.mpr ⟨i, d, e0, join_some e1⟩
      obtain ⟨od, u, hu, hl⟩ := h1 p m
      refine ⟨_, e1, ?_⟩
      cases d with
      | lst ds =>
        obtain ⟨vs, e, r⟩ := c
        rw [hu] at e
        cases e
        exact .lst (.inr ⟨od, by rw [unl_in m]; exact hl⟩) (r.mono (Mono.of gg))
      | dct ds =>
        obtain ⟨vs, e, r⟩ := c
        rw [hu] at e
        cases e
        exact .dct (.inr ⟨od, by rw [unl_in m]; exact hl⟩) (r.mono (Mono.of gg))
      | _ => exact c.elim
open Classical in
noncomputable def keepT (G G' : Hp) : Hp := fun b => if TupAt G' b then G' b else G b
theorem keepT_in {G G' : Hp} {b : Addr} (h : TupAt G' b) : keepT G G' b = G' b := if_pos h
theorem keepT_out {G G' : Hp} {b : Addr} (h : ¬ TupAt G' b) : keepT G G' b = G b := if_neg h
/-- .. and having them back -/
theorem giveBack (I : StD K H0 B G ρ σ H) {H1 G' H' : Hp} (h1 : ∀ a ∈ ownAs ρ σ, ∃ od u, H a = some u ∧ H1 a = some (.frz od u)) (gr : Grow (unl (ownAs ρ σ) H1 G) G') (J : StD K H0 B G' (shAll ρ) σ H') :
    (∀ a ∈ ownAs ρ σ, ∃ od u, H a = some u ∧ Mut (some u) ∧ H' a = some (.frz od u)) ∧ Grow G (keepT G G') ∧ StD K H0 B (keepT G G') ρ σ (unl (ownAs ρ σ) H H') ∧ (∀ b, TupAt G' b → keepT G G' b = G' b) ∧
      ∀ p, G' p = none → keepT G G' p = none ∧ unl (ownAs ρ σ) H H' p = H' p ∧ ∀ (i : Nat) (e : D), ρ[i]? = some (.ow e) → σ[i]? ≠ some (some (.ref p)) := by
  have out : ∀ {b : Addr} {o : HO}, G b = some o → b ∉ ownAs ρ σ := fun e m => by rw [(I.own_at m).1] at e; cases e
  have lk : ∀ a ∈ ownAs ρ σ, ∃ od u, H a = some u ∧ Mut (some u) ∧ G' a = some (.frz od u) ∧ H' a = some (.frz od u) ∧ ¬ TupAt G' a := fun a m => by
    obtain ⟨od, u, hu, hl⟩ := h1 a m
    obtain ⟨_, _, u', hu', mu, nt⟩ := I.own_at m
    rw [hu] at hu'
    cases hu'
    have g' := gr.fr a od u (by rw [unl_in m]; exact hl)
    refine ⟨od, u, hu, mu, g', J.gh.fr a od u g', fun ⟨o, xs, z⟩ => ?_⟩
    rw [g'] at z
    cases z
    exact mu
  have gg' : Grow G G' := by
    refine Grow.trans ⟨fun a u _ r => ?_, fun a o u e => ?_⟩ gr
    · have : a ∉ ownAs ρ σ := by rcases r with r | ⟨_, r⟩ <;> exact out r
      unfold Rd
      rw [unl_out this]
      exact r
    · rw [unl_out (out e)]; exact e
  have tin : ∀ {b : Addr}, TupAt G' b → b ∉ ownAs ρ σ := fun t m => by obtain ⟨_, _, _, _, _, _, n⟩ := lk _ m; exact n t
  have gk : Grow G (keepT G G') := ⟨fun a u pl r => by
    by_cases t : TupAt G' a
    · have := gg'.rd a u pl r
      unfold Rd
      rw [keepT_in t]
      exact this
    · unfold Rd
      rw [keepT_out t]
      exact r, fun a o u e => by
    by_cases t : TupAt G' a
    · rw [keepT_in t]; exact gg'.fr a o u e
    · rw [keepT_out t]; exact e⟩
  refine ⟨fun a m => ?_, gk, ⟨⟨fun a u pl r => ?_, fun a o u e => ?_⟩, ⟨⟨fun a u pl r => ?_, fun a o u e => ?_⟩, fun a o e n => ?_⟩, I.bg.trans gk, fun a o e n => ?_, I.len, fun i s e => ?_, I.dj⟩, fun b t => keepT_in t, fun p n => ⟨?_, ?_, fun i e a b => ?_⟩⟩
  · obtain ⟨od, u, hu, mu, _, hh, _⟩ := lk a m
    exact ⟨od, u, hu, mu, hh⟩
  · by_cases t : TupAt G' a
    · unfold Rd at r ⊢
      rw [keepT_in t] at r
      rw [unl_out (tin t)]
      exact J.gh.rd a u pl r
    · unfold Rd at r
      rw [keepT_out t] at r
      have m : a ∉ ownAs ρ σ := by rcases r with r | ⟨_, r⟩ <;> exact out r
      unfold Rd
      rw [unl_out m]
      exact J.gh.rd a u pl (gg'.rd a u pl r)
  · by_cases t : TupAt G' a
    · rw [keepT_in t] at e
      rw [unl_out (tin t)]
      exact J.gh.fr a o u e
    · rw [keepT_out t] at e
      rw [unl_out (out e)]
      exact J.gh.fr a o u (gg'.fr a o u e)
  · have m : a ∉ ownAs ρ σ := fun m => by rcases r with r | ⟨_, r⟩ <;> (rw [(I.own_at m).2.1] at r; cases r)
    unfold Rd
    rw [unl_out m]
    exact J.h0.m.rd a u pl r
  · have m : a ∉ ownAs ρ σ := fun m => by rw [(I.own_at m).2.1] at e; cases e
    rw [unl_out m]
    exact J.h0.m.fr a o u e
  · have m : a ∉ ownAs ρ σ := fun m => by rw [(I.own_at m).2.1] at e; cases e
    rw [unl_out m]
    exact J.h0.own a o e n
  · by_cases t : TupAt G' a
    · rw [keepT_in t] at e; exact J.nb a o e n
    · rw [keepT_out t] at e; exact I.nb a o e n
  · have x := I.sl i s e
    cases s with
    | un => trivial
    | sh d => obtain ⟨v, e1, r⟩ := x; exact ⟨v, e1, r.mono (Mono.of gk)⟩
    | ow d =>
      obtain ⟨p, e1, g, h0, c⟩ := x
      have m : p ∈ ownAs ρ σ := mem_ownAs.mpr ⟨i, d, e, join_some e1⟩
      obtain ⟨_, _, _, _, _, _, n⟩ := lk p m
      exact ⟨p, e1, by rw [keepT_out n]; exact g, h0, c.mono (Mono.of gk) (unl_in m)⟩
  · by_cases t : TupAt G' p
    · rw [keepT_in t]; exact n
    · rw [keepT_out t]; exact gg'.free n
  · by_cases m : p ∈ ownAs ρ σ
    · obtain ⟨_, _, _, _, g, _, _⟩ := lk p m
      rw [n] at g
      cases g
    · exact unl_out m
  · obtain ⟨_, _, _, _, g, _, _⟩ := lk p (mem_ownAs.mpr ⟨i, e, a, b⟩)
    rw [n] at g
    cases g
end
open Classical in
noncomputable def eBor (f : EM) : EM := fun ρ => match f (shAll ρ) with
  | .ok r ρ' => if ρ' = shAll ρ ∧ okR r = true then .ok r ρ else .bad
  | _ => .bad
open Classical in
noncomputable def tBor (f : TM) : TM := fun ρ => match f (shAll ρ) with
  | .ok b ρ' => if ρ' = shAll ρ then .ok b ρ else .bad
  | _ => .bad
section
variable {X : Cx} {W : WX} {e : Expr}
theorem de_bor {f : EM} (he : DE X W e f) : DE X W e (eBor f) := ⟨fun pins s σ H Q I ⟨H0, B, G, ρ, S, h⟩ => by
  obtain ⟨H1, I1, l1, l2⟩ := lockMany I (ownAs ρ σ) fun a m => by obtain ⟨_, _, u, hu, mu, _⟩ := S.own_at m; exact ⟨u, hu, mu⟩
  have S1 := lend S l1 l2
  unfold eBor at h
  cases q : f (shAll ρ) with
  | bad => rw [q] at h; exact h.elim
  | xc c ρ' => rw [q] at h; exact h.elim
  | ok r ρ' =>
    simp only [q] at h
    by_cases z : ρ' = shAll ρ ∧ okR r = true
    · rw [if_pos z] at h
      obtain ⟨rfl, hr⟩ := z
      refine thn (he.run pins s σ H1 (fun v H' => ∃ G', Grow (unl (ownAs ρ σ) H1 G) G' ∧ StD X.K H0 B G' (shAll ρ) σ H' ∧ VR X.K H0 G' (shAll ρ) σ H' v r) I1 ⟨H0, B, _, _, S1, ?_⟩) fun u s1 ⟨v, H', I2, rv, G', gr, J, x⟩ => ?_
      · rw [q]
        exact fun v G' H' gr J x => ⟨G', gr, J, x⟩
      · obtain ⟨b1, b2, b3, b4, b5⟩ := giveBack S l1 gr J
        refine ⟨v, _, unlockMany I2 (fun a u hu mu => I.nofrz hu mu) (ownAs ρ σ) b1, rv, h v _ _ b2 b3 ?_⟩
        cases r with
        | al i => cases hr
        | sh d => exact imm_rep b4 x hr
        | ow d =>
          obtain ⟨p, ev, g, h0, _, c⟩ := x
          obtain ⟨c1, c2, c3⟩ := b5 p g
          refine ⟨p, ev, c1, h0, c3, ?_⟩
          cases d with
          | lst ds => obtain ⟨vs, e1, ra⟩ := c; exact ⟨vs, by rw [c2]; exact e1, imm_reps b4 ra hr⟩
          | dct ds => obtain ⟨vs, e1, ra⟩ := c; exact ⟨vs, by rw [c2]; exact e1, imm_kv b4 ra hr⟩
          | _ => cases hr
    · rw [if_neg z] at h; exact h.elim⟩
theorem dt_bor {f : TM} (he : DT X W e f) : DT X W e (tBor f) := ⟨fun pins s σ H Q I ⟨H0, B, G, ρ, S, h⟩ => by
  obtain ⟨H1, I1, l1, l2⟩ := lockMany I (ownAs ρ σ) fun a m => by obtain ⟨_, _, u, hu, mu, _⟩ := S.own_at m; exact ⟨u, hu, mu⟩
  have S1 := lend S l1 l2
  unfold tBor at h
  cases q : f (shAll ρ) with
  | bad => rw [q] at h; exact h.elim
  | xc c ρ' => rw [q] at h; exact h.elim
  | ok r ρ' =>
    simp only [q] at h
    by_cases z : ρ' = shAll ρ
    · rw [if_pos z] at h
      subst z
      refine thn (he.run pins s σ H1 (fun b H' => b = r ∧ ∃ G', Grow (unl (ownAs ρ σ) H1 G) G' ∧ StD X.K H0 B G' (shAll ρ) σ H') I1 ⟨H0, B, _, _, S1, ?_⟩) fun u s1 ⟨H', I2, eb, G', gr, J⟩ => ?_
      · rw [q]
        exact fun G' H' gr J => ⟨rfl, G', gr, J⟩
      · obtain ⟨b1, b2, b3, b4, b5⟩ := giveBack S l1 gr J
        refine ⟨_, unlockMany I2 (fun a u hu mu => I.nofrz hu mu) (ownAs ρ σ) b1, ?_⟩
        rw [eb]
        exact h _ _ b2 b3
    · rw [if_neg z] at h; exact h.elim⟩
end
end DL

/-! DL26: comprehensions over a dict's items; a display of one pair; the head's further facts. -/
namespace DL
open PySem PySem.Spec PyProof.Rows L2

/-! ### [.. for .. in d.items()] -/
def lcDG (vs : List Nat) (k : DKind) (g : GM) (tt : TM) (elt : EM) (x : Option (D × DEnv)) : ER := match x with
  | some (d, ρ1) => (match d with
    | .dct ds => if ds.length ≤ 16777216 then lcL vs g tt elt (dItems k ds) [] (wipeD ρ1 vs) else .bad
    | _ => .bad)
  | none => .bad
def eLCD (vs : List Nat) (k : DKind) (i : Nat) (g : GM) (tt : TM) (elt : EM) : EM := fun ρ => lcDG vs k g tt elt (fz ρ (.al i))
theorem lcL_noxc {vs : List Nat} {g : GM} {tt : TM} {elt : EM} {c : Str} {ρ' : DEnv} : ∀ (ds acc : List D) (ρ : DEnv), lcL vs g tt elt ds acc ρ ≠ .xc c ρ'
  | [], acc, ρ, e => nomatch e
  | d :: ds, acc, ρ, e => by
    unfold lcL at e
    cases q1 : g d ρ with
    | none => simp only [q1] at e; cases e
    | some ρ1 =>
      simp only [q1] at e
      cases q2 : tt ρ1 with
      | xc a b => simp only [q2] at e; cases e
      | bad => simp only [q2] at e; cases e
      | ok b ρ2 =>
        simp only [q2] at e
        cases b with
        | false => exact lcL_noxc ds acc _ e
        | true =>
          simp only [if_true] at e
          cases q3 : elt ρ2 with
          | xc a b => simp only [q3] at e; cases e
          | bad => simp only [q3] at e; cases e
          | ok r ρ3 =>
            simp only [q3] at e
            cases q4 : fz ρ3 r with
            | none => simp only [q4] at e; cases e
            | some z =>
              obtain ⟨x, ρ4⟩ := z
              simp only [q4] at e
              exact lcL_noxc ds _ _ e
section
variable {K : PySem.W.Frag} {mg : Str → Option Value} {H0 B G H : Hp} {ρ ρ1 : DEnv} {σ : L2.St} {W : WX} {vs ws : List Nat} {g : GM} {tt : TM} {elt : EM} {Q : VK} {k : DKind} {i : Nat}
theorem dItems_len (k : DKind) (ds : List (Key × D)) : (dItems k ds).length = ds.length := by cases k <;> exact List.length_map ..
theorem fz_al {d : D} (h : fz ρ (.al i) = some (d, ρ1)) : ρ1[i]? = some (.sh d) := by
  dsimp only [fz] at h
  cases q : ρ[i]? with
  | none => simp only [q] at h; cases h
  | some s =>
    cases s with
    | un => simp only [q] at h; cases h
    | sh e => simp only [q] at h; cases h; exact q
    | ow e =>
      simp only [q] at h
      cases h
      exact List.getElem?_set_self (List.getElem?_eq_some_iff.mp q).1
open Classical in
theorem lcD_core {a : Addr} {od : Obj} {kvs : List (Key × V)} {ds : List (Key × D)} (hw : ∀ w ∈ ws, w ∈ vs) (I : StD K H0 B G ρ1 σ H) (hv : σ[i]? = some (some (.ref a))) (hd : H a = some (.frz od (.dK kvs))) (hi : ρ1[i]? = some (.sh (.dct ds)))
    (h : EPost K mg H0 B G W σ Q (if ds.length ≤ 16777216 then lcL vs g tt elt (dItems k ds) [] (wipeD ρ1 vs) else .bad)) : tLc (iDct k i) (cG K (dTp k) ws g) (cT K mg WF tt) (cE K mg WF elt) vs σ H Q := by
  have base := lc_imp (K := K) (mg := mg) (W := W) (tp := dTp k) (it := fun ρ' => if ρ' = ρ1 then .ok (dItems k ds) ρ1 else .bad) (g := g) (tt := tt) (elt := elt) hw σ H Q ⟨H0, B, G, ρ1, I, by
    unfold eLC
    dsimp only
    rw [if_pos rfl]
    show EPost K mg H0 B G W σ Q (if (dItems k ds).length ≤ 16777216 then lcL vs g tt elt (dItems k ds) [] (wipeD ρ1 vs) else .bad)
    rw [dItems_len]
    exact h⟩
  unfold tLc at base ⊢
  obtain ⟨H0', B', G', ρ', J, q⟩ := base
  dsimp only at q
  by_cases z : ρ' = ρ1
  · rw [if_pos z] at q
    subst z
    obtain ⟨v, ev, rp⟩ := J.sh hi
    rw [hv] at ev
    cases ev
    cases rp with
    | @dct _ us _ rd r =>
      have e1 : us = kvs := by
        have := J.gh.rd a (.dK us) trivial rd
        have := rd_fr hd (x := .dK us) trivial this
        cases this
        rfl
      subst e1
      refine ⟨a, od, us, hv, hd, ?_⟩
      rcases rd with g1 | ⟨o, g1⟩
      · have s1 : Grow G' (upd G' a (.frz od (.dK us))) := (Grow.refl G').lock (od := od) (u := .dK us) trivial g1
        exact q _ _ _ s1 (J.lockG (od := od) (u := .dK us) trivial g1 hd) (srv_dct (K := K) k (upd_same (H := G') (a := a) (o := .frz od (.dK us))) (r.mono (Mono.of s1)))
      · have := J.gh.fr a o _ g1
        rw [hd] at this
        cases this
        exact q _ _ _ (Grow.refl _) J (srv_dct (K := K) k g1 r)
  · rw [if_neg z] at q; exact q.elim
theorem lcD_lock {dd : D} (hw : ∀ w ∈ ws, w ∈ vs) (I : StD K H0 B G ρ σ H) (q : fz ρ (.al i) = some (dd, ρ1)) (h : EPost K mg H0 B G W σ Q (lcDG vs k g tt elt (some (dd, ρ1)))) :
    tLc (iDct k i) (cG K (dTp k) ws g) (cT K mg WF tt) (cE K mg WF elt) vs σ H Q ∨
      ∃ d u, H d = some u ∧ Mut (some u) ∧ ∀ od, tLc (iDct k i) (cG K (dTp k) ws g) (cT K mg WF tt) (cE K mg WF elt) vs σ (upd H d (.frz od u)) fun v H' => H' d = some (.frz od u) ∧ Q v (upd H' d u) := by
  have hv : ∃ v, σ[i]? = some (some v) := by
    dsimp only [fz] at q
    cases q1 : ρ[i]? with
    | none => simp only [q1] at q; cases q
    | some s =>
      cases s with
      | un => simp only [q1] at q; cases q
      | sh d => obtain ⟨v, e, _⟩ := I.sh q1; exact ⟨v, e⟩
      | ow d => obtain ⟨p, e, _⟩ := I.ow q1; exact ⟨_, e⟩
  obtain ⟨v, hv⟩ := hv
  obtain ⟨G1, s1, I1, r1⟩ := VR.fz (r := .al i) I hv q
  have hi := fz_al q
  unfold lcDG at h
  cases r1 with
  | @dct a us ds rd r =>
    have h : EPost K mg H0 B G W σ Q (if ds.length ≤ 16777216 then lcL vs g tt elt (dItems k ds) [] (wipeD ρ1 vs) else .bad) := h
    have h1 : Rd H a (.dK us) := I1.gh.rd a _ trivial rd
    rcases h1 with h1 | ⟨o, h1⟩
    · right
      have g1 : G1 a = some (.dK us) := by
        rcases rd with g1 | ⟨o, g1⟩
        · exact g1
        · have := I1.gh.fr a o _ g1
          rw [h1] at this
          cases this
      refine ⟨a, .dK us, h1, trivial, fun od => ?_⟩
      have I2 := I1.lock (od := od) (u := .dK us) trivial g1 h1
      have nB : ∀ o w, B a ≠ some (.frz o w) := fun o w e => by
        have := I1.bg.fr a o w e
        rw [g1] at this
        cases this
      have n0 : ∀ o w, H0 a ≠ some (.frz o w) := fun o w e => by
        have := I1.h0.m.fr a o w e
        rw [h1] at this
        cases this
      have un : ∀ {ρ' : DEnv} {G' H' : Hp}, Grow (upd G1 a (.frz od (.dK us))) G' → StD K H0 B G' ρ' σ H' → G' a = some (.frz od (.dK us)) ∧ H' a = some (.frz od (.dK us)) ∧ StD K H0 B (upd G' a (.dK us)) ρ' σ (upd H' a (.dK us)) ∧ Grow G (upd G' a (.dK us)) := fun {ρ' G' H'} s J => by
        have g' := s.fr a od _ upd_same
        have nG : ∀ o w, G a ≠ some (.frz o w) := fun o w e => by
          have := s1.fr a o w e
          rw [g1] at this
          cases this
        exact ⟨g', J.gh.fr a od _ g', J.unlock (od := od) (u := .dK us) trivial g' nB n0, (s1.trans (((Grow.refl G1).lock (od := od) (u := .dK us) trivial g1).trans s)).unlock g' nG⟩
      refine lcD_core (W := W) (B := B) (H0 := H0) hw I2 hv upd_same hi ?_
      by_cases hz : ds.length ≤ 16777216
      · rw [if_pos hz] at h ⊢
        cases e : lcL vs g tt elt (dItems k ds) [] (wipeD ρ1 vs) with
        | bad => rw [e] at h; exact h
        | xc c ρ' => exact (lcL_noxc _ _ _ e).elim
        | ok r ρ' =>
          rw [e] at h
          intro v G' H' s J x
          obtain ⟨g', h', J', s'⟩ := un s J
          refine ⟨h', h v _ _ s' J' ?_⟩
          cases r with
          | sh d => exact Rep.mono (mono_unlock g' (u := .dK us) trivial) x
          | al j => exact x
          | ow d =>
            obtain ⟨p, ev, gp, h0p, nx, c⟩ := x
            have np : p ≠ a := fun z => by rw [z, g'] at gp; cases gp
            exact ⟨p, ev, by rw [upd_ne np]; exact gp, h0p, nx, c.mono (mono_unlock g' (u := .dK us) trivial) (upd_ne np)⟩
      · rw [if_neg hz] at h; exact h.elim
    · exact .inl (lcD_core hw I1 hv h1 hi (EPost.mono h s1))
  | _ => exact h.elim
end
section
variable {X : Cx} {W : WX} {elt tg iter : Expr} {ifs : List Expr} {scope : Scope} {own : List (Str × Nat)} {pos spos py : Pos} {ws : List Nat} {g : GM} {tt : TM} {fe : EM} {k : DKind} {j : Nat}
theorem de_lcD (hc : X.calm = true) (hN : X.N.Nodup) (hi : PI X tg iter (iDct k j)) (ok : BlkOk X.N X.env.scope scope own) (hw : ∀ w ∈ ws, w ∈ own.map (·.2))
    (hg : ∀ (s : Shared) (H : Hp) (C : Addr) (cl : List (Str × Addr)) (fp : List Addr), DG (X.blk s H scope (compEnvC scope cl C X.env) fp) (dTp k) ws tg g)
    (ht : ∀ (s : Shared) (H : Hp) (C : Addr) (cl : List (Str × Addr)) (fp : List Addr), DTs (X.blk s H scope (compEnvC scope cl C X.env) fp) WF ifs tt)
    (he : ∀ (s : Shared) (H : Hp) (C : Addr) (cl : List (Str × Addr)) (fp : List Addr), DE (X.blk s H scope (compEnvC scope cl C X.env) fp) WF elt fe) (hs : ∀ x, foldedSetIterable iter X.env x = pure x := by intro _; rfl) :
    DE X W (.ListComp elt [⟨tg, iter, ifs, 0⟩] scope pos) (eLCD (own.map (·.2)) k j g tt fe) :=
  iE (orE (pe_lc hc hN hi ok hg ht he hs) (pe_lock (pe_lc hc hN hi ok hg ht he hs))) fun σ H Q ⟨H0, B, G, ρ, I, h⟩ => by
    unfold eLCD at h
    cases q : fz ρ (.al j) with
    | none => rw [q] at h; exact h.elim
    | some z => obtain ⟨dd, ρ1⟩ := z; rw [q] at h; exact lcD_lock hw I q h
theorem toS_EPost {K : PySem.W.Frag} {mg : Str → Option Value} {H0 B G H : Hp} {ρ : DEnv} {σ : L2.St} {D : Ends} {i : Nat} {x : ER} (I : StD K H0 B G ρ σ H) (h : SPost K mg H0 B W D (x.toS (goSet i))) : EPost K mg H0 B G W σ (fun v H' => D.nx (σ.set i (some v)) H') x := by
  cases x with
  | ok r ρ1 => exact fun v G1 H1 s1 I1 v1 => goSet_go I1 v1 h
  | xc c ρ1 => exact fun cls G1 H1 s1 I1 e => h cls σ G1 H1 I1 e
  | bad => exact h
theorem ds_setLcD (i : Nat) {y : Str} (hc : X.calm = true) (hN : X.N.Nodup) (hsw : swapsWith (.ListComp elt [⟨tg, iter, ifs, 0⟩] scope pos) (some (.Name y py)) spos.line X.env = pure true) (hi : PI X tg iter (iDct k j)) (ok : BlkOk X.N X.env.scope scope own) (hw : ∀ w ∈ ws, w ∈ own.map (·.2))
    (hg : ∀ (s : Shared) (H : Hp) (C : Addr) (cl : List (Str × Addr)) (fp : List Addr), DG (X.blk s H scope (compEnvC scope cl C X.env) fp) (dTp k) ws tg g)
    (ht : ∀ (s : Shared) (H : Hp) (C : Addr) (cl : List (Str × Addr)) (fp : List Addr), DTs (X.blk s H scope (compEnvC scope cl C X.env) fp) WF ifs tt)
    (he : ∀ (s : Shared) (H : Hp) (C : Addr) (cl : List (Str × Addr)) (fp : List Addr), DE (X.blk s H scope (compEnvC scope cl C X.env) fp) WF elt fe)
    (hy : X.N[i]? = some y := by rfl) (hyl : X.env.scope.names.lookup y = some .local := by rfl) (hs : ∀ x, foldedSetIterable iter X.env x = pure x := by intro _; rfl) :
    DS X W (.Assign [.Name y py] (.ListComp elt [⟨tg, iter, ifs, 0⟩] scope pos) spos) (sSet i (eLCD (own.map (·.2)) k j g tt fe)) :=
  iS (orS (ps_setLc hc hN hy hyl hsw hi ok hg ht he hs) (ps_lock (ps_setLc hc hN hy hyl hsw hi ok hg ht he hs))) fun D σ H ⟨H0, B, G, ρ, I, h⟩ => by
    have h1 := toS_EPost I h
    unfold eLCD at h1
    cases q : fz ρ (.al j) with
    | none => rw [q] at h1; exact h1.elim
    | some z => obtain ⟨dd, ρ1⟩ := z; rw [q] at h1; exact lcD_lock hw I q h1
end

/-! ### {k: v} -/
section
variable {K : PySem.W.Frag} {mg : Str → Option Value} {H0 B G H : Hp} {ρ ρ1 : DEnv} {σ : L2.St} {W : WX} {R1 : VK}
theorem cE3 {fe : EM} {r : R} (I : StD K H0 B G ρ σ H) (e : fe ρ = .ok r ρ1) (go : ∀ v G1 H1, Grow G G1 → StD K H0 B G1 ρ1 σ H1 → VR K H0 G1 ρ1 σ H1 v r → R1 v H1) : cE K mg W fe σ H R1 := by
  refine ⟨H0, B, G, ρ, I, ?_⟩
  rw [e]
  exact go
end
def eDisp1 (fk fv : EM) : EM := fun ρ => match fk ρ with
  | .ok (.sh k) ρ1 => (match keyD k with
    | some key => (match fv ρ1 with
      | .ok r ρ2 => (match fz ρ2 r with
        | some (d, ρ3) => .ok (.ow (.dct [(key, d)])) ρ3
        | none => .bad)
      | _ => .bad)
    | none => .bad)
  | _ => .bad
section
variable {X : Cx} {W : WX} {k v : Expr} {pos : Pos}
theorem de_disp1 {fk fv : EM} (hk : DE X W k fk) (hv : DE X W v fv) : DE X W (.Dict [some k] [v] pos) (eDisp1 fk fv) :=
  iE (pe_disp (pps_cons hk hv pps_nil) rfl rfl (by simp) (by simp)) fun σ H Q ⟨H0, B, G, ρ, I, h⟩ => by
    intro p hp
    obtain ⟨gp, h0p⟩ := I.gfree hp
    have bp : B p = none := I.bg.free gp
    have I0 := I.beside0 (o := .dK []) hp
    unfold eDisp1 at h
    split at h
    · rename_i kd ρ1 q1
      cases q2 : keyD kd with
      | none => simp only [q2] at h; exact h.elim
      | some key =>
        simp only [q2] at h
        cases q3 : fv ρ1 with
        | xc c ρ' => simp only [q3] at h; exact h.elim
        | bad => simp only [q3] at h; exact h.elim
        | ok r ρ2 =>
          simp only [q3] at h
          cases q4 : fz ρ2 r with
          | none => simp only [q4] at h; exact h.elim
          | some z =>
            obtain ⟨d, ρ3⟩ := z
            simp only [q4] at h
            refine cE3 I0 q1 fun x G1 H1 s1 I1 x1 => cE3 I1 q3 fun y G2 H2 s2 I2 x2 => ?_
            obtain ⟨G3, s3, I3, r3⟩ := VR.fz I2 x2 q4
            obtain ⟨J, hp3, gp3, nx⟩ := I3.besideEnd h0p bp
            have ek : x = kV key := key_v (Rep.top x1 I1.m) q2
            refine ⟨hp3, [(key, y)], by rw [ek]; rfl, by simp, ?_⟩
            have J2 : StD X.K H0 B G3 ρ3 σ (upd H2 p (.dK [(key, y)])) := (I3.beside (o' := .dK [(key, y)]) h0p bp).besideEnd h0p bp |>.1
            exact h _ G3 _ (s1.trans (s2.trans s3)) J2 ⟨p, rfl, gp3, h0p, nx, _, upd_same, .cons r3 .nil⟩
    · exact h.elim
end
end DL

/-! DL27: the head: facts of errors. -/
namespace DL
open PySem PySem.Spec PyProof.Rows L2
def eqV2 (a b : Option (Option Value)) : Bool := decide (a = b)
def excCB (K : PySem.W.Frag) (D : Addr) : Bool :=
  decide (PySem.W.findIn K (.ref D) "__getattribute__" = some (some (.builtin "BaseException.__getattribute__"))) && (decide (PySem.W.findIn K (.ref D) "__getattr__" = some none) && (decide (PySem.W.subIn K (.ref D) (.type "BaseException") = some true) && (PySem.W.hasDictIn K D &&
    (decide (PySem.W.findIn K (.ref D) "__class__" = some (some (.builtin "object.__class__"))) && (decide (PySem.W.specialIn K (.builtin "object.__class__") "__get__" = some (some (.builtin "getset_descriptor.__get__"))) && (decide (PySem.W.takesIn K (.builtin "object.__class__") = some true) && decide (PySem.W.mroIn K D (.type "object") = some true)))))))
theorem excCB_ok {K : PySem.W.Frag} {D : Addr} (h : excCB K D = true) : ExcC K D := by
  unfold excCB at h
  simp only [Bool.and_eq_true, decide_eq_true_eq] at h
  obtain ⟨h1, h2, h3, h4, h5, h6, h7, h8⟩ := h
  exact ⟨h1, h2, h3, h4, h5, h6, h7, h8⟩
def errB (K : PySem.W.Frag) (errs : List Str) : Bool :=
  decide (PySem.W.nsIn K mainGlobals "OddsError" = some (some (.ref (He.ga K "OddsError")))) &&
    errs.all fun c => decide (PySem.W.nsIn K mainGlobals c = some (some (.ref (He.ga K c)))) && (excCB K (He.ga K c) && (decide (PySem.W.exmOne K (.ref (He.ga K c)) (.ref (He.ga K "OddsError")) = some true) && (decide (PySem.W.kitOne K (.ref (He.ga K c)) (.type "ValueError") = some true) &&
      errs.all fun C => decide (PySem.W.kitOne K (.ref (He.ga K c)) (.ref (He.ga K C)) = some (isSub c C)))))
theorem errB_ok {K : PySem.W.Frag} {h : Heap} {mg : Str → Option Value} {errs : List Str} (X : K.In h) (G : h.Ns mainGlobals mg) (e : errB K errs = true) : ErrF K mg errs := by
  unfold errB at e
  rw [Bool.and_eq_true, List.all_eq_true] at e
  obtain ⟨e1, e2⟩ := e
  have at_ : ∀ c ∈ errs, mg c = some (.ref (He.ga K c)) ∧ ExcC K (He.ga K c) ∧ PySem.W.exmOne K (.ref (He.ga K c)) (.ref (He.ga K "OddsError")) = some true ∧ PySem.W.kitOne K (.ref (He.ga K c)) (.type "ValueError") = some true ∧ ∀ C ∈ errs, PySem.W.kitOne K (.ref (He.ga K c)) (.ref (He.ga K C)) = some (isSub c C) := fun c hc => by
    have q := e2 c hc
    simp only [Bool.and_eq_true, decide_eq_true_eq, List.all_eq_true] at q
    obtain ⟨q1, q2, q3, q4, q5⟩ := q
    exact ⟨PySem.W.mg_of X G q1, excCB_ok q2, q3, q4, q5⟩
  refine ⟨⟨_, PySem.W.mg_of X G (of_decide_eq_true e1), fun c hc D hD => ?_⟩, fun c hc => ?_⟩
  · obtain ⟨h1, _, h3, _⟩ := at_ c hc
    rw [h1] at hD
    cases hD
    exact h3
  · obtain ⟨h1, h2, _, h4, h5⟩ := at_ c hc
    refine ⟨_, h1, h2, h4, fun C hC E hE => ?_⟩
    obtain ⟨g1, _⟩ := at_ C hC
    rw [g1] at hE
    cases hE
    exact h5 C hC
/-! the hook: the library's, and one more look at what stands -/
abbrev AlM : Type := He.AlD × Bool
def obsM (n : Nat) (fa : List He.Fa) (fn : List He.DefD) (ex : PySem.W.Frag → Bool) (g : Addr → Option Obj) : AlM := (He.obsDG n fa fn g, ex (He.frG g (He.asD g n)))
def hookM (n : Nat) (fa : List He.Fa) (fn : List He.DefD) (ex : PySem.W.Frag → Bool) : PySem.W.Hook where
  α := AlM
  obs := fun s => obsM n fa fn ex s.heap.get?
  val := fun _ => (He.valD fn, true)
  says := fun _ h => ∃ K : PySem.W.Frag, K.In h ∧ He.SaysD fa fn K ∧ ex K = true
  of := fun _ _ e => ⟨_, He.frG_in, congrArg Prod.fst e, congrArg Prod.snd e⟩
  keeps := fun _ _ _ ⟨K, hK, c⟩ k => ⟨K, PySem.W.Frag.In.keeps hK k, c⟩
theorem obsM_eq {n : Nat} {fa : List He.Fa} {fn : List He.DefD} {ex : PySem.W.Frag → Bool} {g : Addr → Option Obj} {s : Shared} (h : ∀ a, g a = s.heap.get? a) : obsM n fa fn ex g = (hookM n fa fn ex).obs s := by
  have e : g = s.heap.get? := funext h
  subst e
  rfl
end DL

namespace Law
open PySem PySem.Spec PyProof.Rows L2 DL
section
set_option maxHeartbeats 0
def top (i : Nat) : Stmt := PySem.Challenge.pw_oddsnet_k63_sides_walked.main.body.getD i (.Pass ⟨0, 0, 0, 0⟩)
abbrev s_elders_in : Stmt := top 5
abbrev s_look_for : Stmt := top 6
abbrev s_look_at_lists : Stmt := top 7
abbrev s_above : Stmt := top 8
abbrev s_ties_among : Stmt := top 9
abbrev s_reached_from : Stmt := top 10
abbrev s_sides : Stmt := top 11
abbrev s__law_cell : Stmt := top 13
abbrev s__law_words : Stmt := top 14
abbrev s__law_lines : Stmt := top 15
abbrev s__law_questions : Stmt := top 16
abbrev s__law_lists : Stmt := top 17
abbrev s__law_elders : Stmt := top 18
abbrev s__law_above : Stmt := top 19
abbrev s__law_sides : Stmt := top 20
abbrev s__law_local : Stmt := top 21
abbrev s_law : Stmt := top 22
/-! the head -/
def d_elders_in : He.DefD := ⟨("elders_in", none), "elders_in", "elders_in", defArgs s_elders_in, defBody s_elders_in, defScope s_elders_in, [], []⟩
def d_look_for : He.DefD := ⟨("look_for", none), "look_for", "look_for", defArgs s_look_for, defBody s_look_for, defScope s_look_for, [], []⟩
def d_look_at_lists : He.DefD := ⟨("look_at_lists", none), "look_at_lists", "look_at_lists", defArgs s_look_at_lists, defBody s_look_at_lists, defScope s_look_at_lists, [], []⟩
def d_above : He.DefD := ⟨("above", none), "above", "above", defArgs s_above, defBody s_above, defScope s_above, [], []⟩
def d_ties_among : He.DefD := ⟨("ties_among", none), "ties_among", "ties_among", defArgs s_ties_among, defBody s_ties_among, defScope s_ties_among, [], []⟩
def d_reached_from : He.DefD := ⟨("reached_from", none), "reached_from", "reached_from", defArgs s_reached_from, defBody s_reached_from, defScope s_reached_from, [], []⟩
def d_sides : He.DefD := ⟨("sides", none), "sides", "sides", defArgs s_sides, defBody s_sides, defScope s_sides, [], []⟩
def d__law_cell : He.DefD := ⟨("_law_cell", none), "_law_cell", "_law_cell", defArgs s__law_cell, defBody s__law_cell, defScope s__law_cell, [], []⟩
def d__law_words : He.DefD := ⟨("_law_words", none), "_law_words", "_law_words", defArgs s__law_words, defBody s__law_words, defScope s__law_words, [], []⟩
def d__law_lines : He.DefD := ⟨("_law_lines", none), "_law_lines", "_law_lines", defArgs s__law_lines, defBody s__law_lines, defScope s__law_lines, [], []⟩
def d__law_questions : He.DefD := ⟨("_law_questions", none), "_law_questions", "_law_questions", defArgs s__law_questions, defBody s__law_questions, defScope s__law_questions, [], []⟩
def d__law_lists : He.DefD := ⟨("_law_lists", none), "_law_lists", "_law_lists", defArgs s__law_lists, defBody s__law_lists, defScope s__law_lists, [], []⟩
def d__law_elders : He.DefD := ⟨("_law_elders", none), "_law_elders", "_law_elders", defArgs s__law_elders, defBody s__law_elders, defScope s__law_elders, [], []⟩
def d__law_above : He.DefD := ⟨("_law_above", none), "_law_above", "_law_above", defArgs s__law_above, defBody s__law_above, defScope s__law_above, [], []⟩
def d__law_sides : He.DefD := ⟨("_law_sides", none), "_law_sides", "_law_sides", defArgs s__law_sides, defBody s__law_sides, defScope s__law_sides, [], []⟩
def d__law_local : He.DefD := ⟨("_law_local", none), "_law_local", "_law_local", defArgs s__law_local, defBody s__law_local, defScope s__law_local, [], []⟩
def d_law : He.DefD := ⟨("law", none), "law", "law", defArgs s_law, defBody s_law, defScope s_law, [], []⟩
def fns : List He.DefD := [d_elders_in, d_look_for, d_look_at_lists, d_above, d_ties_among, d_reached_from, d_sides, d__law_cell, d__law_words, d__law_lines, d__law_questions, d__law_lists, d__law_elders, d__law_above, d__law_sides, d__law_local, d_law]
def fas : List He.Fa := [.glo "elders_in", .glo "look_for", .glo "look_at_lists", .glo "above", .glo "ties_among", .glo "reached_from", .glo "sides", .glo "_law_cell", .glo "_law_words", .glo "_law_lines", .glo "_law_questions", .glo "_law_lists", .glo "_law_elders", .glo "_law_above", .glo "_law_sides", .glo "_law_local", .glo "law", .free "list", .free "len", .free "range", .free "reversed", .free "int", .free "max", .free "tuple", .free "enumerate", .free "isinstance", .exc "NoName", .glo "NoName", .exc "Twice", .glo "Twice"]
abbrev R : PySem.W.OpenRow := PySem.W.OpenLaw.row PySem.Challenge.rw_oddsnet_k63_sides_walked
def ex (K : PySem.W.Frag) : Bool := true
abbrev hk : PySem.W.Hook := hookM 4 fas fns ex
def ob (s : PySem.W.SharedT) : AlM := obsM 4 fas fns ex (HandSHeadRun.getT s)
theorem ob_eq (s : PySem.W.SharedT) : ob s = hk.obs s.abs := obsM_eq (HandSHeadRun.getT_eq s)
def loose : List Str := (["OddsError", "Twice", "NoName", "elders_in", "look_for", "look_at_lists", "above", "ties_among", "reached_from", "sides", "_law_cell", "_law_words", "_law_lines", "_law_questions", "_law_lists", "_law_elders", "_law_above", "_law_sides", "_law_local"] : List Str)
theorem run (w : World) : HandSHeadRun.RunEq R (PySem.W.view R.prog [22]) hk ob 40000 loose w := by
  intro os
  kernel_rfl
end
end Law
/-! DL28: x.clear() of a list or a dict. -/
namespace DL
open PySem PySem.Spec PyProof.Rows L2
theorem u1h {k : Nat} {A : Around} (r : L2H.RoomH k A) : A.units + 1 < cLine := by have := r.un; omega
theorem u65h {k : Nat} {A : Around} (r : L2H.RoomH k A) : A.units + 65 < cLine := by have := r.un; omega
theorem roomS {k : Nat} {A : Around} {v : Option Value} (hr : Room k A) : L2H.RoomH k (A.mark v) := ⟨hr.dp, hr.un⟩
def mDClear (d : D) (ds : List D) : Option (D × D) := match d with
  | .dct es => (match ds with
    | [] => some (.non, .dct [])
    | _ => none)
  | _ => none
theorem m_dclear {K : PySem.W.Frag} : MutOk K rDClear mDClear := fun G H a d vs ds ret d' Q m c r e q => by
  cases d with
  | dct es =>
    cases ds with
    | nil =>
      cases r
      cases e
      obtain ⟨us, e1, r1⟩ := cell_dct c
      exact ⟨a, us, rfl, rfl, e1, q .non _ .non ⟨[], upd_same, .nil⟩⟩
    | cons _ _ => cases e
  | _ => cases e
def eClear (i : Nat) : EM := eEls (eMut i "list" mClear aNil) (eMut i "dict" mDClear aNil)
section
variable {X : Cx} {W : WX} {apos cpos npos : Pos}
theorem de_clear (i : Nat) {x : Str} (hN : X.N[i]? = some x := by rfl) (hv : Vis X.env.scope x := by first | exact Or.inl rfl | exact Or.inr (Or.inl rfl) | exact Or.inr (Or.inr rfl)) (hd : (x == ("__debug__" : Str)) = false := by decide)
    (hcd : (x == ("__classdict__" : Str)) = false := by decide)
    (hbase : attributeBase (.Name x npos) "clear" X.env (eval (.Name x npos) X.env) = eval (.Name x npos) X.env := by rfl) (hline : (apos.endLine == cpos.line) = true := by rfl) :
    DE X W (.Call (.Attribute (.Name x npos) "clear" apos) [] [] cpos) (eClear i) :=
  de_els (de_mut0 i PySem.F.plainAttrs_list PySem.F.slot_list_clear PySem.F.type_list_clear mt_clear m_clear hN hv hd hcd hbase hline) (de_mut0 i PySem.F.plainAttrs_dict PySem.F.slot_dict_clear PySem.F.type_dict_clear mtd_clear m_dclear hN hv hd hcd hbase hline)
end
end DL

/-! DL29: the further meanings reckoned; plain helpers for loops, membership, marks. -/
namespace DL
open PySem PySem.Spec PyProof.Rows L2
/-! lending -/
open Classical in
noncomputable def borA (ρ : DEnv) : ER → ER
  | .ok r ρ' => if ρ' = shAll ρ ∧ okR r = true then .ok r ρ else .bad
  | _ => .bad
theorem v_bor {f ρ} : eBor f ρ = borA ρ (f (shAll ρ)) := by unfold eBor borA; cases f (shAll ρ) <;> rfl
theorem v_bora {ρ ρ' r} : borA ρ (.ok r ρ') = (open Classical in if ρ' = shAll ρ ∧ okR r = true then .ok r ρ else .bad) := Eq.trans rfl rfl
theorem v_sha0 : shAll [] = [] := Eq.trans rfl rfl
theorem v_sha1 {s ρ} : shAll (s :: ρ) = shS s :: shAll ρ := Eq.trans rfl rfl
theorem v_shs1 {d} : shS (.ow d) = .sh d := Eq.trans rfl rfl
theorem v_shs2 {d} : shS (.sh d) = .sh d := Eq.trans rfl rfl
theorem v_shs3 : shS .un = .un := Eq.trans rfl rfl
theorem v_okR1 {d} : okR (.sh d) = immD d := Eq.trans rfl rfl
theorem v_okR2 {ds} : okR (.ow (.lst ds)) = immDs ds := Eq.trans rfl rfl
theorem v_imm1 {b} : immD (.bl b) = true := Eq.trans rfl rfl
theorem v_imm2 {b} : immD (.int b) = true := Eq.trans rfl rfl
theorem v_imm3 {b} : immD (.str b) = true := Eq.trans rfl rfl
theorem v_imm4 : immD .non = true := Eq.trans rfl rfl
theorem v_imm5 {ds} : immD (.tup ds) = immDs ds := Eq.trans rfl rfl
theorem v_imm6 : immDs [] = true := Eq.trans rfl rfl
theorem v_imm7 {d ds} : immDs (d :: ds) = (immD d && immDs ds) := Eq.trans rfl rfl
theorem v_imm8 (l : List Str) : immDs (l.map .str) = true := immDs_all _ fun d hd => by obtain ⟨x, _, rfl⟩ := List.mem_map.mp hd; rfl
theorem v_imm9 (l : List Int) : immDs (l.map .int) = true := immDs_all _ fun d hd => by obtain ⟨x, _, rfl⟩ := List.mem_map.mp hd; rfl
theorem imm_map {α : Type} (f : α → D) (l : List α) (h : ∀ x ∈ l, immD (f x) = true) : immDs (l.map f) = true := immDs_all _ fun d hd => by obtain ⟨x, hx, rfl⟩ := List.mem_map.mp hd; exact h x hx
/-! errors -/
open Classical in
noncomputable def isEA (v : V) (b : Bool) (ρ : DEnv) (o : Option Sl) : ER := if o = some (.sh (.xn v)) then .ok (.sh (.bl b)) ρ else .bad
theorem v_isE {i v b ρ} : eIsE i v b ρ = isEA v b ρ ρ[i]? := Eq.trans rfl rfl
theorem v_isEa {v b ρ} : isEA v b ρ (some (.sh (.xn v))) = .ok (.sh (.bl b)) ρ := if_pos rfl
open Classical in
noncomputable def calXA (v : V) (r : FR) (ρ : DEnv) (o : Option Sl) : ER := if o = some (.sh (.xn v)) then r.calm.er ρ else .bad
theorem v_calX {i v r ρ} : eCalX i v r ρ = calXA v r ρ ρ[i]? := Eq.trans rfl rfl
theorem v_calXa {v r ρ} : calXA v r ρ (some (.sh (.xn v))) = r.calm.er ρ := if_pos rfl
theorem v_calm1 {d} : FR.calm (.sh d) = .sh d := Eq.trans rfl rfl
theorem v_calm2 {d} : FR.calm (.ow d) = .ow d := Eq.trans rfl rfl
open Classical in
noncomputable def tryA (errs : List Str) (i : Nat) (h : V → Str → SM) : SR → SR
  | .xc c ρ1 => if c ∈ errs then comV .bad fun v => clnS i (h v c (ρ1.set i (.sh (.xn v)))) else .bad
  | r => r
theorem v_try {errs i f h ρ} : sTry errs i f h ρ = tryA errs i h (f ρ) := by unfold sTry tryA; cases f ρ <;> rfl
theorem v_trya {errs i h ρ} : tryA errs i h (.nx ρ) = .nx ρ := Eq.trans rfl rfl
theorem v_tryb {errs i h r ρ} : tryA errs i h (.rt r ρ) = .rt r ρ := Eq.trans rfl rfl
theorem try_xc {errs i h c ρ1 r} (hc : c ∈ errs) (q : ∀ v, clnS i (h v c (ρ1.set i (.sh (.xn v)))) = r) : tryA errs i h (.xc c ρ1) = r := by
  show (if c ∈ errs then comV .bad fun v => clnS i (h v c (ρ1.set i (.sh (.xn v)))) else .bad) = r
  rw [if_pos hc]
  exact comV_eq q
theorem v_cln1 {i ρ} : clnS i (.nx ρ) = .nx (ρ.set i .un) := Eq.trans rfl rfl
theorem v_cln2 {i r ρ} : clnS i (.rt r ρ) = .rt r (ρ.set i .un) := Eq.trans rfl rfl
theorem runX_eq {L body c r} (h : ∀ v, fin (body v c (.sh (.xn v) :: unD (L - 1))) = r) : runX L body c = r := by
  unfold runX
  refine comV_eq fun v => ?_
  rw [un_eq]
  exact h v
/-! the rest -/
theorem v_clear {i ρ} : eClear i ρ = (eMut i "list" mClear aNil ρ).els (eMut i "dict" mDClear aNil ρ) := Eq.trans rfl rfl
theorem p_clr1 {es} : mClear (.lst es) [] = some (.non, .lst []) := Eq.trans rfl rfl
theorem p_clr2 {es} : mDClear (.dct es) [] = some (.non, .dct []) := Eq.trans rfl rfl
theorem v_lcd {vs k i g tt e ρ} : eLCD vs k i g tt e ρ = lcDG vs k g tt e (fz ρ (.al i)) := Eq.trans rfl rfl
theorem v_lcda {vs k g tt e ds ρ} : lcDG vs k g tt e (some (.dct ds, ρ)) = if ds.length ≤ 16777216 then lcL vs g tt e (dItems k ds) [] (wipeD ρ vs) else .bad := Eq.trans rfl rfl
def dsC (key : Key) : Option (D × DEnv) → ER
  | some (d, ρ) => .ok (.ow (.dct [(key, d)])) ρ
  | none => .bad
def dsB (key : Key) : ER → ER
  | .ok r ρ => dsC key (fz ρ r)
  | _ => .bad
def dsK (fv : EM) (ρ : DEnv) : Option Key → ER
  | some key => dsB key (fv ρ)
  | none => .bad
def dsA (fv : EM) : ER → ER
  | .ok (.sh k) ρ => dsK fv ρ (keyD k)
  | _ => .bad
theorem v_disp {fk fv ρ} : eDisp1 fk fv ρ = dsA fv (fk ρ) := by
  unfold eDisp1 dsA
  cases fk ρ with
  | ok r ρ1 =>
    cases r with
    | sh k =>
      dsimp only
      cases keyD k with
      | none => rfl
      | some key =>
        show _ = dsB key (fv ρ1)
        unfold dsB
        dsimp only
        cases fv ρ1 with
        | ok r ρ2 =>
          dsimp only
          unfold dsC
          cases fz ρ2 r with
          | none => rfl
          | some z => rfl
        | _ => rfl
    | _ => rfl
  | _ => rfl
theorem v_dispa {fv k ρ} : dsA fv (.ok (.sh k) ρ) = dsK fv ρ (keyD k) := Eq.trans rfl rfl
theorem v_dispk {fv ρ key} : dsK fv ρ (some key) = dsB key (fv ρ) := Eq.trans rfl rfl
theorem v_dispb {key r ρ} : dsB key (.ok r ρ) = dsC key (fz ρ r) := Eq.trans rfl rfl
theorem v_dispc {key d ρ} : dsC key (some (d, ρ)) = .ok (.ow (.dct [(key, d)])) ρ := Eq.trans rfl rfl
/-! ### loops by a promise -/
theorem forL_nx {g : GM} {b : SM} {α : Type} (enc : α → D) (P : List α → DEnv → Prop) (step : ∀ x xs ρ, P (x :: xs) ρ → ∃ ρ', P xs ρ' ∧ ∀ ds, forL g b (enc x :: ds) ρ = forL g b ds ρ') : ∀ (xs : List α) (ρ : DEnv), P xs ρ → ∃ ρ', P [] ρ' ∧ forL g b (xs.map enc) ρ = .nx ρ'
  | [], ρ, h => ⟨ρ, h, rfl⟩
  | x :: xs, ρ, h => by
    obtain ⟨ρ1, h1, e1⟩ := step x xs ρ h
    obtain ⟨ρ2, h2, e2⟩ := forL_nx enc P step xs ρ1 h1
    exact ⟨ρ2, h2, by rw [List.map_cons, e1, e2]⟩
theorem forL_ex {g : GM} {b : SM} {α : Type} (enc : α → D) (P : List α → DEnv → Prop) (E : SR → Prop) (step : ∀ x xs ρ, P (x :: xs) ρ → (∃ ρ', P xs ρ' ∧ ∀ ds, forL g b (enc x :: ds) ρ = forL g b ds ρ') ∨ ∃ r, E r ∧ ∀ ds, forL g b (enc x :: ds) ρ = r) :
    ∀ (xs : List α) (ρ : DEnv), P xs ρ → (∃ ρ', P [] ρ' ∧ forL g b (xs.map enc) ρ = .nx ρ') ∨ ∃ r, E r ∧ forL g b (xs.map enc) ρ = r
  | [], ρ, h => .inl ⟨ρ, h, rfl⟩
  | x :: xs, ρ, h => by
    rcases step x xs ρ h with ⟨ρ1, h1, e1⟩ | ⟨r, hr, e1⟩
    · rcases forL_ex enc P E step xs ρ1 h1 with ⟨ρ2, h2, e2⟩ | ⟨r, hr, e2⟩
      · exact .inl ⟨ρ2, h2, by rw [List.map_cons, e1, e2]⟩
      · exact .inr ⟨r, hr, by rw [List.map_cons, e1, e2]⟩
    · exact .inr ⟨r, hr, by rw [List.map_cons, e1]⟩
/-! ### membership of texts -/
theorem all_flat_str (l : List Str) : (l.map D.str).all flatD = true := by
  rw [List.all_map]
  exact List.all_eq_true.mpr fun _ _ => rfl
theorem inF_str (x : Str) (l : List Str) : inF (.str x) (l.map .str) = decide (x ∈ l) := by
  unfold inF
  rw [List.any_map]
  by_cases h : x ∈ l
  · rw [decide_eq_true h]
    exact List.any_eq_true.mpr ⟨x, h, beq_self_eq_true _⟩
  · rw [decide_eq_false h]
    refine Bool.eq_false_iff.mpr fun z => ?_
    obtain ⟨y, hy, e⟩ := List.any_eq_true.mp z
    have e : (y == x) = true := e
    exact h (by rw [← eq_of_beq e]; exact hy)
theorem in_lstS (x : Str) (l : List Str) : inB (.str x) (.lst (l.map .str)) = some (decide (x ∈ l)) := by
  unfold inB
  simp only [show flatD (.str x) = true from rfl, all_flat_str, and_self, if_true, inF_str]
theorem in_tupS (x : Str) (l : List Str) : inB (.str x) (.tup (l.map .str)) = some (decide (x ∈ l)) := by
  unfold inB
  simp only [show flatD (.str x) = true from rfl, all_flat_str, and_self, if_true, inF_str]
/-! ### dicts by names -/
def encA {α : Type} (f : α → D) (m : List (Str × α)) : List (Key × D) := m.map fun p => (.inr p.1, f p.2)
def getA {α : Type} (m : List (Str × α)) (x : Str) : Option α := (m.find? fun p => decide (p.1 = x)).map (·.2)
def putA' {α : Type} (m : List (Str × α)) (x : Str) (v : α) : List (Str × α) := if m.any (fun p => decide (p.1 = x)) then m.map fun p => if p.1 = x then (p.1, v) else p else m ++ [(x, v)]
theorem dec_inr (a x : Str) : decide ((Sum.inr a : Key) = .inr x) = decide (a = x) := by
  by_cases q : a = x
  · rw [q]; simp
  · rw [decide_eq_false q, decide_eq_false fun z => q (Sum.inr.inj z)]
theorem valD_enc {α : Type} (f : α → D) (m : List (Str × α)) (x : Str) : valD (encA f m) (.inr x) = (getA m x).map f := by
  unfold valD encA getA
  rw [List.find?_map, show ((fun kv : Key × D => decide (kv.1 = .inr x)) ∘ fun p : Str × α => ((Sum.inr p.1 : Key), f p.2)) = fun p => decide (p.1 = x) from funext fun p => dec_inr p.1 x]
  cases m.find? fun p => decide (p.1 = x) <;> rfl
theorem putD_enc {α : Type} (f : α → D) (m : List (Str × α)) (x : Str) (v : α) : putD (encA f m) (.inr x) (f v) = encA f (putA' m x v) := by
  unfold putD putA'
  have h : (encA f m).any (fun kv => decide (kv.1 = .inr x)) = m.any fun p => decide (p.1 = x) := by
    unfold encA
    rw [List.any_map]
    congr 1
    exact funext fun p => dec_inr p.1 x
  rw [h]
  split
  · unfold encA
    rw [List.map_map, List.map_map]
    refine List.map_congr_left fun p _ => ?_
    by_cases q : p.1 = x <;> simp [q]
  · unfold encA
    rw [List.map_append]
    rfl
theorem in_dctA {α : Type} (f : α → D) (m : List (Str × α)) (x : Str) : inB (.str x) (.dct (encA f m)) = some (decide (x ∈ m.map (·.1))) := by
  show some (valD (encA f m) (.inr x)).isSome = _
  rw [valD_enc, Option.isSome_map]
  congr 1
  unfold getA
  rw [Option.isSome_map]
  by_cases h : x ∈ m.map (·.1)
  · rw [decide_eq_true h]
    obtain ⟨p, hp, e⟩ := List.mem_map.mp h
    exact List.find?_isSome.mpr ⟨p, hp, decide_eq_true e⟩
  · rw [decide_eq_false h]
    refine Bool.eq_false_iff.mpr fun z => ?_
    obtain ⟨p, hp, e⟩ := List.find?_isSome.mp z
    exact h (List.mem_map.mpr ⟨p, hp, of_decide_eq_true e⟩)
theorem encA_len {α : Type} (f : α → D) (m : List (Str × α)) : (encA f m).length = m.length := List.length_map ..
theorem getA_put {α : Type} (m : List (Str × α)) (x y : Str) (v : α) : getA (putA' m x v) y = if x = y then some v else getA m y := by
  unfold putA'
  split
  · rename_i h
    unfold getA
    rw [List.find?_map]
    have e : ((fun p : Str × α => decide (p.1 = y)) ∘ fun p => if p.1 = x then (p.1, v) else p) = fun p => decide (p.1 = y) := funext fun p => by
      show decide ((if p.1 = x then (p.1, v) else p).1 = y) = _
      split <;> rfl
    rw [e]
    by_cases q : x = y
    · subst q
      rw [if_pos rfl]
      obtain ⟨p, hp, e2⟩ := List.any_eq_true.mp h
      obtain ⟨p', h1⟩ := Option.isSome_iff_exists.mp (List.find?_isSome (p := fun p : Str × α => decide (p.1 = x)) |>.mpr ⟨p, hp, e2⟩)
      have h2 : p'.1 = x := of_decide_eq_true (List.find?_some (p := fun p : Str × α => decide (p.1 = x)) h1)
      rw [h1, Option.map_some, Option.map_some, if_pos h2]
    · rw [if_neg q]
      cases q2 : m.find? fun p => decide (p.1 = y) with
      | none => rfl
      | some p =>
        have h2 : p.1 = y := of_decide_eq_true (List.find?_some (p := fun p : Str × α => decide (p.1 = y)) q2)
        rw [Option.map_some, Option.map_some, if_neg fun z => q (z.symm.trans h2)]
        rfl
  · rename_i h
    unfold getA
    rw [List.find?_append]
    by_cases q : x = y
    · subst q
      rw [if_pos rfl]
      have : (m.find? fun p => decide (p.1 = x)) = none := List.find?_eq_none.mpr fun p hp hx => h (List.any_eq_true.mpr ⟨p, hp, hx⟩)
      rw [this]
      simp
    · rw [if_neg q]
      have : (([(x, v)] : List (Str × α)).find? fun p => decide (p.1 = y)) = none := by simp [q]
      rw [this, Option.or_none]
theorem putA_keys {α : Type} (m : List (Str × α)) (x : Str) (v : α) : (putA' m x v).map (·.1) = if x ∈ m.map (·.1) then m.map (·.1) else m.map (·.1) ++ [x] := by
  unfold putA'
  have h : m.any (fun p => decide (p.1 = x)) = decide (x ∈ m.map (·.1)) := by
    by_cases h : x ∈ m.map (·.1)
    · rw [decide_eq_true h]
      obtain ⟨p, hp, e⟩ := List.mem_map.mp h
      exact List.any_eq_true.mpr ⟨p, hp, decide_eq_true e⟩
    · rw [decide_eq_false h]
      refine Bool.eq_false_iff.mpr fun z => ?_
      obtain ⟨p, hp, e⟩ := List.any_eq_true.mp z
      exact h (List.mem_map.mpr ⟨p, hp, of_decide_eq_true e⟩)
  rw [h]
  by_cases q : x ∈ m.map (·.1)
  · rw [if_pos (decide_eq_true q), if_pos q, List.map_map]
    refine List.map_congr_left fun p _ => ?_
    show (if p.1 = x then (p.1, v) else p).1 = p.1
    split <;> rfl
  · rw [if_neg (by simpa using q), if_neg q, List.map_append]
    rfl
theorem putA_len {α : Type} (m : List (Str × α)) (x : Str) (v : α) : (putA' m x v).length ≤ m.length + 1 := by
  unfold putA'
  split
  · rw [List.length_map]; omega
  · rw [List.length_append, List.length_singleton]; omega
/-! names marked: a dict of names, each with True -/
def encM (l : List Str) : List (Key × D) := l.map fun x => (.inr x, .bl true)
def insM (l : List Str) (x : Str) : List Str := if x ∈ l then l else l ++ [x]
theorem encM_len (l : List Str) : (encM l).length = l.length := List.length_map ..
theorem in_dctM (l : List Str) (x : Str) : inB (.str x) (.dct (encM l)) = some (decide (x ∈ l)) := by
  have : encM l = encA (fun b : Bool => D.bl b) (l.map fun x => (x, true)) := by unfold encM encA; rw [List.map_map]; rfl
  rw [this, in_dctA, List.map_map, show ((fun p : Str × Bool => p.1) ∘ fun x => (x, true)) = id from rfl, List.map_id]
theorem putD_mark (l : List Str) (x : Str) : putD (encM l) (.inr x) (.bl true) = encM (insM l x) := by
  unfold putD insM
  have h : (encM l).any (fun kv => decide (kv.1 = .inr x)) = decide (x ∈ l) := by
    unfold encM
    rw [List.any_map]
    by_cases h : x ∈ l
    · rw [decide_eq_true h]
      exact List.any_eq_true.mpr ⟨x, h, by show decide _ = true; simp⟩
    · rw [decide_eq_false h]
      refine Bool.eq_false_iff.mpr fun z => ?_
      obtain ⟨y, hy, e⟩ := List.any_eq_true.mp z
      have e : (Sum.inr y : Key) = .inr x := of_decide_eq_true e
      exact h (by rw [← Sum.inr.inj e]; exact hy)
  rw [h]
  by_cases q : x ∈ l
  · rw [if_pos (decide_eq_true q), if_pos q]
    unfold encM
    rw [List.map_map]
    refine List.map_congr_left fun y _ => ?_
    show (if (Sum.inr y : Key) = .inr x then ((Sum.inr y : Key), D.bl true) else (.inr y, .bl true)) = _
    split <;> rfl
  · rw [if_neg (by simpa using q), if_neg q]
    unfold encM
    rw [List.map_append]
    rfl
theorem mem_insM {l : List Str} {x y : Str} : y ∈ insM l x ↔ y ∈ l ∨ y = x := by
  unfold insM
  split
  · rename_i h
    exact ⟨.inl, fun q => q.elim id fun e => e ▸ h⟩
  · rw [List.mem_append, List.mem_singleton]
theorem insM_len (l : List Str) (x : Str) : (insM l x).length ≤ l.length + 1 := by
  unfold insM
  split
  · omega
  · rw [List.length_append, List.length_singleton]; omega
theorem insM_nodup {l : List Str} {x : Str} (h : l.Nodup) : (insM l x).Nodup := by
  unfold insM
  split
  · exact h
  · rename_i q
    exact List.nodup_append.mpr ⟨h, by simp, fun a ha b hb => by rw [List.mem_singleton.mp hb]; intro e; exact q (e ▸ ha)⟩
end DL

/-! DL30: dict(list of pairs). -/
namespace DL
open PySem PySem.Spec PyProof.Rows L2
def rDictA (K : PySem.W.Frag) : List V → Hp → VK → Prop := fun xs H Q => rDictR xs H Q ∨ ∃ (a : Addr) (ps : List Addr) (kvs : List (Key × V)), xs = [.ref a] ∧ SqL K H a (ps.map V.ref) ∧ Paired (fun p kv => SqT K H p [kV kv.1, kv.2]) ps kvs ∧ ∀ p, H p = none → Q (.ref p) (upd H p (.dK (mergeK [] kvs)))
theorem call_dictA {X : Cx} (hc : X.calm = true) : CallR X (.type "dict") (rDictA X.K) := fun pins s σ H xs us Q I r h => h.elim (call_dictR pins s σ H xs us Q I r) (call_dictP hc pins s σ H xs us Q I r)
def pairsOf : List D → Option (List (Key × D))
  | [] => some []
  | .tup [k, v] :: r => (match keyD k, pairsOf r with
    | some key, some t => some ((key, v) :: t)
    | _, _ => none)
  | _ => none
def mergeD (kvs more : List (Key × D)) : List (Key × D) := more.foldl (fun acc kv => putD acc kv.1 kv.2) kvs
def ndO : Option (List (Key × D)) → PR
  | some kvs => .nd (mergeD [] kvs)
  | none => .bad
def pDict2 : List D → PR
  | [.dct ds] => .nd ds
  | [.lst ds] => ndO (pairsOf ds)
  | _ => .bad
theorem merge_rep {K : PySem.W.Frag} {G : Hp} : ∀ {vs : List (Key × V)} {ds : List (Key × D)}, RepKV K G vs ds → ∀ {us : List (Key × V)} {es : List (Key × D)}, RepKV K G us es → RepKV K G (mergeK us vs) (mergeD es ds)
  | _, _, .nil, _, _, h => h
  | _, _, .cons r t, _, _, h => merge_rep t (h.put r _)
theorem pairs_rep {K : PySem.W.Frag} {G H : Hp} (m : Grow G H) : ∀ {ds : List D} {vs : List V} {kvs : List (Key × D)}, pairsOf ds = some kvs → RepAll K G vs ds → ∃ (ps : List Addr) (us : List (Key × V)), vs = ps.map V.ref ∧ Paired (fun p kv => SqT K H p [kV kv.1, kv.2]) ps us ∧ RepKV K G us kvs
  | [], _, _, e, .nil => by cases e; exact ⟨[], [], rfl, .nil, .nil⟩
  | d :: ds, _, kvs, e, .cons r t => by
    unfold pairsOf at e
    split at e
    · rename_i hq
      exact absurd hq (by simp)
    · rename_i k v ds' hd
      cases hd
      cases q1 : keyD k with
      | none => simp only [q1] at e; cases e
      | some key =>
        cases q2 : pairsOf ds with
        | none => simp only [q1, q2] at e; cases e
        | some tl =>
          simp only [q1, q2] at e
          cases e
          obtain ⟨ps, us, e1, e2, e3⟩ := pairs_rep m q2 t
          cases r with
          | @tup a ws _ sq ra =>
            cases ra with
            | cons rk rr =>
              cases rr with
              | cons rv rn =>
                cases rn
                have hk := key_v (rk.top (Mono.of m)) q1
                subst hk
                exact ⟨a :: ps, (key, _) :: us, by rw [e1]; rfl, .cons ((Mono.of m).seqT sq).t e2, .cons rv e3⟩
    · cases e
theorem p_dict2 {K : PySem.W.Frag} : PrimN K (rDictA K) pDict2 := by
  intro G H xs ds Q m rs h
  cases rs with
  | nil => exact h.elim
  | cons r t =>
    cases t with
    | cons _ _ => unfold pDict2 at h; cases r <;> exact h.elim
    | nil =>
      cases r with
      | @dct a vs ds g r => exact .inl ⟨a, vs, rfl, g, fun q hq => h q vs hq r⟩
      | @lst a vs ds g r =>
        have h : PPost K G H Q (ndO (pairsOf ds)) := h
        cases q : pairsOf ds with
        | none => rw [q] at h; exact h.elim
        | some kvs =>
          rw [q] at h
          obtain ⟨ps, us, e1, e2, e3⟩ := pairs_rep m q r
          subst e1
          exact .inr ⟨a, ps, us, rfl, .inl g, e2, fun p hp => h p _ hp (merge_rep e3 .nil)⟩
      | _ => exact h.elim
theorem p_dct2a {ds} : pDict2 [.dct ds] = .nd ds := Eq.trans rfl rfl
theorem p_dct2b {ds} : pDict2 [.lst ds] = ndO (pairsOf ds) := Eq.trans rfl rfl
theorem p_ndO {kvs} : ndO (some kvs) = .nd (mergeD [] kvs) := Eq.trans rfl rfl
end DL

/-! DL31: == and != of dicts of texts. -/
namespace DL
open PySem PySem.Spec PyProof.Rows L2
def svK (ks : List (Key × Str)) : List (Key × V) := ks.map fun p => (p.1, .str p.2)
def getK (ls : List (Key × Str)) (k : Key) : Option Str := (ls.find? fun p => decide (p.1 = k)).map (·.2)
def sameK (ks ls : List (Key × Str)) : Bool := decide (ks.length = ls.length) && ks.all fun p => decide (getK ls p.1 = some p.2)
def rDCmp (f : Bool → Bool) : R2 := fun x y H Q => ∃ a b ks ls, x = .ref a ∧ y = .ref b ∧ Rd H a (.dK (svK ks)) ∧ Rd H b (.dK (svK ls)) ∧ Q (.bl (f (sameK ks ls))) H
theorem valV_sv (ls : List (Key × Str)) (k : Key) : valV (svK ls) k = (getK ls k).map V.str := by
  unfold valV svK getK
  rw [List.find?_map]
  rw [show ((fun kv : Key × V => decide (kv.1 = k)) ∘ fun p : Key × Str => (p.1, V.str p.2)) = fun p => decide (p.1 = k) from rfl]
  cases ls.find? fun p => decide (p.1 = k) <;> rfl
theorem hits_sv {A : Around} {s : Shared} {ls : List (Key × Str)} {vb : List (Key × Value)} (rb : KV (svK ls) vb) : ∀ {ks : List (Key × Str)} {va : List (Key × Value)}, KV (svK ks) va → PySem.W.KeqHits A s vb va (ks.all fun p => decide (getK ls p.1 = some p.2)) := by
  intro ks
  induction ks with
  | nil => intro va ra; cases ra; exact .nil
  | cons p ks ih =>
    intro va ra
    unfold KV svK at ra
    rw [List.map_cons] at ra
    cases ra with
    | @cons _ q _ qs h t =>
      obtain ⟨h1, h2⟩ := h
      obtain ⟨key, v⟩ := q
      have h1' : p.1 = key := h1
      obtain ⟨tk, hv⟩ := (show ∃ t, v = Value.str p.2 t from h2)
      subst hv h1'
      have rr : RelO (valV (svK ls) p.1) (valueAt vb p.1) := rb.val p.1
      rw [valV_sv] at rr
      rw [List.all_cons]
      cases q : getK ls p.1 with
      | none =>
        rw [q] at rr
        have hn : valueAt vb p.1 = none := by
          cases e : valueAt vb p.1 with
          | none => rfl
          | some y => rw [e] at rr; cases rr
        rw [show decide ((none : Option Str) = some p.2) = false from rfl, Bool.false_and]
        exact .miss hn
      | some y =>
        rw [q] at rr
        obtain ⟨u, hu, ru⟩ := rr.some_of
        obtain ⟨tk2, hu2⟩ := (show ∃ t, u = Value.str y t from ru)
        subst hu2
        have e1 := PySem.W.keq_flat (A := A) (s := s) (v := .str p.2 tk) (y := .str y tk2) (d := .str p.2) (e := .str y) (fun _ => Reads.str _ _) (fun _ => Reads.str _ _)
        have e2 : PyData.eqv (.str p.2) (.str y) = decide (some y = some p.2) := by
          show (p.2 == y) = _
          by_cases z : p.2 = y
          · subst z; simp
          · rw [decide_eq_false fun w => z (Option.some.inj w).symm]; exact beq_false_of_ne z
        rw [e2] at e1
        exact .hit hu e1 (ih t)
section
variable {X : Cx}
theorem op_dEq (hu : X.A.units + 64 < cLine) : OpR X (compareOp .Eq) (rDCmp id) := by
  intro pins s σ H x y v u Q I rx ry h
  obtain ⟨a, b, ks, ls, rfl, rfl, ha, hb, q⟩ := h
  cases (show v = Value.ref a from rx)
  cases (show u = Value.ref b from ry)
  obtain ⟨_, ya, va, ra, da⟩ := dk_rd I.hok ha
  obtain ⟨_, yb, vb, rb, db⟩ := dk_rd I.hok hb
  refine PySem.W.keq_eq ya yb da db (by omega) (fun _ => hits_sv rb ra) ⟨.bl _, H, I, rfl, ?_⟩
  have e : (va.length == vb.length) = decide (ks.length = ls.length) := by
    rw [← ra.length, ← rb.length]
    unfold svK
    rw [List.length_map, List.length_map]
    rfl
  rw [e]
  exact q
theorem op_dNe (hu : X.A.units + 64 < cLine) : OpR X (compareOp .NotEq) (rDCmp not) := by
  intro pins s σ H x y v u Q I rx ry h
  obtain ⟨a, b, ks, ls, rfl, rfl, ha, hb, q⟩ := h
  cases (show v = Value.ref a from rx)
  cases (show u = Value.ref b from ry)
  obtain ⟨_, ya, va, ra, da⟩ := dk_rd I.hok ha
  obtain ⟨_, yb, vb, rb, db⟩ := dk_rd I.hok hb
  refine PySem.W.keq_ne ya yb da db (by omega) (fun _ => hits_sv rb ra) ⟨.bl _, H, I, rfl, ?_⟩
  have e : (va.length == vb.length) = decide (ks.length = ls.length) := by
    rw [← ra.length, ← rb.length]
    unfold svK
    rw [List.length_map, List.length_map]
    rfl
  rw [e]
  exact q
end
/-- a dict of texts -/
def strKV : List (Key × D) → Option (List (Key × Str))
  | [] => some []
  | (k, .str x) :: r => (strKV r).map ((k, x) :: ·)
  | _ => none
def dcB (f : Bool → Bool) : Option (List (Key × Str)) → Option (List (Key × Str)) → PR
  | some a, some b => .v (.bl (f (sameK a b)))
  | _, _ => .bad
def pDCmp (f : Bool → Bool) (d e : D) : PR := match d, e with
  | .dct a, .dct b => dcB f (strKV a) (strKV b)
  | _, _ => .bad
theorem strKV_rep {K : PySem.W.Frag} {G : Hp} : ∀ {ds : List (Key × D)} {vs : List (Key × V)} {ks : List (Key × Str)}, RepKV K G vs ds → strKV ds = some ks → vs = svK ks
  | _, _, _, .nil, e => by cases e; rfl
  | _, _, _, @RepKV.cons _ _ k v vs d ds r t, e => by
    unfold strKV at e
    cases r with
    | str x =>
      dsimp only at e
      cases q : strKV ds with
      | none => rw [q] at e; cases e
      | some l => rw [q] at e; cases e; rw [strKV_rep t q]; rfl
    | _ => cases e
theorem p_dcmp {K : PySem.W.Frag} {f : Bool → Bool} : Prim2 K (rDCmp f) (pDCmp f) := by
  intro G H x y d e Q m rx ry h
  unfold pDCmp at h
  cases rx with
  | dct g1 r1 =>
    cases ry with
    | dct g2 r2 =>
      dsimp only at h
      unfold dcB at h
      split at h
      · rename_i q1 q2
        have e1 := strKV_rep r1 q1
        have e2 := strKV_rep r2 q2
        subst e1 e2
        exact ⟨_, _, _, _, rfl, rfl, g1, g2, h _ (.bl _)⟩
      · exact h.elim
    | _ => exact h.elim
  | _ => exact h.elim
theorem p_ne_dct {a b} : pNe (.dct a) (.dct b) = .bad := Eq.trans rfl rfl
theorem p_eq_dct {a b} : pEq (.dct a) (.dct b) = .bad := Eq.trans rfl rfl
theorem p_dcmp1 {f a b} : pDCmp f (.dct a) (.dct b) = dcB f (strKV a) (strKV b) := Eq.trans rfl rfl
theorem p_dcb {f a b} : dcB f (some a) (some b) = .v (.bl (f (sameK a b))) := Eq.trans rfl rfl
theorem strKV_map (S : List (Str × Str)) : strKV (S.map fun p => ((.inr p.1 : Key), D.str p.2)) = some (S.map fun p => (.inr p.1, p.2)) := by
  induction S with
  | nil => rfl
  | cons p S ih => rw [List.map_cons, strKV, ih]; rfl
theorem sameK_refl {ks : List (Key × Str)} (h : (ks.map (·.1)).Nodup) : sameK ks ks = true := by
  unfold sameK
  rw [decide_eq_true rfl, Bool.true_and, List.all_eq_true]
  intro p hp
  refine decide_eq_true ?_
  unfold getK
  induction ks with
  | nil => cases hp
  | cons q ks ih =>
    rw [List.find?_cons]
    rw [List.map_cons, List.nodup_cons] at h
    rcases List.mem_cons.mp hp with rfl | hp
    · rw [decide_eq_true rfl]; rfl
    · have : q.1 ≠ p.1 := fun e => h.1 (by rw [e]; exact List.mem_map.mpr ⟨p, hp, rfl⟩)
      rw [decide_eq_false this]
      exact ih h.2 hp
end DL

/-! DL32: == of data with itself. -/
namespace DL
open PySem PySem.Spec PyProof.Rows L2
/-- plain data of nesting at most n -/
inductive ShD : Nat → D → Prop
  | non (n) : ShD n .non
  | bl (n b) : ShD n (.bl b)
  | int (n b) : ShD n (.int b)
  | str (n) {b} (h : PyData.strOk b = true) : ShD n (.str b)
  | lst {n ds} : (∀ d ∈ ds, ShD n d) → ShD (n + 1) (.lst ds)
  | tup {n ds} : (∀ d ∈ ds, ShD n d) → ShD (n + 1) (.tup ds)
theorem pys_lay : ∀ (n : Nat) (ds : List D), (∀ d ∈ ds, (toPy d).canLay0 = true ∧ (toPy d).depth ≤ n) → PyData.canLayAll0 (toPys ds) = true ∧ PyData.depthAll (toPys ds) ≤ n
  | n, [], _ => ⟨rfl, Nat.zero_le _⟩
  | n, d :: ds, h => by
    obtain ⟨a, b⟩ := pys_lay n ds fun x hx => h x (List.mem_cons_of_mem _ hx)
    obtain ⟨c, e⟩ := h d (List.mem_cons_self ..)
    constructor
    · show ((toPy d).canLay0 && PyData.canLayAll0 (toPys ds)) = true
      rw [a, c]; rfl
    · show max (toPy d).depth (PyData.depthAll (toPys ds)) ≤ n
      omega
theorem ShD.lay {n : Nat} {d : D} (h : ShD n d) : (toPy d).canLay0 = true ∧ (toPy d).depth ≤ n := by
  induction h with
  | non n => exact ⟨rfl, Nat.zero_le _⟩
  | bl n b => exact ⟨rfl, Nat.zero_le _⟩
  | int n b => exact ⟨rfl, Nat.zero_le _⟩
  | str n h => exact ⟨h, Nat.zero_le _⟩
  | @lst n ds h ih =>
    obtain ⟨a, b⟩ := pys_lay n ds ih
    exact ⟨a, Nat.succ_le_succ b⟩
  | @tup n ds h ih =>
    obtain ⟨a, b⟩ := pys_lay n ds ih
    exact ⟨a, Nat.succ_le_succ b⟩
theorem ShD.shaped {n : Nat} {d : D} (h : ShD n d) (hn : n ≤ 64) : SeqAt.shaped (toPy d) = true := by
  obtain ⟨a, b⟩ := h.lay
  unfold SeqAt.shaped
  rw [a, decide_eq_true (Nat.le_trans b hn)]
  rfl
theorem ne_self {n : Nat} {d : D} (h : ShD n d) (hn : n ≤ 64) : pNe d d = .v (.bl false) := by
  have s := h.shaped hn
  have e := SeqAt.eqv_refl _ h.lay.1
  cases h with
  | non => rfl
  | bl n b => show PR.v (.bl (!decide (b = b))) = _; simp
  | int n b => show PR.v (.bl (!decide (b = b))) = _; simp
  | @str n b _ => show PR.v (.bl (!decide (b = b))) = _; simp
  | lst h => unfold pNe; dsimp only; rw [if_pos ⟨s, s⟩, e]; rfl
  | tup h => unfold pNe; dsimp only; rw [if_pos ⟨s, s⟩, e]; rfl
theorem eq_self' {n : Nat} {d : D} (h : ShD n d) (hn : n ≤ 64) : pEq d d = .v (.bl true) := by
  have s := h.shaped hn
  have e := SeqAt.eqv_refl _ h.lay.1
  cases h with
  | non => rfl
  | bl n b => show PR.v (.bl (decide (b = b))) = _; simp
  | int n b => show PR.v (.bl (decide (b = b))) = _; simp
  | @str n b _ => show PR.v (.bl (decide (b = b))) = _; simp
  | lst h => unfold pEq; dsimp only; rw [if_pos ⟨s, s⟩, e]
  | tup h => unfold pEq; dsimp only; rw [if_pos ⟨s, s⟩, e]
theorem ShD.up {n m : Nat} {d : D} (h : ShD n d) (hm : n ≤ m) : ShD m d := by
  induction h generalizing m with
  | non => exact .non _
  | bl _ b => exact .bl _ b
  | int _ b => exact .int _ b
  | str _ b => exact .str _ b
  | lst h ih =>
    obtain ⟨k, rfl⟩ : ∃ k, m = k + 1 := ⟨m - 1, by omega⟩
    exact .lst fun d hd => ih d hd (by omega)
  | tup h ih =>
    obtain ⟨k, rfl⟩ : ∃ k, m = k + 1 := ⟨m - 1, by omega⟩
    exact .tup fun d hd => ih d hd (by omega)
theorem shd_map {α : Type} {n : Nat} (f : α → D) (l : List α) (h : ∀ x ∈ l, ShD n (f x)) : ∀ d ∈ l.map f, ShD n d := fun d hd => by
  obtain ⟨x, hx, rfl⟩ := List.mem_map.mp hd
  exact h x hx
theorem shd_strs (n : Nat) {l : List Str} (h : ∀ x ∈ l, PyData.strOk x = true) : ShD (n + 1) (.lst (l.map .str)) := .lst (shd_map _ _ fun x hx => .str _ (h x hx))
theorem shd_tstrs (n : Nat) {l : List Str} (h : ∀ x ∈ l, PyData.strOk x = true) : ShD (n + 1) (.tup (l.map .str)) := .tup (shd_map _ _ fun x hx => .str _ (h x hx))
theorem shd_nil {n : Nat} : ∀ d ∈ ([] : List D), ShD n d := fun d h => by simp at h
theorem shd_cons {n : Nat} {d : D} {ds : List D} (h : ShD n d) (t : ∀ d ∈ ds, ShD n d) : ∀ x ∈ d :: ds, ShD n x := fun x hx => by
  rcases List.mem_cons.mp hx with rfl | hx
  · exact h
  · exact t x hx
/-- two lists of bools side by side -/
theorem ne_bls (a b : List Bool) : pNe (.lst (a.map .bl)) (.lst (b.map .bl)) = .v (.bl (!decide (a = b))) := by
  have sa : ShD 1 (.lst (a.map .bl)) := .lst (shd_map _ _ fun x _ => .bl _ x)
  have sb : ShD 1 (.lst (b.map .bl)) := .lst (shd_map _ _ fun x _ => .bl _ x)
  unfold pNe
  dsimp only
  rw [if_pos ⟨sa.shaped (by decide), sb.shaped (by decide)⟩]
  congr 3
  show PyData.eqvAll (toPys (a.map .bl)) (toPys (b.map .bl)) = decide (a = b)
  induction a generalizing b with
  | nil => cases b with
    | nil => rfl
    | cons y b => rfl
  | cons x a ih =>
    cases b with
    | nil => rfl
    | cons y b =>
      show ((x == y) && PyData.eqvAll (toPys (a.map .bl)) (toPys (b.map .bl))) = _
      rw [ih b (.lst (shd_map _ _ fun x _ => .bl _ x)) (.lst (shd_map _ _ fun x _ => .bl _ x))]
      by_cases q : x = y
      · subst q; simp
      · rw [beq_false_of_ne q]; simp [q]
end DL

/-! DL33: further primitives reckoned. -/
namespace DL
open PySem PySem.Spec PyProof.Rows L2
theorem p_ins {es x i} : mInsert (.lst es) [.int i, x] = if 0 ≤ i ∧ i < 9223372036854775808 ∧ es.length < 16777216 then some (.non, .lst (es.take i.toNat ++ [x] ++ es.drop i.toNat)) else none := by rw [← p63]; rfl
theorem p_pop {es} : mPop (.lst es) [] = (es[es.length - 1]?).map fun y => (y, .lst es.dropLast) := Eq.trans rfl rfl
theorem p_rev {es} : mReverse (.lst es) [] = some (.non, .lst es.reverse) := Eq.trans rfl rfl
/-- an index that falls into a list -/
theorem mod_at {α : Type} (xs : List α) (c : Int) (h : 0 < xs.length) : ∃ (i : Nat) (x : α), c % (xs.length : Int) = i ∧ i < xs.length ∧ xs[i]? = some x ∧ atI xs (c % (xs.length : Int)) = some x ∧ x ∈ xs := by
  have p : (0 : Int) < (xs.length : Int) := by omega
  have m0 := Int.emod_nonneg c (Int.ne_of_gt p)
  have m1 := Int.emod_lt_of_pos c p
  generalize hi : c % (xs.length : Int) = i at m0 m1
  obtain ⟨i, rfl⟩ := Int.eq_ofNat_of_zero_le m0
  have g : xs[i]? = some xs[i] := List.getElem?_eq_getElem (by omega)
  exact ⟨i, xs[i], rfl, by omega, g, by rw [at_nat, g], List.getElem_mem _⟩
theorem mod_nat (c : Int) (n : Nat) (h : 0 < n) : ∃ i : Nat, c % (n : Int) = i ∧ i < n := by
  have p : (0 : Int) < (n : Int) := by omega
  have m0 := Int.emod_nonneg c (Int.ne_of_gt p)
  have m1 := Int.emod_lt_of_pos c p
  obtain ⟨i, e⟩ := Int.eq_ofNat_of_zero_le m0
  exact ⟨i, e, by omega⟩
theorem atI_map {α β : Type} (f : α → β) (xs : List α) (i : Int) : atI (xs.map f) i = (atI xs i).map f := by
  unfold atI
  rw [List.length_map]
  cases ixN xs.length i with
  | none => rfl
  | some j => show (xs.map f)[j]? = (xs[j]?).map f; rw [List.getElem?_map]
end DL

/-! DL34: entering at `x = [[], [], ..]`: an own list of own empty lists. -/
namespace DL
open PySem PySem.Spec PyProof.Rows L2
section
variable {K : PySem.W.Frag} {mg : Str → Option Value} {H0 B G G' G1 H H' f f' : Hp} {ρ ρ' : DEnv} {W : WX} {σ σ' : L2.St} {p q : Addr} {d d' k : D} {i : Nat}
/-- fresh empty lists lie beside -/
structure FE (K : PySem.W.Frag) (H0 B G : Hp) (ρ : DEnv) (f : Hp) (es : List Addr) (σ : L2.St) (H : Hp) : Prop where
  st : StD K (ov H0 f) B G ρ σ H
  of : Off H0 B f
  em : ∀ a ∈ es, f a = some (.lst [])
  nd : es.Nodup
theorem FE.more (h : FE K H0 B G ρ f es σ H) (hp : H p = none) (o : HO) : StD K (ov H0 (upd f p o)) B G ρ σ (upd H p o) ∧ Off H0 B (upd f p o) ∧ f p = none := by
  obtain ⟨g, h0⟩ := h.st.gfree hp
  have fp : f p = none := by
    cases q : f p with
    | none => rfl
    | some u => rw [ov_some q] at h0; cases h0
  rw [ov_none fp] at h0
  refine ⟨h.st.newCell hp, fun a u hu => ?_, fp⟩
  by_cases z : a = p
  · subst z; exact ⟨h0, h.st.bg.free g⟩
  · rw [upd_ne z] at hu; exact h.of a u hu
def cL (K : PySem.W.Frag) (n : Nat) : TA := fun σ H Q => ∃ H0 B G ρ f es, FE K H0 B G ρ f es σ H ∧ ∀ f' es' H', FE K H0 B G ρ f' (es ++ es') σ H' → es'.length = n → Q (es'.map .ref) H'
end
section
variable {X : Cx} {W : WX} {i : Nat} {es : List Expr} {e : Expr} {pos : Pos} {n : Nat}
theorem cl_nil : PA X [] (cL X.K 0) := iA pa_nil fun σ H Q ⟨H0, B, G, ρ, f, es, h, q⟩ => q f [] H (by rw [List.append_nil]; exact h) rfl
theorem cl_cons (hr : PA X es (cL X.K n)) (hs : starEach (.List [] pos :: es) X.env = (false, eval (.List [] pos) X.env) :: starEach es X.env := by rfl) : PA X (.List [] pos :: es) (cL X.K (n + 1)) :=
  iA (pa_cons (hs := hs) (pe_lst pa_nil) hr) fun σ H Q ⟨H0, B, G, ρ, f, es, h, q⟩ => by
    refine ⟨Nat.zero_le _, fun p hp => ?_⟩
    obtain ⟨a, b, fp⟩ := h.more hp (.lst [])
    refine ⟨H0, B, G, ρ, upd f p (.lst []), es ++ [p], ⟨a, b, fun x hx => ?_, ?_⟩, fun f' es' H' h2 hn => ?_⟩
    · rcases List.mem_append.mp hx with hx | hx
      · have := h.em x hx
        rw [upd_ne (fun z => by rw [z, fp] at this; cases this)]
        exact this
      · rw [List.mem_singleton.mp hx, upd_same]
    · refine List.nodup_append.mpr ⟨h.nd, by simp, fun x hx y hy => ?_⟩
      rw [List.mem_singleton.mp hy]
      rintro rfl
      have := h.em x hx
      rw [fp] at this
      cases this
    · have := q f' (p :: es') H' (by rw [List.append_assoc] at h2; exact h2) (by rw [List.length_cons, hn])
      exact this
open Classical in
noncomputable def enterL (i n : Nat) (F : D → DEnv → SR) : SM := fun ρ => if i < ρ.length then blk3 i F (.lst (List.replicate n (.lst []))) ρ else .bad
theorem ds3_enterL {sts : List Stmt} {F : D → DEnv → SR} (i n : Nat) {x : Str} {pos' p2 : Pos} (hN : X.N.Nodup) (he : PA X es (cL X.K n)) (h2 : DSs3 X W i sts F) (hn : n ≤ 1000) (hi : X.N[i]? = some x := by rfl) (hx : Loc X.env.scope x := by first | exact Or.inl rfl | exact Or.inr rfl) (hs : swapsWith (.List es p2) (some (.Name x pos')) pos.line X.env = pure false := by rfl)
    (hf : X.fn x = true ∨ X.env.scope.names.lookup x = some .local := by first | exact .inl rfl | exact .inr rfl | assumption) : DSs X W (.Assign [.Name x pos'] (.List es p2) pos :: sts) (enterL i n F) :=
  iSs (pss_cons (ps_set hN hi hx (pe_lst he) hs hf) h2) fun D σ H ⟨H0, B, G, ρ, I, h⟩ => by
    unfold enterL at h
    by_cases li : i < ρ.length
    · rw [if_pos li] at h
      unfold blk3 at h
      by_cases hxx : ∃ r, ∀ v, F (.lst (List.replicate n (.lst []))) (ρ.set i (.sh (.xn v))) = r
      · rw [dif_pos hxx] at h
        have hr := Classical.choose_spec hxx
        refine ⟨H0, B, G, ρ, (fun _ => none), [], ⟨I, (fun a o e => nomatch e), (fun a ha => nomatch ha), List.nodup_nil⟩, fun f' es' H' h2 hl => ?_⟩
        rw [List.nil_append] at h2
        refine ⟨by rw [List.length_map, hl, sizeLine_eq]; omega, fun p hp => ?_⟩
        obtain ⟨a, b, fp⟩ := h2.more hp (.lst (es'.map .ref))
        have J := a.setS i (v := .ref p) (s := .sh (.xn (.ref p))) ⟨_, rfl, .xn _⟩ (fun _ z => nomatch z)
        refine ⟨H0, B, G, ρ.set i (.sh (.xn (.ref p))), .lst (List.replicate n (.lst [])), ⟨_, p, J, List.getElem?_set_self li, b, ?_⟩, ?_⟩
        · refine ⟨es'.map fun a => (a, .lst []), ?_, ?_, fun e he => ?_, ?_⟩
          · rw [List.map_map]
            rw [← hl]
            clear h2 a b J hl fp
            induction es' with
            | nil => rfl
            | cons a es' ih => rw [List.length_cons, List.replicate_succ, List.map_cons, ih]; rfl
          · rw [upd_same, List.map_map]; rfl
          · obtain ⟨c, hc, rfl⟩ := List.mem_map.mp he
            refine ⟨[], ?_, .nil⟩
            have := h2.em c hc
            rw [upd_ne (fun z => by have z : c = p := z; rw [z, fp] at this; cases this)]
            exact this
          · rw [List.map_map]
            show (p :: es'.map fun a => a).Nodup
            rw [List.map_id']
            refine List.nodup_cons.mpr ⟨fun z => ?_, h2.nd⟩
            have := h2.em p z
            rw [fp] at this
            cases this
        · rw [hr]; exact h
      · rw [dif_neg hxx] at h; exact h.elim
    · rw [if_neg li] at h; exact h.elim
end
end DL

/-! DL35: for .. in x[k]: x a dict of dicts; how statements over an own container of own containers reckon. -/
namespace DL
open PySem PySem.Spec PyProof.Rows L2
/-- what the iterator's expression must give in a heap that reads as this one -/
def Opens (T : TI) (k : DKind) (a : Addr) (σ : L2.St) (H : Hp) : Prop := ∀ (H' : Hp) (od : Obj) (vs : List (Key × V)) (R : It → Hp → Prop), (∀ q u, Rd H q u → Rd H' q u) → H' a = some (.frz od (.dK vs)) → R (dIt k a od vs) H' → T σ H' R
section
variable {X : Cx} {W : WX} {tg iter : Expr} {body : List Stmt} {pos : Pos} {ws : List Nat}
theorem for_dct {T : TI} {k : DKind} {g : GM} {fb : SM} {D : Ends} {σ : L2.St} {H H0 B G1 : Hp} {ρ1 : DEnv} {a : Addr} {ds : List (Key × DL.D)} (I1 : StD X.K H0 B G1 ρ1 σ H) (r1 : Rep X.K G1 (.ref a) (.dct ds)) (hT : Opens T k a σ H)
    (h : SPost X.K X.mg H0 B W D (forL g fb (dItems k ds) ρ1)) :
    tLock (tFor T (cG X.K (dTp k) ws g) (cS X.K X.mg W fb)) D σ H ∨ tFor T (cG X.K (dTp k) ws g) (cS X.K X.mg W fb) D σ H := by
  cases r1 with
  | @dct a vs ds rd r =>
    have open_ : ∀ od, G1 a = some (.dK vs) → H a = some (.frz od (.dK vs)) → tFor T (cG X.K (dTp k) ws g) (cS X.K X.mg W fb) D σ H := fun od g1 h1 =>
      hT H od vs _ (fun _ _ x => x) h1 (for_core (I1.lockG (od := od) (u := .dK vs) trivial g1 h1) (srv_dct (K := X.K) k (upd_same (H := G1) (a := a) (o := .frz od (.dK vs))) (r.mono (Mono.of ((Grow.refl G1).lock (od := od) (u := .dK vs) trivial g1)))) h)
    rcases rd with g1 | ⟨od, g1⟩
    · have h1 : H a = some (.dK vs) ∨ ∃ o, H a = some (.frz o (.dK vs)) := I1.gh.rd a _ trivial (.inl g1)
      rcases h1 with h1 | ⟨o, h1⟩
      · left
        refine ⟨a, .dK vs, h1, trivial, fun od => ?_⟩
        have I2 := I1.lock (od := od) (u := .dK vs) trivial g1 h1
        have nB : ∀ o w, B a ≠ some (.frz o w) := fun o w e => by
          have := I1.bg.fr a o w e
          rw [g1] at this
          cases this
        have n0 : ∀ o w, H0 a ≠ some (.frz o w) := fun o w e => by
          have := I1.h0.m.fr a o w e
          rw [h1] at this
          cases this
        refine hT _ od vs _ (fun q u x => ?_) upd_same ?_
        · by_cases z : q = a
          · subst z
            rcases x with x | ⟨o, x⟩
            · rw [h1] at x; cases x; exact .inr ⟨od, upd_same⟩
            · rw [h1] at x; cases x
          · rcases x with x | ⟨o, x⟩
            · exact .inl (by rw [upd_ne z]; exact x)
            · exact .inr ⟨o, by rw [upd_ne z]; exact x⟩
        have srv := srv_dct (K := X.K) k (upd_same (H := G1) (a := a) (o := .frz od (.dK vs))) (r.mono (Mono.of ((Grow.refl G1).lock (od := od) (u := .dK vs) trivial g1)))
        refine for_core (B := upd G1 a (.frz od (.dK vs))) I2.rebase srv ?_
        have un : ∀ {ρ' : DEnv} {σ' : L2.St} {G' H' : Hp}, StD X.K H0 (upd G1 a (.frz od (.dK vs))) G' ρ' σ' H' → H' a = some (.frz od (.dK vs)) ∧ StD X.K H0 B (upd G' a (.dK vs)) ρ' σ' (upd H' a (.dK vs)) := fun {ρ' σ' G' H'} J => by
          have g' := J.bg.fr a od _ upd_same
          exact ⟨J.gh.fr a od _ g', (I2.unbase J).unlock (od := od) (u := .dK vs) trivial g' nB n0⟩
        cases e : forL g fb (dItems k ds) ρ1 with
        | nx ρ' => rw [e] at h; exact fun σ' G' H' J => ⟨(un J).1, h σ' _ _ (un J).2⟩
        | rt r ρ' =>
          rw [e] at h
          intro v σ' G' H' J x
          refine ⟨(un J).1, h v σ' _ _ (un J).2 ?_⟩
          have g' := J.bg.fr a od _ upd_same
          cases r with
          | sh d => exact Rep.mono (mono_unlock g' (u := .dK vs) trivial) x
          | al j => exact x
          | ow d =>
            obtain ⟨p, ev, gp, h0p, nx, c⟩ := x
            have np : p ≠ a := fun z => by rw [z, g'] at gp; cases gp
            exact ⟨p, ev, by rw [upd_ne np]; exact gp, h0p, nx, c.mono (mono_unlock g' (u := .dK vs) trivial) (upd_ne np)⟩
        | bk ρ' => rw [e] at h; exact fun σ' G' H' J => ⟨(un J).1, h σ' _ _ (un J).2⟩
        | ct ρ' => rw [e] at h; exact fun σ' G' H' J => ⟨(un J).1, h σ' _ _ (un J).2⟩
        | xc c ρ' => rw [e] at h; exact fun cls σ' G' H' J em => h cls σ' G' H' (I2.unbase J) em
        | bad => rw [e] at h; exact h
      · exact .inr (open_ o g1 h1)
    · right
      have h1 := I1.gh.fr a od _ g1
      exact hT H od vs _ (fun _ _ x => x) h1 (for_core I1 (srv_dct (K := X.K) k g1 r) h)
/-- x[k], x a dict and its entry a dict, both held by names -/
def dctAt (i j : Nat) (ρ : DEnv) : Option (List (Key × DL.D)) := match ρ[i]?, ρ[j]? with
  | some (.sh (.dct kvs)), some (.sh k) => (match keyD k with
    | some key => (match valD kvs key with
      | some (.dct es) => some es
      | _ => none)
    | none => none)
  | _, _ => none
def sForIx (i j : Nat) (g : GM) (fb : SM) : SM := fun ρ => match dctAt i j ρ with
  | some es => forL g fb (dItems .keys es) ρ
  | none => sFor (iSeq (eOp2 pIx (eVar i) (eVar j))) g fb ρ
theorem ds_forIx (i j : Nat) {x y : Str} {g : GM} {fb : SM} {npos npos2 p1 : Pos} (hp : PassesOwn (model X.prog X.w) X.A X.env X.xe) (hc : X.calm = true) (hu : X.A.units + 1 < cLine) (hg : DG X false ws tg g) (hb : DSs X W body fb) (hN : X.N[i]? = some x := by rfl) (hv : Vis X.env.scope x := by first | exact Or.inl rfl | exact Or.inr (Or.inl rfl) | exact Or.inr (Or.inr rfl)) (hd : (x == ("__debug__" : Str)) = false := by decide)
    (hcd : (x == ("__classdict__" : Str)) = false := by decide) (hN2 : X.N[j]? = some y := by rfl) (hv2 : Vis X.env.scope y := by first | exact Or.inl rfl | exact Or.inr (Or.inl rfl) | exact Or.inr (Or.inr rfl)) (hd2 : (y == ("__debug__" : Str)) = false := by decide)
    (hcd2 : (y == ("__classdict__" : Str)) = false := by decide) (hpl : PlainIx (.Name y npos2) := by exact fun _ _ => rfl) (hs : ∀ z, foldedSetIterable (.Subscript (.Name x npos) (.Name y npos2) p1) X.env z = pure z := by intro _; rfl) :
    DS X W (.For tg (.Subscript (.Name x npos) (.Name y npos2) p1) body [] pos) (sForIx i j g fb) :=
  have hi : PI X tg (.Subscript (.Name x npos) (.Name y npos2) p1) (iKeys (tOp (rIxA X.K) (tVar i) (tVar j))) := pi_keys (pe_ix (ix_A hu) (pv i hN hv hd hcd) (pv j hN2 hv2 hd2 hcd2) hpl)
  iS (orS (orS (ps_lock (ps_for hp hc hi hg hb hs)) (ps_for hp hc hi hg hb hs)) (ds_for hp hc (di_seq (de_ix (ix_A hu) p_ix (de_var i hN hv hd hcd) (de_var j hN2 hv2 hd2 hcd2) hpl)) hg hb hs)) fun D σ H ⟨H0, B, G, ρ, I, h⟩ => by
    unfold sForIx at h
    cases q : dctAt i j ρ with
    | none => rw [q] at h; exact .inr ⟨H0, B, G, ρ, I, h⟩
    | some es =>
      rw [q] at h
      left
      unfold dctAt at q
      split at q
      · rename_i kvs k e1 e2
        split at q
        · rename_i key e3
          split at q
          · rename_i es' e4
            cases q
            obtain ⟨v1, s1, r1⟩ := I.sh e1
            obtain ⟨v2, s2, r2⟩ := I.sh e2
            have hy : v2 = kV key := key_v (r2.top I.m) e3
            cases r1 with
            | @dct p vs _ rd r =>
              have rv := r.val key
              rw [e4] at rv
              obtain ⟨w, e5, rw_⟩ := rv.some_of
              cases rw_ with
              | @dct a vs2 _ rd2 r2' =>
                refine for_dct I (.dct rd2 r2') (fun H' od vs3 R hrd ha hR => ?_) h
                refine ⟨_, s1, _, s2, .inr ⟨p, .ref a, rfl, ?_, a, od, rfl, .inl ⟨vs3, ha, hR⟩⟩⟩
                rw [hy, ← e5]
                exact .inl ⟨vs, key, hrd p _ (I.gh.rd p _ trivial rd), rfl, rfl⟩
          · cases q
        · cases q
      · cases q
end
/-! how they reckon -/
theorem for2_nil {g : GM} {b : SM2} {d : D} {ρ : DEnv} : for2L g b [] d ρ = .nx d ρ := rfl
theorem for2_eq {i : Nat} {it : IM} {g : GM} {b : SM2} {d : D} {ρ : DEnv} {xs : List D} (h : it ρ = .ok xs ρ) : for2 i it g b d ρ = for2L g b xs d ρ := by
  unfold for2
  rw [h]
  simp only [if_true]
theorem new2_eq {i : Nat} {fk fv : EM} {kvs : List (Key × D)} {ρ : DEnv} {d1 k : D} {key : Key} (h1 : fv ρ = .ok (.ow d1) ρ) (h2 : fk ρ = .ok (.sh k) ρ) (h3 : keyD k = some key) (h4 : key ∉ kvs.map (·.1)) (h5 : kvs.length < 16777216) :
    new2 i fk fv (.dct kvs) ρ = .nx (.dct (kvs ++ [(key, d1)])) ρ := by
  have h6 : kvs.any (fun kv => decide (kv.1 = key)) = false := by
    cases q : kvs.any (fun kv => decide (kv.1 = key)) with
    | false => rfl
    | true =>
      obtain ⟨z, hz, e⟩ := List.any_eq_true.mp q
      exact absurd (List.mem_map.mpr ⟨z, hz, of_decide_eq_true e⟩) h4
  unfold new2
  simp only [h1, h2, h3]
  rw [if_pos ⟨h6, h5, trivial, trivial⟩]
theorem put2_eq {i : Nat} {f1 f2 fv : EM} {d : D} {ρ : DEnv} {v k1 k2 c c' : D} (h0 : fv ρ = .ok (.sh v) ρ) (h1 : f1 ρ = .ok (.sh k1) ρ) (h2 : f2 ρ = .ok (.sh k2) ρ) (h3 : inner d k1 = some c) (h4 : putO c k2 v = some c') (h5 : flatD k1 = true) :
    put2 i f1 f2 fv d ρ = .nx (setIn d k1 c') ρ := by
  unfold put2
  simp only [h0, h1, h2, h3, h4]
  rw [if_pos ⟨h5, trivial, trivial, trivial⟩]
theorem mut2_eq {i : Nat} {T : String} {p : D → List D → Option (D × D)} {f1 fv : EM} {d : D} {ρ : DEnv} {v k1 c c' y : D} (h0 : fv ρ = .ok (.sh v) ρ) (h1 : f1 ρ = .ok (.sh k1) ρ) (h3 : inner d k1 = some c) (h4 : p c [v] = some (y, c')) (h5 : flatD k1 = true) (h6 : kindOk T c = true) :
    mut2 i T p f1 fv d ρ = .nx (setIn d k1 c') ρ := by
  unfold mut2
  simp only [h0, h1, h3, h4]
  rw [if_pos ⟨h5, h6, trivial, trivial⟩]
theorem in2_eq {i : Nat} {f : EM} {kvs : List (Key × D)} {ρ : DEnv} {k : D} {key : Key} (h : f ρ = .ok (.sh k) ρ) (h2 : keyD k = some key) : in2 i f (.dct kvs) ρ = some ((valD kvs key).isSome, ρ) := by
  unfold in2
  simp only [h, h2]
  rw [if_pos trivial]
theorem lift2_eq {i : Nat} {f : SM} {d : D} {ρ ρ' : DEnv} (h : f ρ = .nx ρ') (h2 : ρ'[i]? = ρ[i]?) : lift2 i f d ρ = .nx d ρ' := by
  unfold lift2
  simp only [h]
  rw [if_pos h2]
theorem liftT_eq {i : Nat} {f : TM} {d : D} {ρ : DEnv} {b : Bool} (h : f ρ = .ok b ρ) : liftT i f d ρ = some (b, ρ) := by
  unfold liftT
  simp only [h]
  rw [if_pos trivial]
theorem if2_eq {c : TM2} {F G : SM2} {d : D} {ρ : DEnv} {b : Bool} (h : c d ρ = some (b, ρ)) : if2 c F G d ρ = if b = true then F d ρ else G d ρ := by
  unfold if2
  simp only [h]
theorem seq2_eq {F G : SM2} {d d' : D} {ρ ρ' : DEnv} (h : F d ρ = .nx d' ρ') : seq2 F G d ρ = G d' ρ' := by
  unfold seq2
  simp only [h]
theorem seq3_eq {f : SM2} {F : D → DEnv → SR} {d d' : D} {ρ ρ' : DEnv} (h : f d ρ = .nx d' ρ') : seq3 f F d ρ = F d' ρ' := by
  unfold seq3
  simp only [h]
theorem enter3_eq {i : Nat} {f : SM} {F : D → DEnv → SR} {ρ ρ' : DEnv} {r : SR} (h : f ρ = .nx ρ') (h1 : ρ'[i]? = some (.ow (.dct []))) (h2 : ∀ v, F (.dct []) (ρ'.set i (.sh (.xn v))) = r) : enter3 i f F ρ = r := by
  unfold enter3
  simp only [h]
  rw [if_pos h1]
  exact blk3_eq h2
theorem enterL_eq {i n : Nat} {F : D → DEnv → SR} {ρ : DEnv} {r : SR} (h1 : i < ρ.length) (h2 : ∀ v, F (.lst (List.replicate n (.lst []))) (ρ.set i (.sh (.xn v))) = r) : enterL i n F ρ = r := by
  unfold enterL
  rw [if_pos h1]
  exact blk3_eq h2
theorem v_forIx {i j : Nat} {g : GM} {fb : SM} {ρ : DEnv} {kvs es : List (Key × D)} {k : D} {key : Key} (e1 : ρ[i]? = some (.sh (.dct kvs))) (e2 : ρ[j]? = some (.sh k)) (e3 : keyD k = some key) (e4 : valD kvs key = some (.dct es)) : sForIx i j g fb ρ = forL g fb (dItems .keys es) ρ := by
  unfold sForIx dctAt
  simp only [e1, e2, e3, e4]
end DL

/-! DL36: y = x[k]; y.m(..): an inner own container changed by another name; x = [list(..) for ..] as an own list of own lists. -/
namespace DL
open PySem PySem.Spec PyProof.Rows L2
open Classical in
noncomputable def via2 (i j : Nat) (fk fe : EM) : SM2 := fun d ρ => match fk ρ with
  | .ok (.sh k) ρ1 => (match inner d k with
    | some c => if flatD k = true ∧ i ≠ j ∧ j < ρ.length ∧ ρ1 = ρ then
        (match fe (ρ.set j (.ow c)) with
        | .ok _ ρ2 => if ρ2[i]? = ρ[i]? then (match ρ2[j]? with
            | some (.ow c') => .nx (setIn d k c') (ρ2.set j .un)
            | _ => .bad) else .bad
        | _ => .bad) else .bad
    | none => .bad)
  | _ => .bad
section
variable {X : Cx} {W : WX} {sts : List Stmt} {k e : Expr} {pos pos2 : Pos}
theorem ds3_via (i j : Nat) {x y : Str} {fk fe : EM} {F : D → DEnv → SR} {npos p1 pos' : Pos} (hu : X.A.units + 1 < cLine) (hNd : X.N.Nodup) (hk : DE X W k fk) (he : DE X W e fe) (h3 : DSs3 X W i sts F) (hN : X.N[i]? = some x := by rfl) (hvs : Vis X.env.scope x := by first | exact Or.inl rfl | exact Or.inr (Or.inl rfl) | exact Or.inr (Or.inr rfl)) (hd : (x == ("__debug__" : Str)) = false := by decide)
    (hcd : (x == ("__classdict__" : Str)) = false := by decide) (hpl : PlainIx k := by exact fun _ _ => rfl) (hj : X.N[j]? = some y := by rfl) (hy : Loc X.env.scope y := by first | exact Or.inl rfl | exact Or.inr rfl) (hs1 : swapsWith (.Subscript (.Name x npos) k p1) (some (.Name y pos')) pos.line X.env = pure false := by rfl)
    (hf : X.fn y = true ∨ X.env.scope.names.lookup y = some .local := by first | exact .inl rfl | exact .inr rfl | assumption) (hs2 : swapsWith e none pos2.line X.env = pure false := by rfl) :
    DSs3 X W i (.Assign [.Name y pos'] (.Subscript (.Name x npos) k p1) pos :: .Expr e pos2 :: sts) (seq3 (via2 i j fk fe) F) :=
  iSs (pss_cons (ps_set hNd hj hy (pe_ix (ix_A hu) (pv i hN hvs hd hcd) hk hpl) hs1 hf) (pss_cons (ps_expr he hs2) h3)) fun D σ H ⟨H0, B, G, ρ, d, ⟨f0, p, I, e0, of, dp⟩, h⟩ => by
    unfold seq3 via2 at h
    cases q1 : fk ρ with
    | xc c ρ1 => rw [q1] at h; exact h.elim
    | bad => rw [q1] at h; exact h.elim
    | ok rk ρ1 =>
      cases rk with
      | ow _ => rw [q1] at h; exact h.elim
      | al _ => rw [q1] at h; exact h.elim
      | sh kd =>
        simp only [q1] at h
        cases q2 : inner d kd with
        | none => simp only [q2] at h; exact h.elim
        | some c =>
          simp only [q2] at h
          by_cases z : flatD kd = true ∧ i ≠ j ∧ j < ρ.length ∧ ρ1 = ρ
          · simp only [if_pos z] at h
            obtain ⟨z0, nij, lj, z1⟩ := z
            subst z1
            refine ⟨_, I.pinned e0, ?_⟩
            refine cE2 I q1 fun yv G2 H2 s2 I2 ry => ?_
            have dp2 := dp.mono (Mono.of s2)
            obtain ⟨q, o, ho, nqp, cq, rd, wr⟩ := deep_at dp2 q2 (flat_rep ry z0)
            have hpp : H2 p = f0 p := by
              obtain ⟨u, hu2⟩ : ∃ u, f0 p = some u := by
                cases d with
                | lst ds => obtain ⟨es, _, e2, _⟩ := dp2; exact ⟨_, e2⟩
                | dct ds => obtain ⟨es, _, e2, _⟩ := dp2; exact ⟨_, e2⟩
                | _ => exact dp2.elim
              rw [hu2]
              exact (I2.atCell of hu2).1
            refine rd H2 _ hpp ?_
            have cq2 : Cell X.K G2 H2 q c := cq.mono (Mono.refl _) (by rw [ho]; exact (I2.atCell of ho).1)
            -- the inner one is taken out and held by the other name
            obtain ⟨f', n', ef, ne⟩ := ov_cut (h := H0) ho
            have J : StD X.K (ov H0 f') B G2 ρ1 σ H2 := I2.shrink fun a u hu => by
              rw [ef]
              by_cases za : a = q
              · subst za; rw [ov_none n', (of a o ho).1] at hu; cases hu
              · rw [upd_ne za]; exact hu
            have nx : ∀ (m : Nat) (e : DL.D), ρ1[m]? = some (.ow e) → σ[m]? ≠ some (some (.ref q)) := fun m e a b => by
              obtain ⟨r, e1, _, h0, _⟩ := I2.ow a
              rw [b] at e1
              cases e1
              rw [ov_some ho] at h0
              cases h0
            have J1 := J.setS j (v := .ref q) (s := .ow c) ⟨q, rfl, (I2.atCell of ho).2, by rw [ov_none n']; exact (of q o ho).1, cq2⟩ (fun _ _ r er => by cases er; exact nx)
            refine ⟨ov H0 f', B, G2, ρ1.set j (.ow c), J1, ?_⟩
            cases q3 : fe (ρ1.set j (.ow c)) with
            | xc c ρ2 => simp only [q3] at h; exact h.elim
            | bad => simp only [q3] at h; exact h.elim
            | ok r ρ2 =>
              simp only [q3] at h
              by_cases w : ρ2[i]? = ρ1[i]?
              · simp only [if_pos w] at h
                cases q4 : ρ2[j]? with
                | none => simp only [q4] at h; exact h.elim
                | some s =>
                  cases s with
                  | un => simp only [q4] at h; exact h.elim
                  | sh _ => simp only [q4] at h; exact h.elim
                  | ow c' =>
                    simp only [q4] at h
                    intro v3 G3 H3 s3 J3 _
                    obtain ⟨r, e1, g3, h03, c3⟩ := J3.ow q4
                    have er : r = q := by
                      rw [List.getElem?_set_self (by rw [← J.len]; exact lj)] at e1
                      cases e1
                      rfl
                    subst er
                    obtain ⟨o', ho'⟩ := c3.there
                    have nx3 : ∀ (m : Nat) (e : DL.D), (ρ2.set j .un)[m]? = some (.ow e) → (σ.set j (some (V.ref r)))[m]? ≠ some (some (.ref r)) := fun m e a b => by
                      rcases set_get a with ⟨_, z2⟩ | ⟨nm, a⟩
                      · cases z2
                      · exact nm (J3.dj m j e c' r a q4 b e1)
                    have J4 : StD X.K (ov H0 f') B G3 (ρ2.set j .un) _ H3 := J3.reslot (s := .un) True.intro (fun _ z => nomatch z)
                    have J5 := J4.adopt ho' g3 h03 nx3
                    rw [← ov_upd] at J5
                    have fe_ : upd f' r o' = upd f0 r o' := by
                      funext a
                      by_cases za : a = r
                      · subst za; rw [upd_same, upd_same]
                      · rw [upd_ne za, upd_ne za, ne a za]
                    rw [fe_] at J5
                    refine ⟨H0, B, G3, ρ2.set j .un, setIn d kd c', ⟨upd f0 r o', p, J5, ?_, ?_, ?_⟩, h⟩
                    · rw [List.getElem?_set_ne (Ne.symm nij), w]; exact e0
                    · intro a u hu3
                      by_cases za : a = r
                      · subst za; exact of a o ho
                      · rw [upd_ne za] at hu3; exact of a u hu3
                    · exact wr G3 o' c' (Mono.of s3) (c3.mono (Mono.refl _) (by rw [upd_same, ho']))
              · simp only [if_neg w] at h; exact h.elim
          · simp only [if_neg z] at h; exact h.elim
end
theorem via2_eq {i j : Nat} {fk fe : EM} {d k c c' : D} {ρ ρ2 : DEnv} {r : R} (h1 : fk ρ = .ok (.sh k) ρ) (h2 : inner d k = some c) (h3 : flatD k = true) (h4 : i ≠ j) (h5 : j < ρ.length) (h6 : fe (ρ.set j (.ow c)) = .ok r ρ2) (h7 : ρ2[i]? = ρ[i]?) (h8 : ρ2[j]? = some (.ow c')) : via2 i j fk fe d ρ = .nx (setIn d k c') (ρ2.set j .un) := by
  unfold via2
  simp only [h1, h2]
  rw [if_pos ⟨h3, h4, h5, trivial⟩]
  simp only [h6]
  rw [if_pos h7]
  simp only [h8]
end DL

/-! DL37: x = [list(..) for ..], an own list of own lists. -/
namespace DL
open PySem PySem.Spec PyProof.Rows L2
def lcO (vs : List Nat) (g : GM) (elt : EM) : List D → List D → DEnv → Option (List D × DEnv)
  | [], acc, ρ => some (acc, ρ)
  | d :: ds, acc, ρ => match g d ρ with
    | none => none
    | some ρ1 => match elt ρ1 with
      | .ok (.ow e) ρ2 => lcO vs g elt ds (acc ++ [e]) (wipeD ρ2 vs)
      | _ => none
noncomputable def enterC (i : Nat) (vs : List Nat) (it : IM) (g : GM) (elt : EM) (F : D → DEnv → SR) : SM := fun ρ => match it ρ with
  | .ok ds ρ1 => if ds.length ≤ 16777216 ∧ i < ρ1.length then (match lcO vs g elt ds [] (wipeD ρ1 vs) with
    | some (acc, ρ2) => blk3 i F (.lst acc) ρ2
    | none => .bad) else .bad
  | _ => .bad
section
variable {K : PySem.W.Frag} {mg : Str → Option Value} {H0 B G G1 G2 H : Hp} {ρ ρ' : DEnv} {W : WX} {σ σ' : L2.St} {p : Addr}
theorem StD.unbaseOv {f : Hp} {H' : Hp} (I : StD K H0 B G1 ρ σ H) (of : Off H0 G1 f) (J : StD K (ov H0 f) G1 G2 ρ' σ' H') : StD K (ov H0 f) B G2 ρ' σ' H' := by
  have key : ∀ a o, ov H0 f a = some o → B a = none → G1 a = none := fun a o q n => by
    cases q2 : f a with
    | some u => exact (of a u q2).2
    | none =>
      rw [ov_none q2] at q
      cases q3 : G1 a with
      | none => rfl
      | some u =>
        have := I.nb a u q3 n
        rw [q] at this
        cases this
  refine ⟨J.gh, ⟨J.h0.m, fun a o q n => J.h0.own a o q (key a o q n)⟩, I.bg.trans J.bg, fun a o q n => ?_, J.len, J.sl, J.dj⟩
  cases q2 : G1 a with
  | none => exact J.nb a o q q2
  | some u =>
    cases q3 : f a with
    | some w => have := (of a w q3).2; rw [q2] at this; cases this
    | none =>
      rw [ov_none q3]
      exact I.nb a u q2 n
theorem unwipe {vs : List Nat} {ρ2 : DEnv} {σ : L2.St} {H' : Hp} (J : StD K H0 G1 G2 (wipeD ρ2 vs) (wipe σ vs) H') : StD K H0 G1 G2 (wipeD ρ2 vs) σ H' := by
  refine ⟨J.gh, J.h0, J.bg, J.nb, by rw [J.len, wipe_length], fun j s e => ?_, fun j k d e q a b f1 f2 => ?_⟩
  · rcases wipeD_get e with rfl | ⟨_, nj⟩
    · trivial
    · have := J.sl j s e
      rw [wipe_out' nj] at this
      exact this
  · rcases wipeD_get a with z | ⟨_, nj⟩
    · cases z
    · rcases wipeD_get b with z | ⟨_, nk⟩
      · cases z
      · exact J.dj j k d e q a b (by rw [wipe_out' nj]; exact f1) (by rw [wipe_out' nk]; exact f2)
theorem wipe_same {vs ws : List Nat} {σ σ3 : L2.St} (hw : ∀ w ∈ ws, w ∈ vs) (w3 : ∀ us : List Nat, (∀ w ∈ ws, w ∈ us) → wipe σ3 us = wipe (wipe σ vs) us) : wipe σ3 vs = wipe σ vs := by
  rw [w3 vs hw]
  apply List.ext_getElem?
  intro j
  by_cases hj : j ∈ vs
  · have wn : ∀ (τ : L2.St) (us : List Nat), j ∈ us → (wipe τ us)[j]? = (if j < τ.length then some none else none) := by
      intro τ us
      induction us with
      | nil => intro h; cases h
      | cons u us ih =>
        intro h
        unfold wipe
        by_cases e : u = j
        · subst e
          by_cases l : u < τ.length
          · rw [List.getElem?_set_self (by rw [wipe_length]; exact l), if_pos l]
          · rw [if_neg l, List.getElem?_eq_none]
            rw [List.length_set, wipe_length]
            omega
        · rw [List.getElem?_set_ne e]
          rcases List.mem_cons.mp h with z | z
          · exact absurd z.symm e
          · exact ih z
    rw [wn _ _ hj, wn _ _ hj, wipe_length]
  · rw [wipe_out' hj]
/-- one more inner list -/
theorem deep_snoc {f : Hp} {G G' : Hp} {acc : List D} {q : Addr} {o : HO} {e : D} (h : Deep K G f p (.lst acc)) (m : Mono G G') (hq : f q = none) (c : Cell K G' (upd f q o) q e) :
    ∃ vs, f p = some (.lst vs) ∧ vs.length = acc.length ∧ Deep K G' (upd (upd f q o) p (.lst (vs ++ [.ref q]))) p (.lst (acc ++ [e])) := by
  obtain ⟨es, rfl, e2, hc, nd⟩ := h
  have npq : p ≠ q := fun z => by rw [← z, e2] at hq; cases hq
  have nq : ∀ x ∈ es, x.1 ≠ q := fun x hx z => by
    obtain ⟨u, hu⟩ := (hc x hx).there
    rw [z, hq] at hu
    cases hu
  have np : ∀ x ∈ es, x.1 ≠ p := fun x hx z => (List.nodup_cons.mp nd).1 (by rw [← z]; exact List.mem_map.mpr ⟨x, hx, rfl⟩)
  refine ⟨_, e2, by simp, es ++ [(q, e)], by simp, ?_, fun x hx => ?_, ?_⟩
  · rw [upd_same, List.map_append]; rfl
  · rcases List.mem_append.mp hx with hx | hx
    · exact (hc x hx).mono m (by rw [upd_ne (np x hx), upd_ne (nq x hx)])
    · rw [List.mem_singleton.mp hx]
      exact c.mono (Mono.refl _) (by rw [upd_ne (Ne.symm npq)])
  · rw [List.map_append]
    obtain ⟨n1, n2⟩ := List.nodup_cons.mp nd
    refine List.nodup_cons.mpr ⟨fun z => ?_, List.nodup_append.mpr ⟨n2, by simp, fun a ha b hb => ?_⟩⟩
    · rcases List.mem_append.mp z with z | z
      · exact n1 z
      · exact npq (List.mem_singleton.mp z)
    · rw [List.mem_singleton.mp hb]
      obtain ⟨x, hx, rfl⟩ := List.mem_map.mp ha
      exact nq x hx
end
theorem lcO_imp {K : PySem.W.Frag} {mg : Str → Option Value} {W : WX} {tp : Bool} {ws vs : List Nat} {it : IM} {g : GM} {fe : EM} {i : Nat} {F : D → DEnv → SR} {D : Ends} {σ : L2.St} {H H0 B G : Hp} {ρ : DEnv} (hw : ∀ w ∈ ws, w ∈ vs) (I : StD K H0 B G ρ σ H) (h : SPost K mg H0 B W D (enterC i vs it g fe F ρ)) :
    tLc (cI K mg W tp it) (cG K tp ws g) (cT K mg WF tYesD) (cE K mg WF fe) vs σ H (fun v H' => c3S K mg W i F D (σ.set i (some v)) H') := by
  refine ⟨H0, B, G, ρ, I, ?_⟩
  unfold enterC at h
  cases q : it ρ with
  | xc c ρ1 => rw [q] at h; exact h.elim
  | bad => rw [q] at h; exact h.elim
  | ok ds ρ1 =>
    simp only [q] at h
    by_cases hz : ds.length ≤ 16777216 ∧ i < ρ1.length
    · simp only [if_pos hz] at h
      cases hl : lcO vs g fe ds [] (wipeD ρ1 vs) with
      | none => simp only [hl] at h; exact h.elim
      | some r =>
        obtain ⟨accF, ρF⟩ := r
        simp only [hl] at h
        unfold blk3 at h
        by_cases hxx : ∃ r, ∀ v, F (.lst accF) (ρF.set i (.sh (.xn v))) = r
        · rw [dif_pos hxx] at h
          have hr := Classical.choose_spec hxx
          intro J G1 H1 s1 I1 srv p hp
          obtain ⟨g1p, h0p⟩ := I1.gfree hp
          refine ⟨fun n m H => m = ds.length - n ∧ n ≤ ds.length ∧ ∃ acc f G2 ρ2, StD K (ov H0 f) G1 G2 (wipeD ρ2 vs) (wipe σ vs) H ∧ Off H0 G1 f ∧ Deep K G2 f p (.lst acc) ∧ acc.length ≤ n ∧ lcO vs g fe (ds.drop n) acc (wipeD ρ2 vs) = some (accF, ρF),
            ⟨ds.length, rfl, Nat.zero_le _, [], upd (fun _ => none) p (.lst []), G1, ρ1, ?_, ?_, ⟨[], rfl, upd_same, (fun e he => absurd he (by simp)), by simp⟩, Nat.le_refl _, hl⟩, ?_⟩
          · have a : StD K (ov H0 fun _ => none) G1 G1 ρ1 σ H1 := I1.rebase
            exact (a.newCell (o := .lst []) hp).wiped (by rw [wipe_length]) fun i ni => wipe_out' ni
          · intro a u hu
            by_cases z : a = p
            · subst z; exact ⟨h0p, g1p⟩
            · rw [upd_ne z] at hu; cases hu
          · rintro n m H2 ⟨rfl, hn, acc, f, G2, ρ2, I2, of, dp, hacc, h2⟩
            obtain ⟨sgo, sstop, syld⟩ := srv H2 (I2.bg.trans I2.gh)
            by_cases hlt : n < ds.length
            · obtain ⟨d, hd⟩ := lt_get hlt
              rw [drop_get hd] at h2
              refine .inr ⟨sgo n hlt, fun H => ∃ acc f G2 ρ2, StD K (ov H0 f) G1 G2 (wipeD ρ2 vs) (wipe σ vs) H ∧ Off H0 G1 f ∧ Deep K G2 f p (.lst acc) ∧ acc.length ≤ n + 1 ∧ lcO vs g fe (ds.drop (n + 1)) acc (wipeD ρ2 vs) = some (accF, ρF),
                fun H' n' => ⟨ds.length - (n + 1), by omega, rfl, hlt, n'⟩, fun x H' y => ?_⟩
              obtain ⟨d', hd', yy⟩ := syld n x H' hlt y
              rw [hd] at hd'
              cases hd'
              have go : ∀ {H3 : Hp}, StD K (ov H0 f) G1 G2 (wipeD ρ2 vs) (wipe σ vs) H3 → RepY K G2 H3 tp x d →
                  cG K tp ws g x (wipe σ vs) H3 fun σ2 H2 => wipe σ2 vs = wipe σ vs ∧ cT K mg WF tYesD σ2 H2 fun b H3 => if b = true then cE K mg WF fe σ2 H3 fun y H4 => ∃ ac, H4 p = some (.lst ac) ∧ ac.length < sizeLine ∧
                    (∃ acc f G2 ρ2, StD K (ov H0 f) G1 G2 (wipeD ρ2 vs) (wipe σ vs) (upd H4 p (.lst (ac ++ [y]))) ∧ Off H0 G1 f ∧ Deep K G2 f p (.lst acc) ∧ acc.length ≤ n + 1 ∧ lcO vs g fe (ds.drop (n + 1)) acc (wipeD ρ2 vs) = some (accF, ρF))
                    else ∃ acc f G2 ρ2, StD K (ov H0 f) G1 G2 (wipeD ρ2 vs) (wipe σ vs) H3 ∧ Off H0 G1 f ∧ Deep K G2 f p (.lst acc) ∧ acc.length ≤ n + 1 ∧ lcO vs g fe (ds.drop (n + 1)) acc (wipeD ρ2 vs) = some (accF, ρF) := fun {H3} I3 ry => by
                refine ⟨ov H0 f, G1, G2, wipeD ρ2 vs, d, I3, ry, ?_⟩
                rw [lcO] at h2
                cases q3 : g d (wipeD ρ2 vs) with
                | none => simp only [q3] at h2; cases h2
                | some ρ3 =>
                  simp only [q3] at h2
                  intro σ3 w3 J3
                  have ew : wipe σ3 vs = wipe σ vs := wipe_same hw w3
                  refine ⟨ew, ov H0 f, G1, G2, ρ3, J3, ?_⟩
                  show ∀ G' H', Grow G2 G' → StD K (ov H0 f) G1 G' ρ3 σ3 H' → _
                  intro G4 H4 s4 J4
                  rw [if_pos rfl]
                  refine ⟨ov H0 f, G1, G4, ρ3, J4, ?_⟩
                  cases q5 : fe ρ3 with
                  | xc c ρ5 => simp only [q5] at h2; cases h2
                  | bad => simp only [q5] at h2; cases h2
                  | ok r ρ5 =>
                    cases r with
                    | sh _ => simp only [q5] at h2; cases h2
                    | al _ => simp only [q5] at h2; cases h2
                    | ow e =>
                      simp only [q5] at h2
                      intro v G5 H5 s5 J5 x5
                      obtain ⟨a, rfl, g5, h05, nx, c⟩ := x5
                      obtain ⟨o, ho⟩ := c.there
                      have fa : f a = none := by
                        cases w : f a with
                        | none => rfl
                        | some u => rw [ov_some w] at h05; cases h05
                      have hH0 : H0 a = none := by rw [ov_none fa] at h05; exact h05
                      have J6 := J5.adopt ho g5 h05 nx
                      rw [← ov_upd] at J6
                      have of2 : Off H0 G1 (upd f a o) := fun b u hu => by
                        by_cases z : b = a
                        · subst z; exact ⟨hH0, J5.bg.free g5⟩
                        · rw [upd_ne z] at hu; exact of b u hu
                      obtain ⟨rs, fp, lr, dp2⟩ := deep_snoc (o := o) dp (Mono.of (s4.trans s5)) fa (c.mono (Mono.refl _) (by rw [upd_same, ho]))
                      have npa : p ≠ a := fun z => by rw [← z, fp] at fa; cases fa
                      have fp2 : (upd f a o) p = some (.lst rs) := by rw [upd_ne npa]; exact fp
                      have J7 := J6.cell (o' := .lst (rs ++ [.ref a])) of2 fp2
                      refine ⟨rs, (J6.atCell of2 fp2).1, by rw [sizeLine_eq, lr]; omega, acc ++ [e], _, G5, ρ5, ?_, fun b u hu => ?_, dp2, ?_, h2⟩
                      · rw [← ew]
                        exact J7.wiped (by rw [wipe_length]) fun i ni => wipe_out' ni
                      · by_cases z : b = p
                        · subst z; exact of b _ fp
                        · rw [upd_ne z] at hu; exact of2 b u hu
                      · rw [List.length_append, List.length_singleton]; omega
              rcases yy with ⟨e, r⟩ | ⟨et, a, us, es, ha, e, ex, ed, rs⟩
              · subst e
                exact go I2 (.inl (r.mono (Mono.of I2.bg)))
              · subst e
                exact go (I2.alloc ha) (.inr ⟨et, a, us, es, ex, upd_same, ed, rs.mono (Mono.of I2.bg)⟩)
            · have e : n = ds.length := by omega
              subst e
              rw [List.drop_length, lcO] at h2
              cases h2
              refine .inl ⟨sstop, ?_⟩
              have J2 := I1.unbaseOv of (unwipe I2)
              have li : i < (wipeD ρ2 vs).length := by rw [J2.len, ← I1.len]; exact hz.2
              have J3 := J2.setS i (v := .ref p) (s := .sh (.xn (.ref p))) ⟨_, rfl, .xn _⟩ (fun _ z => nomatch z)
              refine ⟨H0, B, G2, _, .lst accF, ⟨f, p, J3, List.getElem?_set_self li, fun a u hu => ⟨(of a u hu).1, I1.bg.free (of a u hu).2⟩, dp⟩, ?_⟩
              rw [hr]
              exact h
        · rw [dif_neg hxx] at h; exact h.elim
    · simp only [if_neg hz] at h; exact h.elim
section
variable {X : Cx} {W : WX} {elt tg iter : Expr} {scope : Scope} {own : List (Str × Nat)} {pos spos py : Pos} {tp : Bool} {ws : List Nat} {it : IM} {g : GM} {fe : EM} {sts : List Stmt}
theorem ds3_enterC (i : Nat) {y : Str} {F : D → DEnv → SR} (hc : X.calm = true) (hN : X.N.Nodup) (hsw : swapsWith (.ListComp elt [⟨tg, iter, [], 0⟩] scope pos) (some (.Name y py)) spos.line X.env = pure true) (hi : DI X W tp tg iter it) (ok : BlkOk X.N X.env.scope scope own) (hw : ∀ w ∈ ws, w ∈ own.map (·.2))
    (hg : ∀ (s : Shared) (H : Hp) (C : Addr) (cl : List (Str × Addr)) (fp : List Addr), DG (X.blk s H scope (compEnvC scope cl C X.env) fp) tp ws tg g)
    (he : ∀ (s : Shared) (H : Hp) (C : Addr) (cl : List (Str × Addr)) (fp : List Addr), DE (X.blk s H scope (compEnvC scope cl C X.env) fp) WF elt fe) (h3 : DSs3 X W i sts F)
    (hy : X.N[i]? = some y := by rfl) (hyl : X.env.scope.names.lookup y = some .local := by rfl) (hs : ∀ x, foldedSetIterable iter X.env x = pure x := by intro _; rfl) :
    DSs X W (.Assign [.Name y py] (.ListComp elt [⟨tg, iter, [], 0⟩] scope pos) spos :: sts) (enterC i (own.map (·.2)) it g fe F) :=
  iSs (pss_cons (ps_setLc hc hN hy hyl hsw hi ok hg (fun s H C cl fp => dts_nil) he hs) h3) fun D σ H ⟨H0, B, G, ρ, I, h⟩ => lcO_imp hw I h
end
theorem enterC_eq {i : Nat} {vs : List Nat} {it : IM} {g : GM} {elt : EM} {F : D → DEnv → SR} {ρ ρ1 ρ2 : DEnv} {ds acc : List D} {r : SR} (h1 : it ρ = .ok ds ρ1) (h2 : ds.length ≤ 16777216) (h3 : i < ρ1.length) (h4 : lcO vs g elt ds [] (wipeD ρ1 vs) = some (acc, ρ2)) (h5 : ∀ v, F (.lst acc) (ρ2.set i (.sh (.xn v))) = r) : enterC i vs it g elt F ρ = r := by
  unfold enterC
  simp only [h1]
  rw [if_pos ⟨h2, h3⟩]
  simp only [h4]
  exact blk3_eq h5
end DL

/-! DL38: x is True. -/
namespace DL
open PySem PySem.Spec PyProof.Rows L2
def pIsB : D → D → PR
  | .bl a, .bl b => .v (.bl (decide (a = b)))
  | _, _ => .bad
theorem p_isB {K : PySem.W.Frag} : Prim2 K (fun x y H Q => ∃ a b, x = .bl a ∧ y = .bl b ∧ Q (.bl (decide (a = b))) H) pIsB := by
  intro G H x y d e Q m rx ry h
  cases rx <;> cases ry <;> first
    | exact h.elim
    | exact ⟨_, _, rfl, rfl, h _ (.bl _)⟩
theorem p_isb {a b : Bool} : pIsB (.bl a) (.bl b) = .v (.bl (decide (a = b))) := Eq.trans rfl rfl
end DL

/-! DL39: how often a text stands in a list of texts. -/
namespace DL
open PySem PySem.Spec PyProof.Rows L2
def rCntS (K : PySem.W.Frag) : V → List V → Hp → VK → Prop := fun x xs H Q => ∃ (p : Addr) (ys : List Str) (k : Str), x = .ref p ∧ xs = [.str k] ∧ SqL K H p (ys.map V.str) ∧ Q (.int ((ys.count k : Nat) : Int)) H
theorem cntS : ∀ {us : List Value} {ys : List Str} (k : Str), StrsAre us ys → us.countP (isStrOf k) = ys.count k
  | _, _, _, .nil => rfl
  | _, _, k, .cons n t h => by
    have ih := cntS k h
    rw [List.countP_cons, List.count_cons, ih]
    rfl
theorem mt_scount {X : Cx} : MtR X "list.count" (rCntS X.K) := by
  intro pins s σ H x xs v us Q I rx rxs h
  obtain ⟨p, ys, k, rfl, rfl, hs, q⟩ := h
  cases rx
  obtain ⟨u, rfl, ru⟩ := rxs.one
  obtain ⟨t, rfl⟩ := ru
  obtain ⟨its, rv, ⟨⟨cls, dd, data, sl⟩, n, ho, hc, hdn, hd⟩, hlen⟩ := I.list hs
  simp only at hc hd
  subst hc hd
  have hi := strs_of_vals rv
  have ec : its.toArray.toList.countP (isStrOf k) = ys.count k := cntS k hi
  exact call_meets PySem.F.slot_list_count ⟨_, ho, rfl⟩ PySem.F.entry_list_count (PySem.F.args_list_count_2 _ _)
    (SeqAt.list_countAt p its.toArray n dd sl (.str k t) (isStrOf k)) ⟨ho, (fun y hy => (eq_isStrOf k t hi y (by simpa using hy)).at _ _), .int ((ys.count k : Nat) : Int), H, I.tok _, ⟨s.toks, by rw [ec]⟩, q⟩
theorem rep_strs {K : PySem.W.Frag} {G : Hp} : ∀ {ys : List Str} {vs : List V}, RepAll K G vs (ys.map .str) → vs = ys.map V.str
  | [], _, h => by cases h; rfl
  | y :: ys, _, h => by
    cases h with
    | cons r t =>
      cases r
      rw [rep_strs t]
      rfl
def pCount (d : D) (ds : List D) : PR := match d with
  | .lst es => (match ds with
    | [x] => (match x with
      | .str k => (match strsOf es with
        | some ys => .v (.int ((ys.count k : Nat) : Int))
        | none => .bad)
      | _ => .bad)
    | _ => .bad)
  | _ => .bad
theorem p_count {K : PySem.W.Frag} : PrimM K (rCntS K) pCount := by
  intro G H x xs d ds Q m rx rs h0
  cases rx with
  | @lst a vs es h1 r1 =>
    match ds, rs, h0 with
    | [y], rs, h =>
      obtain ⟨w, rfl, ry⟩ := repTs1 rs
      cases y with
      | str k =>
        dsimp only [pCount] at h
        cases q : strsOf es with
        | none => simp only [q] at h; exact h.elim
        | some ys =>
          simp only [q] at h
          have e := strsOf_eq q
          subst e
          have ev := rep_strs r1
          subst ev
          cases ry
          exact ⟨a, ys, k, rfl, rfl, .inl h1, h _ (.int _)⟩
      | _ => exact h.elim
    | [], _, h => exact h.elim
    | _ :: _ :: _, _, h => exact h.elim
  | _ => exact h0.elim
theorem p_cnt {ys : List Str} {k : Str} : pCount (.lst (ys.map .str)) [.str k] = .v (.int ((ys.count k : Nat) : Int)) := by
  show (match strsOf (ys.map .str) with | some ys => _ | none => _) = _
  rw [strsOf_map]
end DL

/-! DL40: an expression that the law never comes to. -/
namespace DL
open PySem PySem.Spec PyProof.Rows L2
def eDead : EM := fun _ => .bad
theorem de_dead {X : Cx} {W : WX} {e : Expr} : DE X W e eDead := ⟨fun _ _ _ _ _ _ ⟨_, _, _, _, _, h⟩ => h.elim⟩
end DL

/-! DL41: a tuple whose entries are own: a def gives it, a name holds it, an entry is changed. -/
namespace DL
open PySem PySem.Spec PyProof.Rows L2

/-! ### own things beside the slots of the frame -/
open Classical in
noncomputable def ghs (es : DEnv) (τ : L2.St) (H : Hp) : Hp := fun a => if a ∈ ownAs es τ then H a else none
section
variable {K : PySem.W.Frag} {mg : Str → Option Value} {H0 B B' G G' G1 H H' : Hp} {ρ ρ' es : DEnv} {W : WX} {σ σ' τ : L2.St} {i : Nat} {v : V} {d : D}
structure Ex (K : PySem.W.Frag) (H0 B G : Hp) (ρ es : DEnv) (σ τ : L2.St) (H : Hp) : Prop where
  st : StD K H0 B G (ρ ++ es) (σ ++ τ) H
  len : ρ.length = σ.length
theorem Ex.len2 (E : Ex K H0 B G ρ es σ τ H) : es.length = τ.length := by
  have := E.st.len
  rw [List.length_append, List.length_append, E.len] at this
  omega
theorem Ex.left (E : Ex K H0 B G ρ es σ τ H) {k : Nat} (h : k < ρ.length) : (ρ ++ es)[k]? = ρ[k]? ∧ (σ ++ τ)[k]? = σ[k]? := by
  rw [List.getElem?_append_left h, List.getElem?_append_left (by rw [← E.len]; exact h)]
  exact ⟨rfl, rfl⟩
theorem Ex.right (E : Ex K H0 B G ρ es σ τ H) (k : Nat) : (ρ ++ es)[ρ.length + k]? = es[k]? ∧ (σ ++ τ)[ρ.length + k]? = τ[k]? := by
  rw [List.getElem?_append_right (Nat.le_add_right ..), List.getElem?_append_right (by rw [E.len]; exact Nat.le_add_right ..), E.len, Nat.add_sub_cancel_left]
  exact ⟨rfl, rfl⟩
theorem Ex.at_own (E : Ex K H0 B G ρ es σ τ H) {a : Addr} (h : a ∈ ownAs es τ) : G a = none ∧ H0 a = none ∧ ∃ u, H a = some u := by
  obtain ⟨k, d, e1, e2⟩ := mem_ownAs.mp h
  obtain ⟨h1, h2, u, h3, _⟩ := E.st.own_at (a := a) (mem_ownAs.mpr ⟨ρ.length + k, d, by rw [(E.right k).1, e1], by rw [(E.right k).2, e2]⟩)
  exact ⟨h1, h2, u, h3⟩
theorem ghs_in {a : Addr} (h : a ∈ ownAs es τ) : ghs es τ H a = H a := by unfold ghs; rw [if_pos h]
theorem ghs_out {a : Addr} (h : a ∉ ownAs es τ) : ghs es τ H a = none := by unfold ghs; rw [if_neg h]
theorem Ex.ov_in (E : Ex K H0 B G ρ es σ τ H) {a : Addr} (h : a ∈ ownAs es τ) : ov H0 (ghs es τ H) a = H a := by
  obtain ⟨_, _, u, hu⟩ := E.at_own h
  rw [ov_some (o := u) (by rw [ghs_in h]; exact hu), hu]
theorem ov_out {a : Addr} (h : a ∉ ownAs es τ) : ov H0 (ghs es τ H) a = H0 a := ov_none (ghs_out h)
/-- what stands in H0 stands in the ghost heap -/
theorem Ex.sub (E : Ex K H0 B G ρ es σ τ H) : ∀ a o, H0 a = some o → ov H0 (ghs es τ H) a = some o := fun a o e => by
  by_cases m : a ∈ ownAs es τ
  · rw [(E.at_own m).2.1] at e; cases e
  · rw [ov_out m]; exact e
theorem Ex.dn (E : Ex K H0 B G ρ es σ τ H) {a : Addr} (h : ov H0 (ghs es τ H) a = none) : H0 a = none ∧ a ∉ ownAs es τ := by
  by_cases m : a ∈ ownAs es τ
  · obtain ⟨_, _, u, hu⟩ := E.at_own m
    rw [E.ov_in m, hu] at h
    cases h
  · rw [ov_out m] at h; exact ⟨h, m⟩
theorem Ex.out (E : Ex K H0 B G ρ es σ τ H) : StD K (ov H0 (ghs es τ H)) B G ρ σ H := by
  refine ⟨E.st.gh, ⟨⟨fun a u pl r => ?_, fun a o u e => ?_⟩, fun a o e n => ?_⟩, E.st.bg, fun a o e n => ?_, E.len, fun i s e => ?_, fun i j d e p a b c f => ?_⟩
  · by_cases m : a ∈ ownAs es τ
    · unfold Rd at r ⊢; rw [E.ov_in m] at r; exact r
    · unfold Rd at r; rw [ov_out m] at r; exact E.st.h0.m.rd a u pl r
  · by_cases m : a ∈ ownAs es τ
    · rw [E.ov_in m] at e; exact e
    · rw [ov_out m] at e; exact E.st.h0.m.fr a o u e
  · by_cases m : a ∈ ownAs es τ
    · rw [E.ov_in m] at e; exact e
    · rw [ov_out m] at e; exact E.st.h0.own a o e n
  · by_cases m : a ∈ ownAs es τ
    · rw [(E.at_own m).1] at e; cases e
    · rw [ov_out m]; exact E.st.nb a o e n
  · have li : i < ρ.length := (List.getElem?_eq_some_iff.mp e).1
    have x := E.st.sl i s (by rw [(E.left li).1, e])
    rw [(E.left li).2] at x
    cases s with
    | un => trivial
    | sh d => exact x
    | ow d =>
      obtain ⟨p, e1, g, h0, c⟩ := x
      refine ⟨p, e1, g, ?_, c⟩
      by_cases m : p ∈ ownAs es τ
      · obtain ⟨k, d', f1, f2⟩ := mem_ownAs.mp m
        have := E.st.dj i (ρ.length + k) d d' p (by rw [(E.left li).1, e]) (by rw [(E.right k).1, f1]) (by rw [(E.left li).2]; exact join_some e1) (by rw [(E.right k).2, f2])
        omega
      · rw [ov_out m]; exact h0
  · have l1 : i < ρ.length := (List.getElem?_eq_some_iff.mp a).1
    have l2 : j < ρ.length := (List.getElem?_eq_some_iff.mp b).1
    exact E.st.dj i j d e p (by rw [(E.left l1).1, a]) (by rw [(E.left l2).1, b]) (by rw [(E.left l1).2, c]) (by rw [(E.left l2).2, f])
theorem Ex.back (E : Ex K H0 B G ρ es σ τ H) (J : StD K (ov H0 (ghs es τ H)) B' G' ρ' σ' H') (gg : Grow G G') (bb : ∀ a, G a = none → B' a = none) : Ex K H0 B' G' ρ' es σ' τ H' := by
  have l2 := E.len2
  have own : ∀ {a : Addr}, a ∈ ownAs es τ → G' a = none ∧ H' a = H a := fun {a} m => by
    obtain ⟨g, h0, u, hu⟩ := E.at_own m
    have o := E.ov_in m
    rw [hu] at o
    refine ⟨?_, by rw [hu]; exact J.h0.own a u o (bb a g)⟩
    cases q : G' a with
    | none => rfl
    | some w =>
      have := J.nb a w q (bb a g)
      rw [o] at this
      cases this
  refine ⟨⟨J.gh, ⟨⟨fun a u pl r => J.h0.m.rd a u pl ?_, fun a o u e => J.h0.m.fr a o u (E.sub _ _ e)⟩, fun a o e n => J.h0.own a o (E.sub _ _ e) n⟩, J.bg, fun a o e n => (E.dn (J.nb a o e n)).1, by rw [List.length_append, List.length_append, J.len, l2], fun i s e => ?_, fun i j d e p a b c f => ?_⟩, J.len⟩
  · rcases r with r | ⟨o, r⟩
    · exact .inl (E.sub _ _ r)
    · exact .inr ⟨o, E.sub _ _ r⟩
  · by_cases li : i < ρ'.length
    · rw [List.getElem?_append_left li] at e
      rw [List.getElem?_append_left (by rw [← J.len]; exact li)]
      have x := J.sl i s e
      cases s with
      | un => trivial
      | sh d => exact x
      | ow d =>
        obtain ⟨p, e1, g, h0, c⟩ := x
        exact ⟨p, e1, g, (E.dn h0).1, c⟩
    · rw [List.getElem?_append_right (by omega)] at e
      rw [List.getElem?_append_right (by rw [← J.len]; omega), ← J.len]
      have x := E.st.sl (ρ.length + (i - ρ'.length)) s (by rw [(E.right _).1, e])
      rw [(E.right _).2] at x
      cases s with
      | un => trivial
      | sh d => obtain ⟨w, e1, r⟩ := x; exact ⟨w, e1, r.mono (Mono.of gg)⟩
      | ow d =>
        obtain ⟨p, e1, g, h0, c⟩ := x
        obtain ⟨o1, o2⟩ := own (a := p) (mem_ownAs.mpr ⟨_, d, e, join_some e1⟩)
        exact ⟨p, e1, o1, h0, c.mono (Mono.of gg) o2⟩
  · have mix : ∀ {i j : Nat} {d e : D}, i < ρ'.length → ¬ j < ρ'.length → (ρ' ++ es)[i]? = some (.ow d) → (ρ' ++ es)[j]? = some (.ow e) → (σ' ++ τ)[i]? = some (some (.ref p)) → (σ' ++ τ)[j]? = some (some (.ref p)) → False := fun {i j d e} h1 h2 a b c f => by
      rw [List.getElem?_append_left h1] at a
      rw [List.getElem?_append_left (by rw [← J.len]; exact h1)] at c
      rw [List.getElem?_append_right (by omega)] at b
      rw [List.getElem?_append_right (by rw [← J.len]; omega), ← J.len] at f
      obtain ⟨p', e1, _, h0, _⟩ := J.ow a
      rw [c] at e1
      cases e1
      exact (E.dn h0).2 (mem_ownAs.mpr ⟨_, e, b, f⟩)
    by_cases h1 : i < ρ'.length
    · by_cases h2 : j < ρ'.length
      · rw [List.getElem?_append_left h1] at a
        rw [List.getElem?_append_left h2] at b
        rw [List.getElem?_append_left (by rw [← J.len]; exact h1)] at c
        rw [List.getElem?_append_left (by rw [← J.len]; exact h2)] at f
        exact J.dj i j d e p a b c f
      · exact (mix h1 h2 a b c f).elim
    · by_cases h2 : j < ρ'.length
      · exact (mix h2 h1 b a f c).elim
      · rw [List.getElem?_append_right (by omega)] at a b
        rw [List.getElem?_append_right (by rw [← J.len]; omega), ← J.len] at c f
        have := E.st.dj (ρ.length + (i - ρ'.length)) (ρ.length + (j - ρ'.length)) d e p (by rw [(E.right _).1, a]) (by rw [(E.right _).1, b]) (by rw [(E.right _).2, c]) (by rw [(E.right _).2, f])
        omega
theorem StD.pre (I : StD K H0 B G (ρ ++ es) (σ ++ τ) H) (l : ρ.length = σ.length) : StD K H0 B G ρ σ H := by
  have E : Ex K H0 B G ρ es σ τ H := ⟨I, l⟩
  exact E.out.shrink E.sub
theorem StD.suf (I : StD K H0 B G (ρ ++ es) (σ ++ τ) H) (l : ρ.length = σ.length) : StD K H0 B G es τ H := by
  have E : Ex K H0 B G ρ es σ τ H := ⟨I, l⟩
  refine ⟨I.gh, I.h0, I.bg, I.nb, E.len2, fun i s e => ?_, fun i j d e p a b c f => ?_⟩
  · have x := I.sl (ρ.length + i) s (by rw [(E.right i).1, e])
    rw [(E.right i).2] at x
    exact x
  · have := I.dj (ρ.length + i) (ρ.length + j) d e p (by rw [(E.right _).1, a]) (by rw [(E.right _).1, b]) (by rw [(E.right _).2, c]) (by rw [(E.right _).2, f])
    omega
/-- a slot more -/
theorem StD.snoc (I : StD K H0 B G ρ σ H) {s : Sl} (h : SlOk K H0 G H (some v) s) (n : ∀ d, s = .ow d → ∀ (i : Nat) (e : D) (p : Addr), v = .ref p → ρ[i]? = some (.ow e) → σ[i]? ≠ some (some (.ref p))) : StD K H0 B G (ρ ++ [s]) (σ ++ [some v]) H := by
  have l := I.len
  refine ⟨I.gh, I.h0, I.bg, I.nb, by rw [List.length_append, List.length_append, l]; rfl, fun i u e => ?_, fun i j d e p a b c f => ?_⟩
  · by_cases li : i < ρ.length
    · rw [List.getElem?_append_left li] at e
      rw [List.getElem?_append_left (by omega)]
      exact I.sl i u e
    · rw [List.getElem?_append_right (by omega)] at e
      have z : i - ρ.length = 0 := by have := (List.getElem?_eq_some_iff.mp e).1; simp at this; omega
      rw [List.getElem?_append_right (by omega), ← l, z]
      rw [z] at e
      cases e
      exact h
  · have mix : ∀ {i j : Nat} {d e : D}, i < ρ.length → ¬ j < ρ.length → (ρ ++ [s])[i]? = some (.ow d) → (ρ ++ [s])[j]? = some (.ow e) → (σ ++ [some v])[i]? = some (some (.ref p)) → (σ ++ [some v])[j]? = some (some (.ref p)) → False := fun {i' j' d' e'} h1 h2 a' b' c' f' => by
      rw [List.getElem?_append_left h1] at a'
      rw [List.getElem?_append_left (by omega)] at c'
      rw [List.getElem?_append_right (by omega)] at b'
      have z : j' - ρ.length = 0 := by have := (List.getElem?_eq_some_iff.mp b').1; simp at this; omega
      rw [List.getElem?_append_right (by omega), ← l, z] at f'
      rw [z] at b'
      have f2 : v = .ref p := Option.some.inj (Option.some.inj f')
      exact n e' (Option.some.inj b') i' d' p f2 a' c'
    by_cases h1 : i < ρ.length
    · by_cases h2 : j < ρ.length
      · rw [List.getElem?_append_left h1] at a
        rw [List.getElem?_append_left h2] at b
        rw [List.getElem?_append_left (by omega)] at c f
        exact I.dj i j d e p a b c f
      · exact (mix h1 h2 a b c f).elim
    · by_cases h2 : j < ρ.length
      · exact (mix h2 h1 b a f c).elim
      · rw [List.getElem?_append_right (by omega)] at a b
        have z := (List.getElem?_eq_some_iff.mp a).1
        have z2 := (List.getElem?_eq_some_iff.mp b).1
        simp at z z2
        omega
/-- behind a call that gives own things -/
theorem StD.join {H1 G2 : Hp} (I : StD K H0 B G2 ρ σ H1) (J : StD K H1 G2 G' es τ H') : StD K H0 B G' (ρ ++ es) (σ ++ τ) H' := by
  have A := I.after ⟨J.h0, J.bg, J.gh, J.nb⟩
  have l := I.len
  refine ⟨A.gh, A.h0, A.bg, A.nb, by rw [List.length_append, List.length_append, l, J.len], fun i s e => ?_, fun i j d e p a b c f => ?_⟩
  · by_cases li : i < ρ.length
    · rw [List.getElem?_append_left li] at e
      rw [List.getElem?_append_left (by omega)]
      exact A.sl i s e
    · rw [List.getElem?_append_right (by omega)] at e
      rw [List.getElem?_append_right (by omega), ← l]
      have x := J.sl _ s e
      cases s with
      | un => trivial
      | sh d => exact x
      | ow d =>
        obtain ⟨p, e1, g, h0, c⟩ := x
        exact ⟨p, e1, g, I.h0.free h0, c⟩
  · have mix : ∀ {i j : Nat} {d e : D}, i < ρ.length → ¬ j < ρ.length → (ρ ++ es)[i]? = some (.ow d) → (ρ ++ es)[j]? = some (.ow e) → (σ ++ τ)[i]? = some (some (.ref p)) → (σ ++ τ)[j]? = some (some (.ref p)) → False := fun {i j d e} h1 h2 a b c f => by
      rw [List.getElem?_append_left h1] at a
      rw [List.getElem?_append_left (by omega)] at c
      rw [List.getElem?_append_right (by omega)] at b
      rw [List.getElem?_append_right (by omega), ← l] at f
      obtain ⟨p1, e1, _, _, c1⟩ := I.ow a
      rw [c] at e1
      cases e1
      obtain ⟨p2, e2, _, h0, _⟩ := J.ow b
      rw [f] at e2
      cases e2
      obtain ⟨u, hu⟩ := c1.there
      rw [h0] at hu
      cases hu
    by_cases h1 : i < ρ.length
    · by_cases h2 : j < ρ.length
      · rw [List.getElem?_append_left h1] at a
        rw [List.getElem?_append_left h2] at b
        rw [List.getElem?_append_left (by omega)] at c f
        exact I.dj i j d e p a b c f
      · exact (mix h1 h2 a b c f).elim
    · by_cases h2 : j < ρ.length
      · exact (mix h2 h1 b a f c).elim
      · rw [List.getElem?_append_right (by omega)] at a b
        rw [List.getElem?_append_right (by omega), ← l] at c f
        have := J.dj _ _ d e p a b c f
        omega
def slD : Sl → D
  | .ow d => d
  | .sh d => d
  | .un => .non
def isUn : Sl → Bool
  | .un => true
  | _ => false
/-- all is laid fast -/
theorem StD.layAll : ∀ {es : DEnv} {vs : List V} {ρ : DEnv} {σ : L2.St} {G : Hp}, ρ.length = σ.length → (∀ s ∈ es, isUn s = false) → StD K H0 B G (ρ ++ es) (σ ++ vs.map some) H →
    ∃ G', Grow G G' ∧ StD K H0 B G' ρ σ H ∧ RepAll K G' vs (es.map slD)
  | [], vs, ρ, σ, G, l, _, I => by
    have l2 := (Ex.mk I l).len2
    cases vs with
    | nil => exact ⟨G, Grow.refl G, I.pre l, .nil⟩
    | cons _ _ => simp at l2
  | s :: es, vs, ρ, σ, G, l, hn, I => by
    have l2 := (Ex.mk I l).len2
    cases vs with
    | nil => simp at l2
    | cons v vs =>
      have e1 : ρ ++ s :: es = (ρ ++ [s]) ++ es := by rw [List.append_assoc]; rfl
      have e2 : σ ++ (v :: vs).map some = (σ ++ [some v]) ++ vs.map some := by rw [List.append_assoc]; rfl
      rw [e1, e2] at I
      obtain ⟨G1, g1, I1, r1⟩ := StD.layAll (es := es) (vs := vs) (ρ := ρ ++ [s]) (σ := σ ++ [some v]) (by rw [List.length_append, List.length_append, l]; rfl) (fun x hx => hn x (List.mem_cons_of_mem _ hx)) I
      have at_ : (ρ ++ [s])[ρ.length]? = some s := by rw [List.getElem?_append_right (Nat.le_refl _), Nat.sub_self]; rfl
      have av : (σ ++ [some v])[ρ.length]? = some (some v) := by rw [List.getElem?_append_right (by omega), l, Nat.sub_self]; rfl
      have fzE : ∃ ρ1, fz (ρ ++ [s]) (.al ρ.length) = some (slD s, ρ1) ∧ ρ1.take ρ.length = ρ ∧ ρ1.length = ρ.length + 1 := by
        show ∃ ρ1, (match (ρ ++ [s])[ρ.length]? with
          | some (Sl.ow d) => some (d, (ρ ++ [s]).set ρ.length (Sl.sh d))
          | some (Sl.sh d) => some (d, ρ ++ [s])
          | _ => none) = some (slD s, ρ1) ∧ _
        rw [at_]
        have hs := hn s (List.mem_cons_self ..)
        cases s with
        | un => cases hs
        | sh d => exact ⟨_, rfl, by rw [List.take_left'] <;> rfl, by simp⟩
        | ow d => exact ⟨_, rfl, by rw [List.set_append_right _ _ (Nat.le_refl _), List.take_left'] <;> rfl, by simp⟩
      obtain ⟨ρ1, f1, f2, f3⟩ := fzE
      obtain ⟨G2, g2, I2, r2⟩ := VR.fz I1 (v := v) (r := .al ρ.length) av f1
      have e3 : ρ1 = ρ ++ ρ1.drop ρ.length := by
        conv => lhs; rw [← List.take_append_drop ρ.length ρ1, f2]
      rw [e3] at I2
      exact ⟨G2, g1.trans g2, I2.pre l, .cons r2 (r1.mono (Mono.of g2))⟩
end
end DL

/-! DL42: statements while a name holds such a tuple. -/
namespace DL
open PySem PySem.Spec PyProof.Rows L2
inductive T3 where
  | pl (d : D) | tw (es : List Sl)
def T3.d : T3 → D
  | .pl d => d
  | .tw es => .tup (es.map slD)
/-- the value v is t, its own entries in the slots beside -/
inductive TV (K : PySem.W.Frag) (G : Hp) : V → T3 → DEnv → L2.St → Prop
  | pl {v : V} {d : D} : Rep K G v d → TV K G v (.pl d) [] []
  | tw {p : Addr} {vs : List V} {es : List Sl} : SqP K G p vs → (∀ s ∈ es, isUn s = false) → TV K G (.ref p) (.tw es) es (vs.map some)
def St3 (K : PySem.W.Frag) (H0 B G : Hp) (i : Nat) (t : T3) (ρ : DEnv) (σ : L2.St) (H : Hp) : Prop :=
  ∃ v es τ, Ex K H0 B G ρ es σ τ H ∧ ρ[i]? = some (.sh (.xn v)) ∧ TV K G v t es τ
section
variable {K : PySem.W.Frag} {mg : Str → Option Value} {H0 B B' G G' G1 H H' : Hp} {ρ ρ' es : DEnv} {W : WX} {σ σ' τ : L2.St} {i : Nat} {v : V} {d : D} {t t' : T3}
theorem TV.mono (h : TV K G v t es τ) (m : Mono G G') : TV K G' v t es τ := by
  cases h with
  | pl r => exact .pl (r.mono m)
  | tw s n => exact .tw (m.seqT s) n
theorem St3.unbase (I : St3 K H0 B G1 i t ρ σ H) (J : St3 K H0 G1 G' i t' ρ' σ' H') : St3 K H0 B G' i t' ρ' σ' H' := by
  obtain ⟨v, es, τ, E, _, _⟩ := I
  obtain ⟨v', es', τ', E', e', tv'⟩ := J
  exact ⟨v', es', τ', ⟨E.st.unbase E'.st, E'.len⟩, e', tv'⟩
theorem St3.unbaseS (I : St3 K H0 B G1 i t ρ σ H) (J : StD K H0 G1 G' ρ' σ' H') : StD K H0 B G' ρ' σ' H' := by
  obtain ⟨v, es, τ, E, _, _⟩ := I
  exact E.st.unbase J
end
inductive SR3 where
  | nx (t : T3) (ρ : DEnv) | en (x : SR) | bad
abbrev SM3 := T3 → DEnv → SR3
section
variable (K : PySem.W.Frag) (mg : Str → Option Value)
def S3Post (H0 B : Hp) (W : WX) (i : Nat) (D : Ends) : SR3 → Prop
  | .nx t ρ' => ∀ σ' G' H', St3 K H0 B G' i t ρ' σ' H' → D.nx σ' H'
  | .en x => SPost K mg H0 B W D x
  | .bad => False
def cS3 (W : WX) (i : Nat) (F : SM3) : TS := fun D σ H => ∃ H0 B G ρ t, St3 K H0 B G i t ρ σ H ∧ S3Post K mg H0 B W i D (F t ρ)
end
abbrev DS3 (X : Cx) (W : WX) (i : Nat) (st : Stmt) (F : SM3) : Prop := PS X st (cS3 X.K X.mg W i F)
abbrev DSs3B (X : Cx) (W : WX) (i : Nat) (st : List Stmt) (F : SM3) : Prop := PSs X st (cS3 X.K X.mg W i F)
open Classical in
/-- a statement of the layer that leaves slot i alone -/
noncomputable def liftB (i : Nat) (f : SM) : SM3 := fun t ρ => match f ρ with
  | .nx ρ' => if ρ'[i]? = ρ[i]? then .nx t ρ' else .bad
  | .rt r ρ' => .en (.rt r (ρ'.set i .un))
  | .xc c ρ' => .en (.xc c (ρ'.set i .un))
  | _ => .bad
section
variable {X : Cx} {W : WX} {i : Nat} {st : Stmt} {sts a b : List Stmt} {c e : Expr} {pos : Pos}
theorem S3Post.unbase {K : PySem.W.Frag} {mg : Str → Option Value} {H0 B G1 H : Hp} {t : T3} {ρ : DEnv} {σ : L2.St} {D : Ends} {x : SR3} (I : St3 K H0 B G1 i t ρ σ H) (h : S3Post K mg H0 B W i D x) : S3Post K mg H0 G1 W i D x := by
  cases x with
  | nx d ρ' => exact fun σ' G' H' J => h σ' G' H' (I.unbase J)
  | en x =>
    obtain ⟨v, es, τ, E, _, _⟩ := I
    exact SPost.unbase E.st h
  | bad => exact h
theorem shrinkVR {K : PySem.W.Frag} {H0 H1 G H : Hp} {ρ ρ' : DEnv} {σ : L2.St} {v : V} {r : R} (h : VR K H1 G ρ σ H v r) (dn : ∀ a, H1 a = none → H0 a = none) (ow : ∀ (i : Nat) (e : D), ρ'[i]? = some (.ow e) → ρ[i]? = some (.ow e)) : VR K H0 G ρ' σ H v r := by
  cases r with
  | sh d => exact h
  | al j => exact h
  | ow d =>
    obtain ⟨p, e1, g, h0, n, c⟩ := h
    exact ⟨p, e1, g, dn p h0, fun i e a => n i e (ow i e a), c⟩
theorem set_un {ρ : DEnv} {i j : Nat} {e : D} (h : (ρ.set i Sl.un)[j]? = some (.ow e)) : ρ[j]? = some (.ow e) := by
  rcases set_get h with ⟨_, z⟩ | ⟨_, z⟩
  · cases z
  · exact z
theorem dsB_lift {f : SM} (h : DS X W st f) : DS3 X W i st (liftB i f) := iS h fun D σ H ⟨H0, B, G, ρ, t, I, q⟩ => by
  have q := S3Post.unbase I q
  obtain ⟨v, es, τ, E, e, tv⟩ := I
  refine ⟨ov H0 (ghs es τ H), G, G, ρ, E.out.rebase, ?_⟩
  unfold liftB at q
  have bk : ∀ {ρ' : DEnv} {σ' : L2.St} {G' H' : Hp}, StD X.K (ov H0 (ghs es τ H)) G G' ρ' σ' H' → Ex X.K H0 G G' ρ' es σ' τ H' := fun J => E.back J J.bg fun a n => n
  cases q2 : f ρ with
  | nx ρ' =>
    rw [q2] at q
    by_cases z : ρ'[i]? = ρ[i]?
    · simp only [if_pos z] at q
      exact fun σ' G' H' J => q σ' G' H' ⟨v, es, τ, bk J, by rw [z, e], tv.mono (Mono.of J.bg)⟩
    · simp only [if_neg z] at q; exact q.elim
  | bk ρ' => rw [q2] at q; exact q.elim
  | ct ρ' => rw [q2] at q; exact q.elim
  | rt r ρ' =>
    rw [q2] at q
    intro w σ' G' H' J x
    have J1 := (J.shrink E.sub).reslot (i := i) (s := .un) True.intro fun _ z => nomatch z
    exact q w σ' G' H' J1 (shrinkVR x (fun a n => (E.dn n).1) fun j e a => set_un a)
  | xc c ρ' =>
    rw [q2] at q
    intro cls σ' G' H' J x
    have J1 := (J.shrink E.sub).reslot (i := i) (s := .un) True.intro fun _ z => nomatch z
    exact q cls σ' G' H' J1 x
  | bad => rw [q2] at q; exact q.elim
def seqB (f g : SM3) : SM3 := fun t ρ => match f t ρ with
  | .nx t' ρ' => g t' ρ'
  | .en x => (match x with
    | .nx _ => .bad
    | x => .en x)
  | .bad => .bad
def nilB : SM3 := fun t ρ => .nx t ρ
theorem dsB_nil : DSs3B X W i [] nilB := iSs pss_nil fun D σ H ⟨H0, B, G, ρ, t, I, h⟩ => h σ G H I
theorem dsB_one {f : SM3} (h : DS3 X W i st f) : DSs3B X W i [st] f := pss_one h
theorem dsB_cons {f g : SM3} (h1 : DS3 X W i st f) (h2 : DSs3B X W i sts g) : DSs3B X W i (st :: sts) (seqB f g) :=
  iSs (pss_cons h1 h2) fun D σ H ⟨H0, B, G, ρ, t, I, h⟩ => by
    refine ⟨H0, B, G, ρ, t, I, ?_⟩
    unfold seqB at h
    cases q : f t ρ with
    | nx d1 ρ1 => rw [q] at h; exact fun σ' G' H' I' => ⟨H0, B, G', ρ1, d1, I', h⟩
    | en x => rw [q] at h; cases x <;> first | exact h.elim | exact h
    | bad => rw [q] at h; exact h.elim
/-! ### tests that read the tuple: all own things are lent -/
abbrev TM3 := T3 → DEnv → Option (Bool × DEnv)
def T3Post (K : PySem.W.Frag) (H0 B G : Hp) (i : Nat) (t : T3) (σ : L2.St) (Q : Bool → Hp → Prop) : Option (Bool × DEnv) → Prop
  | some (b, ρ') => ∀ G' H', Grow G G' → St3 K H0 B G' i t ρ' σ H' → Q b H'
  | none => False
def cT3 (K : PySem.W.Frag) (i : Nat) (T : TM3) : TT := fun σ H Q => ∃ H0 B G ρ t, St3 K H0 B G i t ρ σ H ∧ T3Post K H0 B G i t σ Q (T t ρ)
abbrev DT3 (X : Cx) (i : Nat) (e : Expr) (T : TM3) : Prop := PT X e (cT3 X.K i T)
open Classical in
noncomputable def liftTB (i : Nat) (f : TM) : TM3 := fun t ρ => match f ρ with
  | .ok b ρ' => if ρ'[i]? = ρ[i]? then some (b, ρ') else none
  | _ => none
open Classical in
noncomputable def lendB (i : Nat) (f : TM) : TM3 := fun t ρ => match f ((shAll ρ).set i (.sh t.d)) with
  | .ok b ρ' => if ρ' = (shAll ρ).set i (.sh t.d) then some (b, ρ) else none
  | _ => none
theorem dtB_lift {f : TM} (h : DT X W c f) : DT3 X i c (liftTB i f) := iT h fun σ H Q ⟨H0, B, G, ρ, t, I, q⟩ => by
  obtain ⟨v, es, τ, E, e, tv⟩ := I
  refine ⟨ov H0 (ghs es τ H), B, G, ρ, E.out, ?_⟩
  unfold liftTB at q
  cases q2 : f ρ with
  | ok k ρ' =>
    rw [q2] at q
    by_cases z : ρ'[i]? = ρ[i]?
    · simp only [if_pos z] at q
      exact fun G' H' s J => q G' H' s ⟨v, es, τ, E.back J s fun a n => E.st.bg.free n, by rw [z, e], tv.mono (Mono.of s)⟩
    · simp only [if_neg z] at q; exact q.elim
  | xc c ρ' => rw [q2] at q; exact q.elim
  | bad => rw [q2] at q; exact q.elim
theorem grow_unl {as : List Addr} {G H1 : Hp} (h : ∀ a ∈ as, G a = none) : Grow G (unl as H1 G) := by
  have out : ∀ {b : Addr} {o : HO}, G b = some o → b ∉ as := fun e m => by rw [h _ m] at e; cases e
  exact ⟨fun a u _ r => by
    have : a ∉ as := by rcases r with r | ⟨_, r⟩ <;> exact out r
    unfold Rd
    rw [unl_out this]
    exact r, fun a o u e => by rw [unl_out (out e)]; exact e⟩
theorem ent_reps {K : PySem.W.Frag} {G : Hp} : ∀ {es : DEnv} {vs : List V}, es.length = vs.length → (∀ s ∈ es, isUn s = false) → (∀ (i : Nat) (s : Sl), (es.map shS)[i]? = some s → SlOk K G G G ((vs.map some)[i]?.join) s) → RepAll K G vs (es.map slD)
  | [], [], _, _, _ => .nil
  | [], _ :: _, l, _, _ => by cases l
  | _ :: _, [], l, _, _ => by cases l
  | s :: es, v :: vs, l, hn, h => by
    refine .cons ?_ (ent_reps (by simpa using l) (fun x hx => hn x (List.mem_cons_of_mem _ hx)) fun i u e => h (i + 1) u e)
    have hs := hn s (List.mem_cons_self ..)
    have x := h 0 (shS s) rfl
    cases s with
    | un => cases hs
    | sh d => obtain ⟨w, e, r⟩ := x; cases e; exact r
    | ow d => obtain ⟨w, e, r⟩ := x; cases e; exact r
theorem shOf {K : PySem.W.Frag} {H0 G H G' : Hp} {o : Option V} {s : Sl} (h : SlOk K H0 G H o (shS s)) (m : Mono G G') (H0' H' : Hp) : SlOk K H0' G' H' o (shS s) := by
  cases s with
  | un => trivial
  | sh d => obtain ⟨w, e, r⟩ := h; exact ⟨w, e, r.mono m⟩
  | ow d => obtain ⟨w, e, r⟩ := h; exact ⟨w, e, r.mono m⟩
theorem dtB_lend {f : TM} (he : DT X W e f) : DT3 X i e (lendB i f) := ⟨fun pins s σ H Q I ⟨H0, B, G, ρ, t, S, h⟩ => by
  obtain ⟨v, es, τ, E, ei, tv⟩ := S
  have S := E.st
  obtain ⟨H1, I1, l1, l2⟩ := lockMany I (ownAs (ρ ++ es) (σ ++ τ)) fun a m => by obtain ⟨_, _, u, hu, mu, _⟩ := S.own_at m; exact ⟨u, hu, mu⟩
  have S1 := lend S l1 l2
  have gu : Grow G (unl (ownAs (ρ ++ es) (σ ++ τ)) H1 G) := grow_unl fun a m => (S.own_at m).1
  have eA : shAll (ρ ++ es) = shAll ρ ++ shAll es := by unfold shAll; rw [List.map_append]
  have lA : (shAll ρ).length = σ.length := by unfold shAll; rw [List.length_map]; exact E.len
  have S2 := S1
  rw [eA] at S2
  have S3 := S2.pre lA
  have S4 := S2.suf lA
  have pin : σ[i]? = some (some v) := by
    have li : i < ρ.length := (List.getElem?_eq_some_iff.mp ei).1
    obtain ⟨w, e1, r⟩ := S.sh (i := i) (d := .xn v) (by rw [(E.left li).1, ei])
    rw [(E.left li).2] at e1
    cases r
    exact e1
  have rt : Rep X.K (unl (ownAs (ρ ++ es) (σ ++ τ)) H1 G) v t.d := by
    cases tv with
    | pl r => exact r.mono (Mono.of gu)
    | tw sq hn =>
      refine .tup ((Mono.of gu).seqT sq) (ent_reps (by have := E.len2; rw [List.length_map] at this; exact this) hn fun k u e => ?_)
      have x := S4.sl k u e
      obtain ⟨s0, _, rfl⟩ := shAll_get e
      exact shOf x (Mono.refl _) _ _
  have S5 := S3.reslot (i := i) (s := .sh t.d) ⟨v, by rw [pin]; rfl, rt⟩ fun _ z => nomatch z
  unfold lendB at h
  cases q : f ((shAll ρ).set i (.sh t.d)) with
  | bad => rw [q] at h; exact h.elim
  | xc c ρ' => rw [q] at h; exact h.elim
  | ok r ρ' =>
    simp only [q] at h
    by_cases z : ρ' = (shAll ρ).set i (.sh t.d)
    · rw [if_pos z] at h
      subst z
      refine thn (he.run pins s σ H1 (fun b H' => b = r ∧ ∃ G', Grow (unl (ownAs (ρ ++ es) (σ ++ τ)) H1 G) G' ∧ StD X.K H0 B G' ((shAll ρ).set i (.sh t.d)) σ H') I1 ⟨H0, B, _, _, S5, ?_⟩) fun u s1 ⟨H', I2, eb, G', gr, J⟩ => ?_
      · rw [q]
        exact fun G' H' gr J => ⟨rfl, G', gr, J⟩
      · have J1 : StD X.K H0 B G' (shAll (ρ ++ es)) (σ ++ τ) H' := by
          refine ⟨J.gh, J.h0, J.bg, J.nb, by have := S1.len; exact this, fun k u e => ?_, fun k j d e p a _ _ _ => (shAll_ow a).elim⟩
          have x := S1.sl k u e
          obtain ⟨s0, _, rfl⟩ := shAll_get e
          exact shOf x (Mono.of gr) _ _
        obtain ⟨b1, b2, b3, b4, b5⟩ := giveBack S l1 gr J1
        refine ⟨_, unlockMany I2 (fun a u hu mu => I.nofrz hu mu) (ownAs (ρ ++ es) (σ ++ τ)) b1, ?_⟩
        rw [eb]
        exact h _ _ b2 ⟨v, es, τ, ⟨b3, E.len⟩, ei, tv.mono (Mono.of b2)⟩
    · rw [if_neg z] at h; exact h.elim⟩
def ifB (c : TM3) (F G : SM3) : SM3 := fun t ρ => match c t ρ with
  | some (b, ρ') => if b = true then F t ρ' else G t ρ'
  | none => .bad
theorem dsB_if {fc : TM3} {f g : SM3} (hc : DT3 X i c fc) (ha : DSs3B X W i a f) (hb : DSs3B X W i b g) : DS3 X W i (.If c a b pos) (ifB fc f g) :=
  iS (ps_if hc ha hb) fun D σ H ⟨H0, B, G, ρ, t, I, h⟩ => by
    refine ⟨H0, B, G, ρ, t, I, ?_⟩
    unfold ifB at h
    cases q : fc t ρ with
    | none => rw [q] at h; exact h.elim
    | some z =>
      obtain ⟨k, ρ1⟩ := z
      rw [q] at h
      intro G1 H1 s I1
      cases k with
      | true => exact ⟨H0, B, G1, ρ1, t, I1, h⟩
      | false => exact ⟨H0, B, G1, ρ1, t, I1, h⟩
/-! ### an entry changed -/
def mutB (i k : Nat) (T : String) (p : D → List D → Option (D × D)) : SM3 := fun t ρ => match t with
  | .tw es => (match es[k]? with
    | some (.ow c) => (match p c [] with
      | some (_, c') => if kindOk T c = true then .nx (.tw (es.set k (.ow c'))) ρ else .bad
      | none => .bad)
    | _ => .bad)
  | _ => .bad
theorem atI_nat {α : Type} {l : List α} {k : Nat} {x : α} (h : l[k]? = some x) : L2.atI l (k : Int) = some x := by
  unfold L2.atI L2.ixN
  have hk := (List.getElem?_eq_some_iff.mp h).1
  simp only [Int.natCast_nonneg, if_true, Int.toNat_natCast, Int.ofNat_lt, hk, Option.bind_some]
  exact h
theorem isUn_set {es : List Sl} {k : Nat} {c : D} (h : ∀ s ∈ es, isUn s = false) : ∀ s ∈ es.set k (.ow c), isUn s = false := fun s hs => by
  rcases List.mem_or_eq_of_mem_set hs with z | rfl
  · exact h s z
  · rfl
theorem dsB_mut0 (i k : Nat) {x : Str} {T id : String} {name : Str} {r : V → List V → Hp → VK → Prop} {p : D → List D → Option (D × D)} {j : Nat} {npos p1 apos cpos kp : Pos} (hu : X.A.units + 1 < cLine) (pa : PlainAttrs T) (slot : Slot T name id) (hty : typeOf (.builtin id) = pure (.type "method_descriptor")) (hm : MtR X id r) (hp : MutOk X.K r p)
    (hN : X.N[i]? = some x := by rfl) (hvs : Vis X.env.scope x := by first | exact Or.inl rfl | exact Or.inr (Or.inl rfl) | exact Or.inr (Or.inr rfl)) (hd : (x == ("__debug__" : Str)) = false := by decide)
    (hcd : (x == ("__classdict__" : Str)) = false := by decide)
    (hbase : attributeBase (.Subscript (.Name x npos) (.Constant (.int (k : Int)) j kp) p1) name X.env (eval (.Subscript (.Name x npos) (.Constant (.int (k : Int)) j kp) p1) X.env) = eval (.Subscript (.Name x npos) (.Constant (.int (k : Int)) j kp) p1) X.env := by rfl)
    (hline : (apos.endLine == cpos.line) = true := by rfl) (hsw : swapsWith (.Call (.Attribute (.Subscript (.Name x npos) (.Constant (.int (k : Int)) j kp) p1) name apos) [] [] cpos) none pos.line X.env = pure false := by rfl) :
    DS3 X W i (.Expr (.Call (.Attribute (.Subscript (.Name x npos) (.Constant (.int (k : Int)) j kp) p1) name apos) [] [] cpos) pos) (mutB i k T p) :=
  iS (ps_expr (pe_km0 pa slot hty hm (pe_ix (ix_A hu) (pv i hN hvs hd hcd) pe_int (fun _ _ => rfl)) hbase hline) hsw) fun D σ H ⟨H0, B, G, ρ, t, ⟨v, es, τ, E, ei, tv⟩, h⟩ => by
    unfold mutB at h
    cases tv with
    | pl _ => exact h.elim
    | @tw p0 vs es sq hn =>
      dsimp only at h
      split at h
      · rename_i c q1
        split at h
        · rename_i ret c' q2
          by_cases z : kindOk T c = true
          · rw [if_pos z] at h
            have S := E.st
            have li : i < ρ.length := (List.getElem?_eq_some_iff.mp ei).1
            have pin : σ[i]? = some (some (.ref p0)) := by
              obtain ⟨w, e1, r⟩ := S.sh (i := i) (d := .xn (.ref p0)) (by rw [(E.left li).1, ei])
              rw [(E.left li).2] at e1
              cases r
              exact e1
            obtain ⟨q, e2, g, h0, cc⟩ := S.ow (i := ρ.length + k) (d := c) (by rw [(E.right k).1, q1])
            have e3 := e2
            rw [(E.right k).2, List.getElem?_map] at e3
            have ek : vs[k]? = some (.ref q) := by
              cases z2 : vs[k]? with
              | none => rw [z2] at e3; cases e3
              | some w => rw [z2] at e3; exact congrArg some (Option.some.inj (Option.some.inj e3))
            refine ⟨_, pin, .inl (.inr (.inl ⟨p0, vs, (k : Int), .ref q, rfl, rfl, ((Mono.of S.gh).seqT sq).t, atI_nat ek, ?_⟩))⟩
            refine ⟨kind_cell cc S.gh z, ?_⟩
            refine hp G H q c [] [] ret c' _ S.gh cc .nil q2 fun rv o' rr cw => ?_
            have S2 := S.write (i := ρ.length + k) (by rw [(E.right k).1, q1]) e2 cw
            rw [List.set_append_right _ _ (Nat.le_add_right ..), Nat.add_sub_cancel_left] at S2
            exact h σ G _ ⟨_, _, _, ⟨S2, E.len⟩, ei, .tw sq (isUn_set hn)⟩
          · rw [if_neg z] at h; exact h.elim
        · exact h.elim
      · exact h.elim
open Classical in
noncomputable def elsB (F G : SM3) : SM3 := fun t ρ => if F t ρ = .bad then G t ρ else F t ρ
theorem dsB_els {F G : SM3} (h1 : DS3 X W i st F) (h2 : DS3 X W i st G) : DS3 X W i st (elsB F G) := ⟨fun pins s σ H D I ⟨H0, B, G0, ρ, t, S, h⟩ => by
  unfold elsB at h
  by_cases z : F t ρ = .bad
  · rw [if_pos z] at h; exact h2.run pins s σ H D I ⟨H0, B, G0, ρ, t, S, h⟩
  · rw [if_neg z] at h; exact h1.run pins s σ H D I ⟨H0, B, G0, ρ, t, S, h⟩⟩
/-! ### leaving -/
def exitB (i : Nat) (g : SM) : T3 → DEnv → SR := fun t ρ => g (ρ.set i (.sh t.d))
theorem St3.leave {K : PySem.W.Frag} {H0 B G H : Hp} {t : T3} {ρ : DEnv} {σ : L2.St} (I : St3 K H0 B G i t ρ σ H) : ∃ G', StD K H0 B G' (ρ.set i (.sh t.d)) σ H := by
  obtain ⟨v, es, τ, E, ei, tv⟩ := I
  have li : i < ρ.length := (List.getElem?_eq_some_iff.mp ei).1
  have pin : σ[i]? = some (some v) := by
    obtain ⟨w, e1, r⟩ := E.st.sh (i := i) (d := .xn v) (by rw [(E.left li).1, ei])
    rw [(E.left li).2] at e1
    cases r
    exact e1
  cases tv with
  | pl r => exact ⟨G, (E.st.pre E.len).reslot (i := i) (s := .sh _) ⟨v, by rw [pin]; rfl, r⟩ fun _ z => nomatch z⟩
  | tw sq hn =>
    obtain ⟨G', g, J, ra⟩ := StD.layAll E.len hn E.st
    exact ⟨G', J.reslot (i := i) (s := .sh _) ⟨_, by rw [pin]; rfl, .tup ((Mono.of g).seqT sq) ra⟩ fun _ z => nomatch z⟩
def cS3E (K : PySem.W.Frag) (mg : Str → Option Value) (W : WX) (i : Nat) (F : T3 → DEnv → SR) : TS := fun D σ H => ∃ H0 B G ρ t, St3 K H0 B G i t ρ σ H ∧ SPost K mg H0 B W D (F t ρ)
abbrev DSs3E (X : Cx) (W : WX) (i : Nat) (st : List Stmt) (F : T3 → DEnv → SR) : Prop := PSs X st (cS3E X.K X.mg W i F)
theorem dsE_exit {g : SM} (h : DSs X W sts g) : DSs3E X W i sts (exitB i g) := iSs h fun D σ H ⟨H0, B, G, ρ, t, I, q⟩ => by
  obtain ⟨G', J⟩ := I.leave
  exact ⟨H0, B, G', _, J, q⟩
def seqE (f : SM3) (F : T3 → DEnv → SR) : T3 → DEnv → SR := fun t ρ => match f t ρ with
  | .nx t' ρ' => F t' ρ'
  | .en x => (match x with
    | .nx _ => .bad
    | x => x)
  | .bad => .bad
theorem dsE_cons {f : SM3} {F : T3 → DEnv → SR} (h1 : DS3 X W i st f) (h2 : DSs3E X W i sts F) : DSs3E X W i (st :: sts) (seqE f F) :=
  iSs (pss_cons h1 h2) fun D σ H ⟨H0, B, G, ρ, t, I, h⟩ => by
    refine ⟨H0, B, G, ρ, t, I, ?_⟩
    unfold seqE at h
    cases q : f t ρ with
    | nx d1 ρ1 => rw [q] at h; exact fun σ' G' H' I' => ⟨H0, B, G', ρ1, d1, I', h⟩
    | en x => rw [q] at h; cases x <;> first | exact h.elim | exact h
    | bad => rw [q] at h; exact h.elim
noncomputable def blkE (i : Nat) (F : T3 → DEnv → SR) (t : T3) (ρ : DEnv) : SR := comV .bad fun v => F t (ρ.set i (.sh (.xn v)))
theorem blkE_eq {F : T3 → DEnv → SR} {t : T3} {ρ : DEnv} {r : SR} (h : ∀ v, F t (ρ.set i (.sh (.xn v))) = r) : blkE i F t ρ = r := comV_eq h
theorem blkE_go {K : PySem.W.Frag} {mg : Str → Option Value} {H0 B : Hp} {D : Ends} {F : T3 → DEnv → SR} {t : T3} {ρ : DEnv} (h : SPost K mg H0 B W D (blkE i F t ρ)) (v : V) : SPost K mg H0 B W D (F t (ρ.set i (.sh (.xn v)))) := by
  unfold blkE at h
  rcases comV_cases (bad := SR.bad) (f := fun v => F t (ρ.set i (.sh (.xn v)))) with e | e
  · rw [e v] at h; exact h
  · rw [e] at h; exact h.elim
end
end DL

/-! DL43: a def that gives a tuple of own things; taking it. -/
namespace DL
open PySem PySem.Spec PyProof.Rows L2
inductive FT where
  | sh (d : D) | tw (es : List Sl) | xc (c : Str) | bad
section
variable (K : PySem.W.Frag) (mg : Str → Option Value)
def FTPost (B H : Hp) (Q : VK) (E : XK) : FT → Prop
  | .sh d => ∀ v G' H', Aft B H G' H' → Rep K G' v d → Q v H'
  | .tw es => ∀ p vs G' H', SqP K G' p vs → StD K H B G' es (vs.map some) H' → Q (.ref p) H'
  | .xc c => ∀ cls G' H', Aft B H G' H' → mg c = some cls → E cls none H'
  | .bad => False
def spT (n : Nat) (m : List D → FT) : Sp := fun vs H Q E => ∃ B ds, ds.length = n ∧ Grow B H ∧ RepAll K B vs ds ∧ FTPost K mg B H Q E (m ds)
end
structure CalT (P : Program) (w : World) (K : PySem.W.Frag) (mg : Str → Option Value) (base : Heap) (k : Nat) (x : Str) (n : Nat) (m : List D → FT) : Prop where
  ex : ∃ (f : Addr) (fd : FuncData) (ps : List Str), FnOk P w K mg base (L2.CX P w) k f fd ps (spT K mg n m) ∧ mg x = some (.ref f) ∧ PySem.W.keepIn K (.ref f) = true ∧ Binds K fd ps []
/-! ### the def -/
inductive ST where
  | s (x : SR) | tw (es : List Sl)
abbrev MT := DEnv → ST
def STPost (K : PySem.W.Frag) (mg : Str → Option Value) (H0 B : Hp) (W : WX) (D : Ends) : ST → Prop
  | .s x => SPost K mg H0 B W D x
  | .tw es => ∀ p vs G' H', SqP K G' p vs → StD K H0 B G' es (vs.map some) H' → D.rt (.ref p) H'
def cST (K : PySem.W.Frag) (mg : Str → Option Value) (W : WX) (F : MT) : TS := fun D σ H => ∃ H0 B G ρ, StD K H0 B G ρ σ H ∧ STPost K mg H0 B W D (F ρ)
abbrev DSsT (X : Cx) (W : WX) (st : List Stmt) (F : MT) : Prop := PSs X st (cST X.K X.mg W F)
def seqT (f : SM) (F : MT) : MT := fun ρ => match f ρ with
  | .nx ρ1 => F ρ1
  | x => .s x
section
variable {X : Cx} {W : WX} {i : Nat} {st : Stmt} {sts : List Stmt} {e : Expr} {es : List Expr} {pos : Pos}
theorem dsT_cons {f : SM} {F : MT} (h1 : DS X W st f) (h2 : DSsT X W sts F) : DSsT X W (st :: sts) (seqT f F) :=
  iSs (pss_cons h1 h2) fun D σ H ⟨H0, B, G, ρ, I, h⟩ => by
    refine ⟨H0, B, G, ρ, I, ?_⟩
    unfold seqT at h
    cases q : f ρ with
    | nx ρ1 => rw [q] at h; exact fun σ' G' H' I' => ⟨H0, B, G', ρ1, I', h⟩
    | rt r ρ1 => rw [q] at h; exact h
    | bk ρ1 => rw [q] at h; exact h
    | ct ρ1 => rw [q] at h; exact h
    | xc c ρ1 => rw [q] at h; exact h
    | bad => rw [q] at h; exact h
/-! the entries of the tuple -/
abbrev WM := DEnv → List Sl → Option (List Sl)
def wNil : WM := fun _ es => some es
def wCons (f : EM) (r : WM) : WM := fun ρ es => match f ρ with
  | .ok (.ow d) ρ' => r ρ' (es ++ [.ow d])
  | .ok (.sh d) ρ' => r ρ' (es ++ [.sh d])
  | .ok (.al j) ρ' => (match ρ'[j]? with
    | some (.ow d) => r (ρ'.set j .un) (es ++ [.ow d])
    | _ => none)
  | _ => none
def cW (K : PySem.W.Frag) (f : WM) : TA := fun σ H Q => ∃ H0 B G ρ es vs es', Ex K H0 B G ρ es σ (vs.map some) H ∧ f ρ es = some es' ∧
  ∀ vs' G' H' ρ', Grow G G' → Ex K H0 B G' ρ' es' σ ((vs ++ vs').map some) H' → Q vs' H'
abbrev DAW (X : Cx) (es : List Expr) (f : WM) : Prop := PA X es (cW X.K f)
theorem daw_nil : DAW X [] wNil := iA pa_nil fun σ H Q ⟨H0, B, G, ρ, es, vs, es', E, e, q⟩ => by
  cases e
  exact q [] G H ρ (Grow.refl G) (by rw [List.append_nil]; exact E)
theorem daw_cons {f : EM} {r : WM} (ha : DE X W e f) (hr : DAW X es r) (hs : starEach (e :: es) X.env = (false, eval e X.env) :: starEach es X.env := by rfl) : DAW X (e :: es) (wCons f r) :=
  iA (pa_cons ha hr hs) fun σ H Q ⟨H0, B, G, ρ, es0, vs, es', E, e, q⟩ => by
    refine ⟨ov H0 (ghs es0 (vs.map some) H), B, G, ρ, E.out, ?_⟩
    have bb : ∀ a, G a = none → B a = none := fun a n => E.st.bg.free n
    unfold wCons at e
    have add : ∀ {ρ1 : DEnv} {G1 H1 : Hp} {s : Sl} {v : V}, Grow G G1 → Ex X.K H0 B G1 ρ1 es0 σ (vs.map some) H1 → SlOk X.K H0 G1 H1 (some v) s → (∀ d, s = .ow d → ∀ (k : Nat) (e : D) (p : Addr), v = .ref p → (ρ1 ++ es0)[k]? = some (.ow e) → (σ ++ vs.map some)[k]? ≠ some (some (.ref p))) → r ρ1 (es0 ++ [s]) = some es' →
        cW X.K r σ H1 fun vs' H' => Q (v :: vs') H' := fun {ρ1 G1 H1 s v} g1 E1 so n q1 => by
      have J := E1.st.snoc so n
      rw [List.append_assoc, List.append_assoc, show [some v] = [v].map some from rfl, ← List.map_append] at J
      refine ⟨H0, B, G1, ρ1, es0 ++ [s], vs ++ [v], es', ⟨J, E1.len⟩, q1, fun vs' G' H' ρ' g2 E2 => ?_⟩
      rw [List.append_assoc] at E2
      exact q (v :: vs') G' H' ρ' (g1.trans g2) E2
    cases q1 : f ρ with
    | xc c ρ1 => rw [q1] at e; cases e
    | bad => rw [q1] at e; cases e
    | ok x ρ1 =>
      rw [q1] at e
      intro v G1 H1 g1 J y
      have E1 := E.back J g1 bb
      cases x with
      | sh d => exact add (s := .sh d) g1 E1 ⟨v, rfl, y⟩ (fun d z => nomatch z) e
      | ow d =>
        obtain ⟨p, rfl, g, h0, n, c⟩ := y
        obtain ⟨h0', nm⟩ := E.dn h0
        refine add (s := .ow d) g1 E1 ⟨p, rfl, g, h0', c⟩ (fun d' _ k e2 p2 ep a b => ?_) e
        cases ep
        by_cases lk : k < ρ1.length
        · rw [(E1.left lk).1] at a
          rw [(E1.left lk).2] at b
          exact n k e2 a b
        · rw [List.getElem?_append_right (by omega)] at a
          rw [List.getElem?_append_right (by rw [← E1.len]; omega), ← E1.len] at b
          exact nm (mem_ownAs.mpr ⟨_, e2, a, b⟩)
      | al j =>
        dsimp only at e
        split at e
        · rename_i d q2
          have y' : σ[j]? = some (some v) := y
          have lj : j < ρ1.length := (List.getElem?_eq_some_iff.mp q2).1
          obtain ⟨p, e1, g, h0, c⟩ := E1.st.ow (i := j) (d := d) (by rw [(E1.left lj).1, q2])
          rw [(E1.left lj).2, y'] at e1
          have ev : v = .ref p := Option.some.inj (Option.some.inj e1)
          subst ev
          have S := E1.st.reslot (i := j) (s := .un) True.intro fun _ z => nomatch z
          rw [List.set_append_left _ _ lj] at S
          have E2 : Ex X.K H0 B G1 (ρ1.set j .un) es0 σ (vs.map some) H1 := ⟨S, by rw [List.length_set]; exact E1.len⟩
          refine add (s := .ow d) g1 E2 ⟨p, rfl, g, h0, c⟩ (fun d' _ k e2 p2 ep a b => ?_) e
          cases ep
          rw [← List.set_append_left _ _ lj] at a
          rcases set_get a with ⟨_, z⟩ | ⟨nk, a⟩
          · cases z
          · exact nk (E1.st.dj k j e2 d p a (by rw [(E1.left lj).1, q2]) b (by rw [(E1.left lj).2, y']))
        · cases e
open Classical in
noncomputable def retT (f : WM) : MT := fun ρ => match f ρ [] with
  | some es => if es.length ≤ 1000 then .tw es else .s .bad
  | none => .s .bad
theorem dsT_ret {f : WM} {j : Nat} (ha : DAW X es f) : DSsT X W [.Return (some (.Tuple es j pos)) pos2] (retT f) :=
  iSs (pss_one (ps_ret (pe_tupP ha))) fun D σ H ⟨H0, B, G, ρ, I, h⟩ => by
    unfold retT at h
    cases q : f ρ [] with
    | none => rw [q] at h; exact h.elim
    | some es' =>
      rw [q] at h
      dsimp only at h
      by_cases z : es'.length ≤ 1000
      · rw [if_pos z] at h
        refine ⟨H0, B, G, ρ, [], [], es', ⟨by rw [List.append_nil, List.map_nil, List.append_nil]; exact I, I.len⟩, q, fun vs' G' H' ρ' g E => ?_⟩
        rw [List.nil_append] at E
        have l2 := E.len2
        rw [List.length_map] at l2
        refine ⟨by rw [sizeLine_eq]; omega, fun p o hp pl => ?_⟩
        have A := E.st.alloc (o := .frz o (.tup vs')) hp
        obtain ⟨gp, h0⟩ := E.st.gfree hp
        obtain ⟨F, gg⟩ := A.freezeCell (p := p) (upd_same (H := H')) gp h0 (E.st.notown hp)
        exact h p vs' _ _ (.inl ⟨o, upd_same, pl⟩) (F.suf E.len)
      · rw [if_neg z] at h; exact h.elim
end
def finT : ST → FT
  | .s x => (match fin x with
    | .sh d => .sh d
    | .xc c => .xc c
    | _ => .bad)
  | .tw es => .tw es
def runT (L : Nat) (body : MT) (ds : List D) : FT := finT (body (ds.map .sh ++ List.replicate (L - ds.length) .un))
section
variable {P : Program} {w : World} {K : PySem.W.Frag} {mg : Str → Option Value} {base : Heap} {k n : Nat} {x : Str} {m : List D → FT}
theorem calT_ok {st : Stmt} {N ps : List Str} {L : Nat} {body : MT} (S : Std K mg x st ps) (sc : FnScope N ps (defScope st)) (hb : ∀ (f : Addr) (cdv : Value) (A : Around) (outer : List Env) (s : Shared) (H : Hp) (E : XK), Room k (A.deeper (envOfC x (defScope st) s.heap.objs.size f cdv)) →
      DSsT (cxOf (L2.CX P w) P w K mg base N x (defScope st) f cdv A outer s H E) (fun cls d _ H => E cls d H) (defBody st) body) (hL : N.length = L := by rfl) (hn : ps.length = n := by rfl) : CalT P w K mg base (k + 1) x n (runT L body) := by
  subst hL hn
  obtain ⟨f, fd, F, hm⟩ := S.ex
  refine ⟨f, fd, ps, ?_, hm, F.kp, F.bindsN S.b⟩
  refine F.ok sc (fun vs H Q E ⟨B, ds, hl, _, r, _⟩ => by rw [r.length, hl]) fun cdv A outer s H vs Q E hr hsp => ?_
  obtain ⟨B, ds, hl, sb, r, fp⟩ := hsp
  refine ⟨_, hb f cdv A outer s H E hr, H, B, B, _, StD.entry (N := N) sb r, ?_⟩
  have aft : ∀ {G' : Hp} {ρ' : DEnv} {σ' : L2.St} {H' : Hp}, StD K H B G' ρ' σ' H' → Aft B H G' H' := fun I => ⟨I.h0, I.bg, I.gh, I.nb⟩
  unfold runT at fp
  show STPost K mg H B _ _ (body (ds.map Sl.sh ++ List.replicate (N.length - ds.length) Sl.un))
  cases q : body (ds.map Sl.sh ++ List.replicate (N.length - ds.length) Sl.un) with
  | tw es => rw [q] at fp; exact fun p vs G' H' sq I => fp p vs G' H' sq I
  | s x =>
  rw [q] at fp
  cases x with
  | nx ρ' => exact fun σ' G' H' I => fp _ G' H' (aft I) .non
  | rt r ρ' =>
    intro v σ' G' H' I x
    cases r with
    | sh d => exact fp v G' H' (aft I) x
    | ow d => exact fp.elim
    | al i =>
      dsimp only [finT, fin] at fp
      have x' : σ'[i]? = some (some v) := x
      cases q2 : ρ'[i]? with
      | none => simp only [q2] at fp; exact fp.elim
      | some sl =>
        simp only [q2] at fp
        cases sl with
        | un => exact fp.elim
        | sh d =>
          obtain ⟨v2, e1, rp⟩ := I.sh q2
          rw [x'] at e1
          cases e1
          exact fp v G' H' (aft I) rp
        | ow d => exact fp.elim
  | bk ρ' => exact fp.elim
  | ct ρ' => exact fp.elim
  | xc c ρ' => exact fun cls σ' G' H' I e => fp cls G' H' (aft I) e
  | bad => exact fp
end
/-! ### x = f(..) -/
open Classical in
noncomputable def enterB (i n : Nat) (m : List D → FT) (fa : AM) (F : T3 → DEnv → SR) : SM := fun ρ => match fa ρ with
  | .ok rs ρ1 => (match fzs ρ1 rs with
    | some (ds, ρ2) => if ds.length = n ∧ i < ρ2.length then (match m ds with
      | .sh d => blkE i F (.pl d) ρ2
      | .tw es => if es.all (fun s => !isUn s) = true then blkE i F (.tw es) ρ2 else .bad
      | .xc c => .xc c ρ2
      | .bad => .bad) else .bad
    | none => .bad)
  | .xc c ρ1 => .xc c ρ1
  | .bad => .bad
section
variable {X : Cx} {W : WX} {e : Expr} {es : List Expr} {sts : List Stmt} {pos : Pos}
theorem ds_enterB (i : Nat) {k j n : Nat} {m : List D → FT} {x y : Str} {p pos' cpos : Pos} {fa : AM} {F : T3 → DEnv → SR} (hN : X.N.Nodup) (C : CalT X.prog X.w X.K X.mg X.base j x n m) (hr : Room k X.A) (tk : Takes X W) (ha : DA X W (e :: es) fa) (h2 : DSs3E X W i sts F) (hj : j ≤ k := by decide) (hi : X.N[i]? = some y := by rfl) (hx : Loc X.env.scope y := by first | exact Or.inl rfl | exact Or.inr rfl)
    (hg : Gl X x := by rfl) (hdb : (x == ("__debug__" : Str)) = false := by decide) (he : starEach (e :: es) X.env = (false, eval e X.env) :: starEach es X.env := by rfl) (hpl : (backTo cpos (starEach es X.env)).any (·.1) = false := by rfl)
    (hs : swapsWith (.Call (.Name x p) (e :: es) [] cpos) (some (.Name y pos')) pos.line X.env = pure false := by rfl) (hf : X.fn y = true ∨ X.env.scope.names.lookup y = some .local := by first | exact .inl rfl | exact .inr rfl | assumption) :
    DSs X W (.Assign [.Name y pos'] (.Call (.Name x p) (e :: es) [] cpos) pos :: sts) (enterB i n m fa F) := by
  obtain ⟨f, fd, ps, Fn, hm, hk, hb⟩ := C.ex
  refine iSs (pss_cons (ps_set hN hi hx (pe_callS (E := WE W) Fn (hr.mono hj) hg hm hk hb (fun σ => passAt tk σ) ha hdb he hpl) hs hf) h2) fun D σ H ⟨H0, B, G, ρ, I, h⟩ => ?_
  refine ⟨H0, B, G, ρ, I, ?_⟩
  unfold enterB at h
  cases q : fa ρ with
  | xc c ρ1 => rw [q] at h; exact fun cls G1 H1 _ J e => h cls σ G1 H1 J e
  | bad => rw [q] at h; exact h
  | ok rs ρ1 =>
    rw [q] at h
    intro xs G1 H1 s1 I1 v1
    dsimp only at h
    cases q2 : fzs ρ1 rs with
    | none => rw [q2] at h; exact h.elim
    | some z =>
      obtain ⟨ds, ρ2⟩ := z
      rw [q2] at h
      dsimp only at h
      by_cases hl : ds.length = n ∧ i < ρ2.length
      · rw [if_pos hl] at h
        obtain ⟨hl, li⟩ := hl
        obtain ⟨G2, s2, I2, r2⟩ := v1.fzs I1 q2
        refine ⟨G2, ds, hl, I2.gh, r2, ?_⟩
        cases q3 : m ds with
        | sh d =>
          rw [q3] at h
          intro v G' H' a r
          have I3 := (I2.after a).setS i (v := v) (s := .sh (.xn v)) ⟨v, rfl, .xn v⟩ (fun _ z => nomatch z)
          refine ⟨H0, B, G', _, .pl d, ⟨v, [], [], ⟨by rw [List.append_nil, List.append_nil]; exact I3, I3.len⟩, List.getElem?_set_self li, .pl r⟩, blkE_go h v⟩
        | tw es' =>
          rw [q3] at h
          dsimp only at h
          by_cases hu : es'.all (fun s => !isUn s) = true
          · rw [if_pos hu] at h
            intro p vs G' H' sq J
            have I3 := (I2.join J).setS i (v := .ref p) (s := .sh (.xn (.ref p))) ⟨_, rfl, .xn _⟩ (fun _ z => nomatch z)
            rw [List.set_append_left _ _ li, List.set_append_left _ _ (by rw [← I2.len]; exact li)] at I3
            refine ⟨H0, B, G', _, .tw es', ⟨.ref p, es', vs.map some, ⟨I3, by rw [List.length_set, List.length_set]; exact I2.len⟩, List.getElem?_set_self li, .tw sq fun s hs => ?_⟩, blkE_go h _⟩
            have := List.all_eq_true.mp hu s hs
            simpa using this
          · rw [if_neg hu] at h; exact h.elim
        | xc c => rw [q3] at h; exact fun cls G' H' a e => h cls σ G' H' (I2.after a) e
        | bad => rw [q3] at h; exact h.elim
      · rw [if_neg hl] at h; exact h.elim
end
end DL

/-! DL44: reckoning with DL42, DL43. -/
namespace DL
open PySem PySem.Spec PyProof.Rows L2
def seqTA (F : MT) : SR → ST
  | .nx ρ1 => F ρ1
  | x => .s x
def finTA : FR → FT
  | .sh d => .sh d
  | .xc c => .xc c
  | _ => .bad
def retTA : Option (List Sl) → ST
  | some es => if es.length ≤ 1000 then .tw es else .s .bad
  | none => .s .bad
def wConsJ (r : WM) (es : List Sl) (j : Nat) (ρ : DEnv) : Option Sl → Option (List Sl)
  | some (.ow d) => r (ρ.set j .un) (es ++ [.ow d])
  | _ => none
def wConsA (r : WM) (es : List Sl) : ER → Option (List Sl)
  | .ok (.ow d) ρ => r ρ (es ++ [.ow d])
  | .ok (.sh d) ρ => r ρ (es ++ [.sh d])
  | .ok (.al j) ρ => wConsJ r es j ρ ρ[j]?
  | _ => none
theorem v_runT {L b ds} : runT L b ds = finT (b (ds.map .sh ++ unD (L - ds.length))) := by unfold runT; rw [un_eq]
theorem v_seqT {f F ρ} : seqT f F ρ = seqTA F (f ρ) := by unfold seqT seqTA; cases f ρ <;> rfl
theorem v_seqTa {F ρ} : seqTA F (.nx ρ) = F ρ := Eq.trans rfl rfl
theorem v_seqTb {F r ρ} : seqTA F (.rt r ρ) = .s (.rt r ρ) := Eq.trans rfl rfl
theorem v_seqTc {F c ρ} : seqTA F (.xc c ρ) = .s (.xc c ρ) := Eq.trans rfl rfl
theorem v_finT1 {x} : finT (.s x) = finTA (fin x) := by show (match fin x with | .sh d => FT.sh d | .xc c => .xc c | _ => .bad) = _; cases fin x <;> rfl
theorem v_finT2 {es} : finT (.tw es) = .tw es := Eq.trans rfl rfl
theorem v_finT3 {d} : finTA (.sh d) = .sh d := Eq.trans rfl rfl
theorem v_finT4 {c} : finTA (.xc c) = .xc c := Eq.trans rfl rfl
theorem v_retT {f ρ} : retT f ρ = retTA (f ρ []) := by unfold retT retTA; cases f ρ [] <;> rfl
theorem v_retTa {es} : retTA (some es) = if es.length ≤ 1000 then .tw es else .s .bad := Eq.trans rfl rfl
theorem v_wNil {ρ es} : wNil ρ es = some es := Eq.trans rfl rfl
theorem v_wCons {f r ρ es} : wCons f r ρ es = wConsA r es (f ρ) := by
  unfold wCons wConsA
  cases f ρ with
  | ok x ρ1 => cases x with
    | al j => show (match ρ1[j]? with | some (.ow d) => r (ρ1.set j .un) (es ++ [.ow d]) | _ => none) = wConsJ r es j ρ1 ρ1[j]?; unfold wConsJ; cases ρ1[j]? with
      | none => rfl
      | some s => cases s <;> rfl
    | _ => rfl
  | _ => rfl
theorem v_wConsa {r es d ρ} : wConsA r es (.ok (.ow d) ρ) = r ρ (es ++ [.ow d]) := Eq.trans rfl rfl
theorem v_wConsb {r es d ρ} : wConsA r es (.ok (.sh d) ρ) = r ρ (es ++ [.sh d]) := Eq.trans rfl rfl
theorem v_wConsc {r es j} {ρ : DEnv} : wConsA r es (.ok (.al j) ρ) = wConsJ r es j ρ ρ[j]? := Eq.trans rfl rfl
theorem v_wConsd {r es j ρ d} : wConsJ r es j ρ (some (.ow d)) = r (ρ.set j .un) (es ++ [.ow d]) := Eq.trans rfl rfl
/-! taking it -/
def allN : List Sl → Bool
  | [] => true
  | s :: es => !isUn s && allN es
theorem allN_eq : ∀ es : List Sl, es.all (fun s => !isUn s) = allN es
  | [] => rfl
  | s :: es => by rw [List.all_cons, allN_eq es]; rfl
noncomputable def entBM (i : Nat) (F : T3 → DEnv → SR) (ρ : DEnv) : FT → SR
  | .sh d => blkE i F (.pl d) ρ
  | .tw es => if allN es = true then blkE i F (.tw es) ρ else .bad
  | .xc c => .xc c ρ
  | .bad => .bad
noncomputable def entBF (i n : Nat) (m : List D → FT) (F : T3 → DEnv → SR) : Option (List D × DEnv) → SR
  | some (ds, ρ) => if ds.length = n ∧ i < ρ.length then entBM i F ρ (m ds) else .bad
  | none => .bad
noncomputable def entBA (i n : Nat) (m : List D → FT) (F : T3 → DEnv → SR) : AR → SR
  | .ok rs ρ => entBF i n m F (fzs ρ rs)
  | .xc c ρ => .xc c ρ
  | .bad => .bad
theorem v_entB {i n m fa F ρ} : enterB i n m fa F ρ = entBA i n m F (fa ρ) := by
  unfold enterB entBA
  cases fa ρ with
  | ok rs ρ1 =>
    show (match fzs ρ1 rs with | some (ds, ρ2) => _ | none => _) = entBF i n m F (fzs ρ1 rs)
    unfold entBF
    cases fzs ρ1 rs with
    | none => rfl
    | some z =>
      obtain ⟨ds, ρ2⟩ := z
      dsimp only
      congr 1
      unfold entBM
      cases m ds with
      | tw es => dsimp only; rw [allN_eq]
      | _ => rfl
  | _ => rfl
theorem v_entBa {i n m F rs ρ} : entBA i n m F (.ok rs ρ) = entBF i n m F (fzs ρ rs) := Eq.trans rfl rfl
theorem v_entBx {i n m F c ρ} : entBA i n m F (.xc c ρ) = .xc c ρ := Eq.trans rfl rfl
theorem v_entBb {i n m F ds ρ} : entBF i n m F (some (ds, ρ)) = if ds.length = n ∧ i < ρ.length then entBM i F ρ (m ds) else .bad := Eq.trans rfl rfl
theorem v_entBc {i F ρ d} : entBM i F ρ (.sh d) = blkE i F (.pl d) ρ := Eq.trans rfl rfl
theorem v_entBd {i F ρ es} : entBM i F ρ (.tw es) = if allN es = true then blkE i F (.tw es) ρ else .bad := Eq.trans rfl rfl
theorem v_entBe {i F ρ c} : entBM i F ρ (.xc c) = .xc c ρ := Eq.trans rfl rfl
theorem v_allN0 : allN [] = true := Eq.trans rfl rfl
theorem v_allN1 {d es} : allN (.ow d :: es) = allN es := by show (!isUn (.ow d) && allN es) = _; rfl
theorem v_allN2 {d es} : allN (.sh d :: es) = allN es := by show (!isUn (.sh d) && allN es) = _; rfl
def seqEA (F : T3 → DEnv → SR) : SR3 → SR
  | .nx t ρ => F t ρ
  | .en x => (match x with
    | .nx _ => .bad
    | x => x)
  | .bad => .bad
theorem v_seqE {f F t ρ} : seqE f F t ρ = seqEA F (f t ρ) := by unfold seqE seqEA; cases f t ρ <;> rfl
theorem v_seqEa {F t ρ} : seqEA F (.nx t ρ) = F t ρ := Eq.trans rfl rfl
theorem v_seqEb {F r ρ} : seqEA F (.en (.rt r ρ)) = .rt r ρ := Eq.trans rfl rfl
theorem v_seqEc {F c ρ} : seqEA F (.en (.xc c ρ)) = .xc c ρ := Eq.trans rfl rfl
def seqBA (F : SM3) : SR3 → SR3
  | .nx t ρ => F t ρ
  | .en x => (match x with
    | .nx _ => .bad
    | x => .en x)
  | .bad => .bad
theorem v_seqB {f F t ρ} : seqB f F t ρ = seqBA F (f t ρ) := by unfold seqB seqBA; cases f t ρ <;> rfl
theorem v_seqBa {F t ρ} : seqBA F (.nx t ρ) = F t ρ := Eq.trans rfl rfl
theorem v_seqBb {F r ρ} : seqBA F (.en (.rt r ρ)) = .en (.rt r ρ) := Eq.trans rfl rfl
theorem v_seqBc {F c ρ} : seqBA F (.en (.xc c ρ)) = .en (.xc c ρ) := Eq.trans rfl rfl
theorem v_nilB {t ρ} : nilB t ρ = .nx t ρ := Eq.trans rfl rfl
open Classical in
noncomputable def liftBA (i : Nat) (t : T3) (ρ : DEnv) : SR → SR3
  | .nx ρ' => if ρ'[i]? = ρ[i]? then .nx t ρ' else .bad
  | .rt r ρ' => .en (.rt r (ρ'.set i .un))
  | .xc c ρ' => .en (.xc c (ρ'.set i .un))
  | _ => .bad
theorem v_liftB {i f t ρ} : liftB i f t ρ = liftBA i t ρ (f ρ) := by unfold liftB liftBA; cases f ρ <;> rfl
theorem v_liftBa {i t} {ρ ρ' : DEnv} : liftBA i t ρ (.nx ρ') = (open Classical in if ρ'[i]? = ρ[i]? then .nx t ρ' else .bad) := Eq.trans rfl rfl
theorem v_liftBb {i t ρ r ρ'} : liftBA i t ρ (.rt r ρ') = .en (.rt r (ρ'.set i .un)) := Eq.trans rfl rfl
theorem v_liftBc {i t ρ c ρ'} : liftBA i t ρ (.xc c ρ') = .en (.xc c (ρ'.set i .un)) := Eq.trans rfl rfl
def ifBA (F G : SM3) (t : T3) : Option (Bool × DEnv) → SR3
  | some (b, ρ) => if b = true then F t ρ else G t ρ
  | none => .bad
theorem v_ifB {c F G t ρ} : ifB c F G t ρ = ifBA F G t (c t ρ) := by unfold ifB ifBA; cases c t ρ <;> rfl
theorem v_ifBa {F G t b ρ} : ifBA F G t (some (b, ρ)) = if b = true then F t ρ else G t ρ := Eq.trans rfl rfl
open Classical in
noncomputable def lendBA (i : Nat) (t : T3) (ρ : DEnv) : TR → Option (Bool × DEnv)
  | .ok b ρ' => if ρ' = (shAll ρ).set i (.sh t.d) then some (b, ρ) else none
  | _ => none
theorem v_lendB {i f t ρ} : lendB i f t ρ = lendBA i t ρ (f ((shAll ρ).set i (.sh t.d))) := by unfold lendB lendBA; cases f ((shAll ρ).set i (.sh t.d)) <;> rfl
theorem v_lendBa {i t ρ b ρ'} : lendBA i t ρ (.ok b ρ') = (open Classical in if ρ' = (shAll ρ).set i (.sh t.d) then some (b, ρ) else none) := Eq.trans rfl rfl
open Classical in
noncomputable def liftTBA (i : Nat) (ρ : DEnv) : TR → Option (Bool × DEnv)
  | .ok b ρ' => if ρ'[i]? = ρ[i]? then some (b, ρ') else none
  | _ => none
theorem v_liftTB {i f t ρ} : liftTB i f t ρ = liftTBA i ρ (f ρ) := by unfold liftTB liftTBA; cases f ρ <;> rfl
theorem v_liftTBa {i b} {ρ ρ' : DEnv} : liftTBA i ρ (.ok b ρ') = (open Classical in if ρ'[i]? = ρ[i]? then some (b, ρ') else none) := Eq.trans rfl rfl
theorem v_t3a {d} : T3.d (.pl d) = d := Eq.trans rfl rfl
theorem v_t3b {es} : T3.d (.tw es) = .tup (es.map slD) := Eq.trans rfl rfl
theorem v_slD1 {d} : slD (.ow d) = d := Eq.trans rfl rfl
theorem v_slD2 {d} : slD (.sh d) = d := Eq.trans rfl rfl
def mutBP (k : Nat) (T : String) (es : List Sl) (ρ : DEnv) (c : D) : Option (D × D) → SR3
  | some (_, c') => if kindOk T c = true then .nx (.tw (es.set k (.ow c'))) ρ else .bad
  | none => .bad
def mutBA (k : Nat) (T : String) (p : D → List D → Option (D × D)) (es : List Sl) (ρ : DEnv) : Option Sl → SR3
  | some (.ow c) => mutBP k T es ρ c (p c [])
  | _ => .bad
theorem v_mutB {i k T p es ρ} : mutB i k T p (.tw es) ρ = mutBA k T p es ρ es[k]? := by
  unfold mutB mutBA
  dsimp only
  cases es[k]? with
  | none => rfl
  | some s =>
    cases s with
    | ow c => dsimp only; unfold mutBP; cases p c [] <;> rfl
    | _ => rfl
theorem v_mutBa {k T p es ρ c} : mutBA k T p es ρ (some (.ow c)) = mutBP k T es ρ c (p c []) := Eq.trans rfl rfl
theorem v_mutBb {k T es ρ c y c'} : mutBP k T es ρ c (some (y, c')) = if kindOk T c = true then .nx (.tw (es.set k (.ow c'))) ρ else .bad := Eq.trans rfl rfl
theorem v_mutBc {k T es ρ c} : mutBP k T es ρ c none = .bad := Eq.trans rfl rfl
theorem v_elsB {F G t ρ} : elsB F G t ρ = (open Classical in if F t ρ = .bad then G t ρ else F t ρ) := Eq.trans rfl rfl
theorem v_exitB {i g t ρ} : exitB i g t ρ = g (ρ.set i (.sh t.d)) := Eq.trans rfl rfl
theorem v_mcl1 {ds} : mClear (.lst ds) [] = some (.non, .lst []) := Eq.trans rfl rfl
theorem v_mcl2 {ds} : mClear (.dct ds) [] = none := Eq.trans rfl rfl
theorem v_mcl3 {ds} : mDClear (.dct ds) [] = some (.non, .dct []) := Eq.trans rfl rfl
end DL

namespace Law
open PySem PySem.Spec PyProof.Rows L2 DL
structure Txt (K : PySem.W.Frag) (mg : Str → Option Value) : Prop where
  f_list : mg "list" = none
  f_len : mg "len" = none
  f_range : mg "range" = none
  f_reversed : mg "reversed" = none
  f_int : mg "int" = none
  f_max : mg "max" = none
  f_tuple : mg "tuple" = none
  f_enumerate : mg "enumerate" = none
  f_isinstance : mg "isinstance" = none
  x_NoName : ExcD K mg "NoName"
  x_Twice : ExcD K mg "Twice"
section
variable {P : Program} {w : World} {K : PySem.W.Frag} {mg : Str → Option Value} {base : Heap}
/-! elders_in -/
theorem sc_elders_in : FnScope ["lines", "told", "name", "elders"] ["lines"] (defScope s_elders_in) := ⟨rfl, rfl, rfl, by decide +kernel, rfl, by decide +kernel, by decide +kernel⟩
noncomputable def l_elders_in_1 : SM :=
    (sPut 1 (eVar 2) (eVar 3))
theorem u_elders_in_1 {ρ : DEnv} : l_elders_in_1 ρ = ((sPut 1 (eVar 2) (eVar 3))) ρ := Eq.trans rfl rfl
noncomputable def b_elders_in : SM :=
    (sSeq (sSet 1 eNewD)
    (sSeq (sForN 0 (gUn 2 (gsCons (gNm 2) (gsCons (gNm 3) gsNil))) l_elders_in_1)
    (sRet (eVar 1))))
noncomputable def m_elders_in : List D → FR := runF 4 b_elders_in
theorem ok_elders_in (T : Txt K mg) (S : Std K mg "elders_in" s_elders_in ["lines"]) : CalD P w K mg base 1 "elders_in" 1 m_elders_in := cal_ok (k := 0) S sc_elders_in fun f cdv A outer s H E hr => by
    have sc := sc_elders_in
    have tk := takes_of (X := cxOf (L2.CX P w) P w K mg base ["lines", "told", "name", "elders"] "elders_in" (defScope s_elders_in) f cdv A outer s H E) rfl rfl rfl rfl
    have hpo := passes_of (X := cxOf (L2.CX P w) P w K mg base ["lines", "told", "name", "elders"] "elders_in" (defScope s_elders_in) f cdv A outer s H E) rfl
    exact (ds_cons (ds_set 1 sc.nd de_newD)
    (ds_cons (ds_forN 0 hpo (by rfl) (dg_tup (tp := false) (by rfl) (dgs_cons (dg_name 2 sc.nd) (dgs_cons (dg_name 3 sc.nd) dgs_nil))) (ds_one (ds_put 1 (u1 hr) (de_var 2) (de_var 3))))
    (ds_one (ds_ret (de_var 1)))))
/-! look_for -/
theorem sc_look_for : FnScope ["lines", "names", "known", "name"] ["lines", "names"] (defScope s_look_for) := ⟨rfl, rfl, rfl, by decide +kernel, rfl, by decide +kernel, by decide +kernel⟩
noncomputable def l_look_for_1 : SM :=
    (sIf (tVal (eOp2 pNotIn (eVar 3) (eVar 2))) (sRaise "NoName")
    sNil)
theorem u_look_for_1 {ρ : DEnv} : l_look_for_1 ρ = ((sIf (tVal (eOp2 pNotIn (eVar 3) (eVar 2))) (sRaise "NoName")
    sNil)) ρ := Eq.trans rfl rfl
noncomputable def b_look_for : SM :=
    (sSeq (sSet 2 (eCall 1 m_elders_in (aCons (eVar 0) aNil)))
    (sForN 1 (gNm 3) l_look_for_1))
noncomputable def m_look_for : List D → FR := runF 4 b_look_for
theorem ok_look_for (T : Txt K mg) (S : Std K mg "look_for" s_look_for ["lines", "names"]) (C_elders_in : CalD P w K mg base 1 "elders_in" 1 m_elders_in) : CalD P w K mg base 2 "look_for" 2 m_look_for := cal_ok (k := 1) S sc_look_for fun f cdv A outer s H E hr => by
    have sc := sc_look_for
    have tk := takes_of (X := cxOf (L2.CX P w) P w K mg base ["lines", "names", "known", "name"] "look_for" (defScope s_look_for) f cdv A outer s H E) rfl rfl rfl rfl
    have hpo := passes_of (X := cxOf (L2.CX P w) P w K mg base ["lines", "names", "known", "name"] "look_for" (defScope s_look_for) f cdv A outer s H E) rfl
    exact (ds_cons (ds_set 2 sc.nd (de_cal C_elders_in hr tk (da_cons (de_var 0) da_nil)))
    (ds_one (ds_forN 1 hpo (by rfl) (dg_name 3 sc.nd) (ds_one (ds_if (dt_cmp (op_notInA (u65 hr)) p_notIn (de_var 3) (de_var 2) (by rfl)) (ds_one (ds_raiseD T.x_NoName tk))
    ds_nil)))))
/-! look_at_lists -/
theorem sc_look_at_lists : FnScope ["lines", "ones", "others", "third", "some", "k"] ["lines", "ones", "others", "third"] (defScope s_look_at_lists) := ⟨rfl, rfl, rfl, by decide +kernel, rfl, by decide +kernel, by decide +kernel⟩
noncomputable def l_look_at_lists_1 : SM :=
    (sIf (tVal (eOp2 pIn (eOp2 pIx (eVar 4) (eVar 5)) (eSl pSl (eVar 4) oNone (oSome (eVar 5))))) (sRaise "Twice")
    sNil)
theorem u_look_at_lists_1 {ρ : DEnv} : l_look_at_lists_1 ρ = ((sIf (tVal (eOp2 pIn (eOp2 pIx (eVar 4) (eVar 5)) (eSl pSl (eVar 4) oNone (oSome (eVar 5))))) (sRaise "Twice")
    sNil)) ρ := Eq.trans rfl rfl
noncomputable def b_look_at_lists : SM :=
    (sSeq (sSet 4 (eOp2 pAdd (eOp2 pAdd (eOpN pList (aCons (eVar 1) aNil)) (eOpN pList (aCons (eVar 2) aNil))) (eOpN pList (aCons (eVar 3) aNil))))
    (sSeq (sExpr (eCall 2 m_look_for (aCons (eVar 0) (aCons (eVar 4) aNil))))
    (sFor (iRange1 (aCons (eOpN pLen (aCons (eVar 4) aNil)) aNil)) (gNm 5) l_look_at_lists_1)))
noncomputable def m_look_at_lists : List D → FR := runF 6 b_look_at_lists
theorem ok_look_at_lists (T : Txt K mg) (S : Std K mg "look_at_lists" s_look_at_lists ["lines", "ones", "others", "third"]) (C_look_for : CalD P w K mg base 2 "look_for" 2 m_look_for) : CalD P w K mg base 3 "look_at_lists" 4 m_look_at_lists := cal_ok (k := 2) S sc_look_at_lists fun f cdv A outer s H E hr => by
    have sc := sc_look_at_lists
    have tk := takes_of (X := cxOf (L2.CX P w) P w K mg base ["lines", "ones", "others", "third", "some", "k"] "look_at_lists" (defScope s_look_at_lists) f cdv A outer s H E) rfl rfl rfl rfl
    have hpo := passes_of (X := cxOf (L2.CX P w) P w K mg base ["lines", "ones", "others", "third", "some", "k"] "look_at_lists" (defScope s_look_at_lists) f cdv A outer s H E) rfl
    exact (ds_cons (ds_set 4 sc.nd (de_op op_addA p_add (de_op op_addA p_add (de_cT (call_listA rfl) p_list (by rfl) T.f_list (by decide +kernel) (da_cons (de_var 1) da_nil)) (de_cT (call_listA rfl) p_list (by rfl) T.f_list (by decide +kernel) (da_cons (de_var 2) da_nil))) (de_cT (call_listA rfl) p_list (by rfl) T.f_list (by decide +kernel) (da_cons (de_var 3) da_nil))))
    (ds_cons (ds_expr (de_cal C_look_for hr tk (da_cons (de_var 0) (da_cons (de_var 4) da_nil))))
    (ds_one (ds_for hpo (by rfl) (di_range1 (by rfl) T.f_range (da_cons (de_cB call_lenA p_len (by rfl) T.f_len (by decide +kernel) (da_cons (de_var 4) da_nil)) da_nil)) (dg_name 5 sc.nd) (ds_one (ds_if (dt_cmp (op_inA (u65 hr)) p_in (de_ix (ix_A (u1 hr)) p_ix (de_var 4) (de_var 5)) (de_slice sl_A p_sl (de_var 4) do_none (do_some (de_var 5))) (by rfl)) (ds_one (ds_raiseD T.x_Twice tk))
    ds_nil))))))
/-! above -/
theorem sc_above : FnScope ["lines", "names", "marked", "name", "elders", "elder"] ["lines", "names"] (defScope s_above) := ⟨rfl, rfl, rfl, by decide +kernel, rfl, by decide +kernel, by decide +kernel⟩
noncomputable def l_above_1 : SM :=
    (sPut 2 (eVar 3) (eC (.bl true)))
theorem u_above_1 {ρ : DEnv} : l_above_1 ρ = ((sPut 2 (eVar 3) (eC (.bl true)))) ρ := Eq.trans rfl rfl
noncomputable def l_above_2 : SM :=
    (sPut 2 (eVar 5) (eC (.bl true)))
theorem u_above_2 {ρ : DEnv} : l_above_2 ρ = ((sPut 2 (eVar 5) (eC (.bl true)))) ρ := Eq.trans rfl rfl
noncomputable def l_above_3 : SM :=
    (sIf (tVal (eOp2 pIn (eVar 3) (eVar 2))) (sForN 4 (gNm 5) l_above_2)
    sNil)
theorem u_above_3 {ρ : DEnv} : l_above_3 ρ = ((sIf (tVal (eOp2 pIn (eVar 3) (eVar 2))) (sForN 4 (gNm 5) l_above_2)
    sNil)) ρ := Eq.trans rfl rfl
noncomputable def b_above : SM :=
    (sSeq (sExpr (eCall 2 m_look_for (aCons (eVar 0) (aCons (eVar 1) aNil))))
    (sSeq (sSet 2 eNewD)
    (sSeq (sForN 1 (gNm 3) l_above_1)
    (sSeq (sFor (iRevD (eVar 0)) (gUn 2 (gsCons (gNm 3) (gsCons (gNm 4) gsNil))) l_above_3)
    (sRet (eLC [3, 4] (iSeq (eVar 0)) (gUn 2 (gsCons (gNm 3) (gsCons (gNm 4) gsNil))) (tVal (eOp2 pIn (eVar 3) (eVar 2))) (eVar 3)))))))
noncomputable def m_above : List D → FR := runF 6 b_above
theorem ok_above (T : Txt K mg) (S : Std K mg "above" s_above ["lines", "names"]) (C_look_for : CalD P w K mg base 2 "look_for" 2 m_look_for) : CalD P w K mg base 3 "above" 2 m_above := cal_ok (k := 2) S sc_above fun f cdv A outer s H E hr => by
    have sc := sc_above
    have tk := takes_of (X := cxOf (L2.CX P w) P w K mg base ["lines", "names", "marked", "name", "elders", "elder"] "above" (defScope s_above) f cdv A outer s H E) rfl rfl rfl rfl
    have hpo := passes_of (X := cxOf (L2.CX P w) P w K mg base ["lines", "names", "marked", "name", "elders", "elder"] "above" (defScope s_above) f cdv A outer s H E) rfl
    exact (ds_cons (ds_expr (de_cal C_look_for hr tk (da_cons (de_var 0) (da_cons (de_var 1) da_nil))))
    (ds_cons (ds_set 2 sc.nd de_newD)
    (ds_cons (ds_forN 1 hpo (by rfl) (dg_name 3 sc.nd) (ds_one (ds_put 2 (u1 hr) (de_var 3) de_bl)))
    (ds_cons (ds_for hpo (by rfl) (di_rev (by rfl) T.f_reversed (de_var 0)) (dg_tup (tp := true) (by rfl) (dgs_cons (dg_name 3 sc.nd) (dgs_cons (dg_name 4 sc.nd) dgs_nil))) (ds_one (ds_if (dt_cmp (op_inA (u65 hr)) p_in (de_var 3) (de_var 2) (by rfl)) (ds_one (ds_forN 4 hpo (by rfl) (dg_name 5 sc.nd) (ds_one (ds_put 2 (u1 hr) (de_var 5) de_bl))))
    ds_nil)))
    (ds_one (ds_ret (de_lc rfl sc.nd (di_seq (de_var 0)) (blkOk_by (own := [("name", 3), ("elders", 4)]) (by kernel_rfl)) (by decide) (fun _ _ _ _ _ => (dg_tup (tp := true) (by rfl) (dgs_cons (dg_name 3 sc.nd) (dgs_cons (dg_name 4 sc.nd) dgs_nil)))) (fun _ _ _ _ _ => (dts_one (dt_cmp (op_inA (u65 hr)) p_in (de_var 3) (de_var 2) (by rfl)))) (fun _ _ _ _ _ => (de_var 3)))))))))
/-! ties_among -/
theorem sc_ties_among : FnScope ["lines", "names", "tied", "name", "elders", "family", "one", "other"] ["lines", "names"] (defScope s_ties_among) := ⟨rfl, rfl, rfl, by decide +kernel, rfl, by decide +kernel, by decide +kernel⟩
noncomputable def l_ties_among_1 : SM2 :=
    (if2 (liftT 2 (tVal (eOp2 pNe (eVar 6) (eVar 7)))) (put2 2 (eVar 6) (eVar 7) (eC (.bl true)))
    (fun d ρ => .nx d ρ))
theorem u_ties_among_1 {d : D} {ρ : DEnv} : l_ties_among_1 d ρ = ((if2 (liftT 2 (tVal (eOp2 pNe (eVar 6) (eVar 7)))) (put2 2 (eVar 6) (eVar 7) (eC (.bl true)))
    (fun d ρ => .nx d ρ))) d ρ := Eq.trans rfl rfl
noncomputable def l_ties_among_2 : SM2 :=
    (for2 2 (iSeq (eVar 5)) (gNm 7) l_ties_among_1)
theorem u_ties_among_2 {d : D} {ρ : DEnv} : l_ties_among_2 d ρ = ((for2 2 (iSeq (eVar 5)) (gNm 7) l_ties_among_1)) d ρ := Eq.trans rfl rfl
noncomputable def l_ties_among_3 : SM2 :=
    (if2 (in2 2 (eVar 3)) (seq2 (lift2 2 (sSet 5 (eOp2 pAdd (eOpN pList (aCons (eVar 4) aNil)) (eLst (aCons (eVar 3) aNil)))))
    (for2 2 (iSeq (eVar 5)) (gNm 6) l_ties_among_2))
    (fun d ρ => .nx d ρ))
theorem u_ties_among_3 {d : D} {ρ : DEnv} : l_ties_among_3 d ρ = ((if2 (in2 2 (eVar 3)) (seq2 (lift2 2 (sSet 5 (eOp2 pAdd (eOpN pList (aCons (eVar 4) aNil)) (eLst (aCons (eVar 3) aNil)))))
    (for2 2 (iSeq (eVar 5)) (gNm 6) l_ties_among_2))
    (fun d ρ => .nx d ρ))) d ρ := Eq.trans rfl rfl
noncomputable def l_ties_among_4 : SM2 :=
    (new2 2 (eVar 3) eNewD)
theorem u_ties_among_4 {d : D} {ρ : DEnv} : l_ties_among_4 d ρ = ((new2 2 (eVar 3) eNewD)) d ρ := Eq.trans rfl rfl
noncomputable def b_ties_among : SM :=
    (enter3 2 (sSet 2 eNewD)
    (seq3 (for2 2 (iSeq (eVar 1)) (gNm 3) l_ties_among_4)
    (seq3 (for2 2 (iSeq (eVar 0)) (gUn 2 (gsCons (gNm 3) (gsCons (gNm 4) gsNil))) l_ties_among_3)
    (exit3 2 (sRet (eVar 2))))))
noncomputable def m_ties_among : List D → FR := runF 8 b_ties_among
theorem ok_ties_among (T : Txt K mg) (S : Std K mg "ties_among" s_ties_among ["lines", "names"]) : CalD P w K mg base 1 "ties_among" 2 m_ties_among := cal_ok (k := 0) S sc_ties_among fun f cdv A outer s H E hr => by
    have sc := sc_ties_among
    have tk := takes_of (X := cxOf (L2.CX P w) P w K mg base ["lines", "names", "tied", "name", "elders", "family", "one", "other"] "ties_among" (defScope s_ties_among) f cdv A outer s H E) rfl rfl rfl rfl
    have hpo := passes_of (X := cxOf (L2.CX P w) P w K mg base ["lines", "names", "tied", "name", "elders", "family", "one", "other"] "ties_among" (defScope s_ties_among) f cdv A outer s H E) rfl
    exact (ds3_enter (ds_set 2 sc.nd de_newD)
    (ds3_cons (ds2_for (W := WF) hpo (by rfl) (di_seq (de_var 1)) (dg_name 3 sc.nd) (by decide) (goff_nm (by decide)) (ds2_one (ds2_new (W := WF) 2 (u1 hr) (de_var 3) de_newD)))
    (ds3_cons (ds2_for (W := WF) hpo (by rfl) (di_seq (de_var 0)) (dg_tup (tp := true) (by rfl) (dgs_cons (dg_name 3 sc.nd) (dgs_cons (dg_name 4 sc.nd) dgs_nil))) (by decide) (goff_un (gsoff_cons (goff_nm (by decide)) (gsoff_cons (goff_nm (by decide)) gsoff_nil))) (ds2_one (ds2_if (dt2_in (W := WF) 2 (u1 hr) (de_var 3)) (ds2_cons (ds2_lift (W := WF) (ds_set 5 sc.nd (de_op op_addA p_add (de_cT (call_listA rfl) p_list (by rfl) T.f_list (by decide +kernel) (da_cons (de_var 4) da_nil)) (de_lst (da_cons (de_var 3) da_nil)))))
    (ds2_one (ds2_for (W := WF) hpo (by rfl) (di_seq (de_var 5)) (dg_name 6 sc.nd) (by decide) (goff_nm (by decide)) (ds2_one (ds2_for (W := WF) hpo (by rfl) (di_seq (de_var 5)) (dg_name 7 sc.nd) (by decide) (goff_nm (by decide)) (ds2_one (ds2_if (dt2_lift (W := WF) (dt_cmp (op_neA hr.units) p_ne (de_var 6) (de_var 7) (by rfl))) (ds2_one (ds2_put2 (W := WF) 2 (u1 hr) (de_var 6) (de_var 7) de_bl))
    ds2_nil)))))))
    ds2_nil)))
    (ds3_exit (ds_one (ds_ret (de_var 2)))))))
/-! reached_from -/
theorem sc_reached_from : FnScope ["tied", "ones", "third", "marked", "name", "waiting", "other"] ["tied", "ones", "third"] (defScope s_reached_from) := ⟨rfl, rfl, rfl, by decide +kernel, rfl, by decide +kernel, by decide +kernel⟩
noncomputable def l_reached_from_1 : SM :=
    (sPut 3 (eVar 4) (eC (.bl true)))
theorem u_reached_from_1 {ρ : DEnv} : l_reached_from_1 ρ = ((sPut 3 (eVar 4) (eC (.bl true)))) ρ := Eq.trans rfl rfl
noncomputable def l_reached_from_2 : SM :=
    (sIf (tAndD (tVal (eOp2 pNotIn (eVar 6) (eVar 3))) (tVal (eOp2 pNotIn (eVar 6) (eVar 2)))) (sSeq (sPut 3 (eVar 6) (eC (.bl true)))
    (sExpr (eMut 5 "list" mAppend (aCons (eVar 6) aNil))))
    sNil)
theorem u_reached_from_2 {ρ : DEnv} : l_reached_from_2 ρ = ((sIf (tAndD (tVal (eOp2 pNotIn (eVar 6) (eVar 3))) (tVal (eOp2 pNotIn (eVar 6) (eVar 2)))) (sSeq (sPut 3 (eVar 6) (eC (.bl true)))
    (sExpr (eMut 5 "list" mAppend (aCons (eVar 6) aNil))))
    sNil)) ρ := Eq.trans rfl rfl
noncomputable def l_reached_from_3 : SM :=
    (sSeq (sSet 4 (eMut 5 "list" mPop aNil))
    (sForIx 0 4 (gNm 6) l_reached_from_2))
theorem u_reached_from_3 {ρ : DEnv} : l_reached_from_3 ρ = ((sSeq (sSet 4 (eMut 5 "list" mPop aNil))
    (sForIx 0 4 (gNm 6) l_reached_from_2))) ρ := Eq.trans rfl rfl
noncomputable def b_reached_from : SM :=
    (sSeq (sSet 3 eNewD)
    (sSeq (sForN 1 (gNm 4) l_reached_from_1)
    (sSeq (sSet 5 (eOpN pList (aCons (eVar 1) aNil)))
    (sSeq (sWhl (tVal (eOp2 pGt (eOpN pLen (aCons (eVar 5) aNil)) (eC (.int 0)))) l_reached_from_3)
    (sRet (eVar 3))))))
noncomputable def m_reached_from : List D → FR := runF 7 b_reached_from
theorem ok_reached_from (T : Txt K mg) (S : Std K mg "reached_from" s_reached_from ["tied", "ones", "third"]) : CalD P w K mg base 1 "reached_from" 3 m_reached_from := cal_ok (k := 0) S sc_reached_from fun f cdv A outer s H E hr => by
    have sc := sc_reached_from
    have tk := takes_of (X := cxOf (L2.CX P w) P w K mg base ["tied", "ones", "third", "marked", "name", "waiting", "other"] "reached_from" (defScope s_reached_from) f cdv A outer s H E) rfl rfl rfl rfl
    have hpo := passes_of (X := cxOf (L2.CX P w) P w K mg base ["tied", "ones", "third", "marked", "name", "waiting", "other"] "reached_from" (defScope s_reached_from) f cdv A outer s H E) rfl
    exact (ds_cons (ds_set 3 sc.nd de_newD)
    (ds_cons (ds_forN 1 hpo (by rfl) (dg_name 4 sc.nd) (ds_one (ds_put 3 (u1 hr) (de_var 4) de_bl)))
    (ds_cons (ds_set 5 sc.nd (de_cT (call_listA rfl) p_list (by rfl) T.f_list (by decide +kernel) (da_cons (de_var 1) da_nil)))
    (ds_cons (ds_while hpo (dt_cmp op_gt p_gt (de_cB call_lenA p_len (by rfl) T.f_len (by decide +kernel) (da_cons (de_var 5) da_nil)) de_int (by rfl)) (ds_cons (ds_set 4 sc.nd (de_mut0 5 PySem.F.plainAttrs_list PySem.F.slot_list_pop PySem.F.type_list_pop mt_pop m_pop))
    (ds_one (ds_forIx 0 4 hpo (by rfl) (u1 hr) (dg_name 6 sc.nd) (ds_one (ds_if (dt_w (dw_and (dt_cmp (op_notInA (u65 hr)) p_notIn (de_var 6) (de_var 3) (by rfl)) (dw_and1 (dt_cmp (op_notInA (u65 hr)) p_notIn (de_var 6) (de_var 2) (by rfl))))) (ds_cons (ds_put 3 (u1 hr) (de_var 6) de_bl)
    (ds_one (ds_expr (de_mut 5 PySem.F.plainAttrs_list PySem.F.slot_list_append PySem.F.type_list_append mt_append m_append (da_cons (de_var 6) da_nil)))))
    ds_nil))))))
    (ds_one (ds_ret (de_var 3)))))))
/-! sides -/
theorem sc_sides : FnScope ["lines", "ones", "others", "third", "names", "marked", "name", "left", "right"] ["lines", "ones", "others", "third"] (defScope s_sides) := ⟨rfl, rfl, rfl, by decide +kernel, rfl, by decide +kernel, by decide +kernel⟩
noncomputable def l_sides_1 : SM :=
    (sIf (tVal (eOp2 pIn (eVar 6) (eVar 5))) (sRet (eC .non))
    sNil)
theorem u_sides_1 {ρ : DEnv} : l_sides_1 ρ = ((sIf (tVal (eOp2 pIn (eVar 6) (eVar 5))) (sRet (eC .non))
    sNil)) ρ := Eq.trans rfl rfl
noncomputable def b_sides : SM :=
    (sSeq (sExpr (eCall 4 m_look_at_lists (aCons (eVar 0) (aCons (eVar 1) (aCons (eVar 2) (aCons (eVar 3) aNil))))))
    (sSeq (sSet 4 (eCall 2 m_above (aCons (eVar 0) (aCons (eOp2 pAdd (eOp2 pAdd (eOpN pList (aCons (eVar 1) aNil)) (eOpN pList (aCons (eVar 2) aNil))) (eOpN pList (aCons (eVar 3) aNil))) aNil))))
    (sSeq (sSet 5 (eCall 3 m_reached_from (aCons (eCall 2 m_ties_among (aCons (eVar 0) (aCons (eVar 4) aNil))) (aCons (eVar 1) (aCons (eVar 3) aNil)))))
    (sSeq (sForN 2 (gNm 6) l_sides_1)
    (sSeq (sSet 7 (eLC [6] (iSeq (eVar 4)) (gNm 6) (tVal (eOp2 pIn (eVar 6) (eVar 5))) (eVar 6)))
    (sSeq (sSet 8 (eLC [6] (iSeq (eVar 4)) (gNm 6) (tAndD (tVal (eOp2 pNotIn (eVar 6) (eVar 5))) (tVal (eOp2 pNotIn (eVar 6) (eVar 3)))) (eVar 6)))
    (sRet (eTup (aCons (eVar 7) (aCons (eVar 8) aNil))))))))))
noncomputable def m_sides : List D → FR := runF 9 b_sides
theorem ok_sides (T : Txt K mg) (S : Std K mg "sides" s_sides ["lines", "ones", "others", "third"]) (C_look_at_lists : CalD P w K mg base 3 "look_at_lists" 4 m_look_at_lists) (C_above : CalD P w K mg base 3 "above" 2 m_above) (C_ties_among : CalD P w K mg base 1 "ties_among" 2 m_ties_among) (C_reached_from : CalD P w K mg base 1 "reached_from" 3 m_reached_from) : CalD P w K mg base 4 "sides" 4 m_sides := cal_ok (k := 3) S sc_sides fun f cdv A outer s H E hr => by
    have sc := sc_sides
    have tk := takes_of (X := cxOf (L2.CX P w) P w K mg base ["lines", "ones", "others", "third", "names", "marked", "name", "left", "right"] "sides" (defScope s_sides) f cdv A outer s H E) rfl rfl rfl rfl
    have hpo := passes_of (X := cxOf (L2.CX P w) P w K mg base ["lines", "ones", "others", "third", "names", "marked", "name", "left", "right"] "sides" (defScope s_sides) f cdv A outer s H E) rfl
    exact (ds_cons (ds_expr (de_cal C_look_at_lists hr tk (da_cons (de_var 0) (da_cons (de_var 1) (da_cons (de_var 2) (da_cons (de_var 3) da_nil))))))
    (ds_cons (ds_set 4 sc.nd (de_cal C_above hr tk (da_cons (de_var 0) (da_cons (de_op op_addA p_add (de_op op_addA p_add (de_cT (call_listA rfl) p_list (by rfl) T.f_list (by decide +kernel) (da_cons (de_var 1) da_nil)) (de_cT (call_listA rfl) p_list (by rfl) T.f_list (by decide +kernel) (da_cons (de_var 2) da_nil))) (de_cT (call_listA rfl) p_list (by rfl) T.f_list (by decide +kernel) (da_cons (de_var 3) da_nil))) da_nil))))
    (ds_cons (ds_set 5 sc.nd (de_cal C_reached_from hr tk (da_cons (de_cal C_ties_among hr tk (da_cons (de_var 0) (da_cons (de_var 4) da_nil))) (da_cons (de_var 1) (da_cons (de_var 3) da_nil)))))
    (ds_cons (ds_forN 2 hpo (by rfl) (dg_name 6 sc.nd) (ds_one (ds_if (dt_cmp (op_inA (u65 hr)) p_in (de_var 6) (de_var 5) (by rfl)) (ds_one (ds_ret de_non))
    ds_nil)))
    (ds_cons (ds_setLc 7 rfl sc.nd (by rfl) (di_seq (de_var 4)) (blkOk_by (own := [("name", 6)]) (by kernel_rfl)) (by decide) (fun _ _ _ _ _ => (dg_name 6 sc.nd)) (fun _ _ _ _ _ => (dts_one (dt_cmp (op_inA (u65 hr)) p_in (de_var 6) (de_var 5) (by rfl)))) (fun _ _ _ _ _ => (de_var 6)))
    (ds_cons (ds_setLc 8 rfl sc.nd (by rfl) (di_seq (de_var 4)) (blkOk_by (own := [("name", 6)]) (by kernel_rfl)) (by decide) (fun _ _ _ _ _ => (dg_name 6 sc.nd)) (fun _ _ _ _ _ => (dts_one (dt_w (dw_and (dt_cmp (op_notInA (u65 hr)) p_notIn (de_var 6) (de_var 5) (by rfl)) (dw_and1 (dt_cmp (op_notInA (u65 hr)) p_notIn (de_var 6) (de_var 3) (by rfl))))))) (fun _ _ _ _ _ => (de_var 6)))
    (ds_one (ds_ret (de_tup (da_cons (de_var 7) (da_cons (de_var 8) da_nil)))))))))))
noncomputable def bT_sides : MT :=
    (seqT (sExpr (eCall 4 m_look_at_lists (aCons (eVar 0) (aCons (eVar 1) (aCons (eVar 2) (aCons (eVar 3) aNil))))))
    (seqT (sSet 4 (eCall 2 m_above (aCons (eVar 0) (aCons (eOp2 pAdd (eOp2 pAdd (eOpN pList (aCons (eVar 1) aNil)) (eOpN pList (aCons (eVar 2) aNil))) (eOpN pList (aCons (eVar 3) aNil))) aNil))))
    (seqT (sSet 5 (eCall 3 m_reached_from (aCons (eCall 2 m_ties_among (aCons (eVar 0) (aCons (eVar 4) aNil))) (aCons (eVar 1) (aCons (eVar 3) aNil)))))
    (seqT (sForN 2 (gNm 6) l_sides_1)
    (seqT (sSet 7 (eLC [6] (iSeq (eVar 4)) (gNm 6) (tVal (eOp2 pIn (eVar 6) (eVar 5))) (eVar 6)))
    (seqT (sSet 8 (eLC [6] (iSeq (eVar 4)) (gNm 6) (tAndD (tVal (eOp2 pNotIn (eVar 6) (eVar 5))) (tVal (eOp2 pNotIn (eVar 6) (eVar 3)))) (eVar 6)))
    (retT (wCons (eVar 7) (wCons (eVar 8) wNil)))))))))
noncomputable def mT_sides : List D → FT := runT 9 bT_sides
theorem okT_sides (T : Txt K mg) (S : Std K mg "sides" s_sides ["lines", "ones", "others", "third"]) (C_look_at_lists : CalD P w K mg base 3 "look_at_lists" 4 m_look_at_lists) (C_above : CalD P w K mg base 3 "above" 2 m_above) (C_ties_among : CalD P w K mg base 1 "ties_among" 2 m_ties_among) (C_reached_from : CalD P w K mg base 1 "reached_from" 3 m_reached_from) : CalT P w K mg base 4 "sides" 4 mT_sides := calT_ok (k := 3) S sc_sides fun f cdv A outer s H E hr => by
    have sc := sc_sides
    have tk := takes_of (X := cxOf (L2.CX P w) P w K mg base ["lines", "ones", "others", "third", "names", "marked", "name", "left", "right"] "sides" (defScope s_sides) f cdv A outer s H E) rfl rfl rfl rfl
    have hpo := passes_of (X := cxOf (L2.CX P w) P w K mg base ["lines", "ones", "others", "third", "names", "marked", "name", "left", "right"] "sides" (defScope s_sides) f cdv A outer s H E) rfl
    exact (dsT_cons (ds_expr (de_cal C_look_at_lists hr tk (da_cons (de_var 0) (da_cons (de_var 1) (da_cons (de_var 2) (da_cons (de_var 3) da_nil))))))
    (dsT_cons (ds_set 4 sc.nd (de_cal C_above hr tk (da_cons (de_var 0) (da_cons (de_op op_addA p_add (de_op op_addA p_add (de_cT (call_listA rfl) p_list (by rfl) T.f_list (by decide +kernel) (da_cons (de_var 1) da_nil)) (de_cT (call_listA rfl) p_list (by rfl) T.f_list (by decide +kernel) (da_cons (de_var 2) da_nil))) (de_cT (call_listA rfl) p_list (by rfl) T.f_list (by decide +kernel) (da_cons (de_var 3) da_nil))) da_nil))))
    (dsT_cons (ds_set 5 sc.nd (de_cal C_reached_from hr tk (da_cons (de_cal C_ties_among hr tk (da_cons (de_var 0) (da_cons (de_var 4) da_nil))) (da_cons (de_var 1) (da_cons (de_var 3) da_nil)))))
    (dsT_cons (ds_forN 2 hpo (by rfl) (dg_name 6 sc.nd) (ds_one (ds_if (dt_cmp (op_inA (u65 hr)) p_in (de_var 6) (de_var 5) (by rfl)) (ds_one (ds_ret de_non))
    ds_nil)))
    (dsT_cons (ds_setLc 7 rfl sc.nd (by rfl) (di_seq (de_var 4)) (blkOk_by (own := [("name", 6)]) (by kernel_rfl)) (by decide) (fun _ _ _ _ _ => (dg_name 6 sc.nd)) (fun _ _ _ _ _ => (dts_one (dt_cmp (op_inA (u65 hr)) p_in (de_var 6) (de_var 5) (by rfl)))) (fun _ _ _ _ _ => (de_var 6)))
    (dsT_cons (ds_setLc 8 rfl sc.nd (by rfl) (di_seq (de_var 4)) (blkOk_by (own := [("name", 6)]) (by kernel_rfl)) (by decide) (fun _ _ _ _ _ => (dg_name 6 sc.nd)) (fun _ _ _ _ _ => (dts_one (dt_w (dw_and (dt_cmp (op_notInA (u65 hr)) p_notIn (de_var 6) (de_var 5) (by rfl)) (dw_and1 (dt_cmp (op_notInA (u65 hr)) p_notIn (de_var 6) (de_var 3) (by rfl))))))) (fun _ _ _ _ _ => (de_var 6)))
    (dsT_ret (daw_cons (W := WF) (de_var 7) (daw_cons (W := WF) (de_var 8) daw_nil)))))))))
/-! _law_cell -/
theorem sc__law_cell : FnScope ["_law_script", "_law_k", "_law_spare"] ["_law_script", "_law_k"] (defScope s__law_cell) := ⟨rfl, rfl, rfl, by decide +kernel, rfl, by decide +kernel, by decide +kernel⟩
noncomputable def b__law_cell : SM :=
    (sSeq (sIf (tVal (eOp2 pLt (eVar 1) (eOpN pLen (aCons (eVar 0) aNil)))) (sRet (eOp2 pIx (eVar 0) (eVar 1)))
    sNil)
    (sSeq (sSet 2 (eOp2 pAdd (eC (.int 40009)) (eOp2 pMul (eOp2 pMul (eC (.int 613)) (eVar 1)) (eVar 1))))
    (sSeq (sIf (tVal (eOp2 pGt (eOpN pLen (aCons (eVar 0) aNil)) (eC (.int 0)))) (sSet 2 (eOp2 pAdd (eVar 2) (eOp2 pMul (eOp2 pMod (eOp2 pIx (eVar 0) (eC (.int 0))) (eC (.int 99991))) (eOp2 pAdd (eVar 1) (eC (.int 3))))))
    sNil)
    (sRet (eVar 2)))))
noncomputable def m__law_cell : List D → FR := runF 3 b__law_cell
theorem ok__law_cell (T : Txt K mg) (S : Std K mg "_law_cell" s__law_cell ["_law_script", "_law_k"]) : CalD P w K mg base 1 "_law_cell" 2 m__law_cell := cal_ok (k := 0) S sc__law_cell fun f cdv A outer s H E hr => by
    have sc := sc__law_cell
    have tk := takes_of (X := cxOf (L2.CX P w) P w K mg base ["_law_script", "_law_k", "_law_spare"] "_law_cell" (defScope s__law_cell) f cdv A outer s H E) rfl rfl rfl rfl
    have hpo := passes_of (X := cxOf (L2.CX P w) P w K mg base ["_law_script", "_law_k", "_law_spare"] "_law_cell" (defScope s__law_cell) f cdv A outer s H E) rfl
    exact (ds_cons (ds_if (dt_cmp op_lt p_lt (de_var 1) (de_cB call_lenA p_len (by rfl) T.f_len (by decide +kernel) (da_cons (de_var 0) da_nil)) (by rfl)) (ds_one (ds_ret (de_ix (ix_A (u1 hr)) p_ix (de_var 0) (de_var 1))))
    ds_nil)
    (ds_cons (ds_set 2 sc.nd (de_op op_addA p_add de_int (de_op op_mulA p_mul (de_op op_mulA p_mul de_int (de_var 1)) (de_var 1))))
    (ds_cons (ds_if (dt_cmp op_gt p_gt (de_cB call_lenA p_len (by rfl) T.f_len (by decide +kernel) (da_cons (de_var 0) da_nil)) de_int (by rfl)) (ds_one (ds_set 2 sc.nd (de_op op_addA p_add (de_var 2) (de_op op_mulA p_mul (de_op op_mod p_mod (de_ix (ix_A (u1 hr)) p_ix (de_var 0) de_int) de_int) (de_op op_addA p_add (de_var 1) de_int)))))
    ds_nil)
    (ds_one (ds_ret (de_var 2))))))
/-! _law_words -/
theorem sc__law_words : FnScope ["_law_cell_here", "_law_many", "_law_letters", "_law_size", "_law_stem", "_law_at", "_law_k"] ["_law_cell_here", "_law_many"] (defScope s__law_words) := ⟨rfl, rfl, rfl, by decide +kernel, rfl, by decide +kernel, by decide +kernel⟩
noncomputable def b__law_words : SM :=
    (sSeq (sSet 2 (eC (.str "abcdefghijklmnopqrstuvwxyz")))
    (sSeq (sIf (tVal (eOp2 pEq (eOp2 pMod (eVar 0) (eC (.int 3))) (eC (.int 0)))) (sRet (eLC [6] (iRange1 (aCons (eVar 1) aNil)) (gNm 6) tYesD (eOp2 pMul (eOp2 pIx (eVar 2) (eOp2 pMod (eOp2 pFdiv (eVar 0) (eC (.int 3))) (eC (.int 26)))) (eOp2 pAdd (eVar 6) (eC (.int 1))))))
    sNil)
    (sSeq (sSet 3 (eOp2 pMod (eOp2 pFdiv (eVar 0) (eC (.int 3))) (eC (.int 8))))
    (sSeq (sSet 4 (eMeth "str" pJoin (eC (.str "")) (aCons (eLC [6] (iRange1 (aCons (eVar 3) aNil)) (gNm 6) tYesD (eOp2 pIx (eVar 2) (eOp2 pMod (eOp2 pAdd (eOp2 pFdiv (eVar 0) (eC (.int 24))) (eOp2 pMul (eOp2 pAdd (eVar 6) (eC (.int 1))) (eOp2 pAdd (eVar 6) (eC (.int 5))))) (eC (.int 26))))) aNil)))
    (sSeq (sSet 5 (eOp2 pMod (eOp2 pFdiv (eVar 0) (eC (.int 48))) (eOp2 pAdd (eVar 3) (eC (.int 1)))))
    (sRet (eLC [6] (iRange1 (aCons (eVar 1) aNil)) (gNm 6) tYesD (eOp2 pAdd (eOp2 pAdd (eSl pSl (eVar 4) oNone (oSome (eVar 5))) (eOp2 pIx (eVar 2) (eOp2 pMod (eOp2 pAdd (eOp2 pFdiv (eVar 0) (eC (.int 624))) (eOp2 pMul (eC (.int 3)) (eVar 6))) (eC (.int 26))))) (eSl pSl (eVar 4) (oSome (eVar 5)) oNone)))))))))
noncomputable def m__law_words : List D → FR := runF 7 b__law_words
theorem ok__law_words (T : Txt K mg) (S : Std K mg "_law_words" s__law_words ["_law_cell_here", "_law_many"]) : CalD P w K mg base 1 "_law_words" 2 m__law_words := cal_ok (k := 0) S sc__law_words fun f cdv A outer s H E hr => by
    have sc := sc__law_words
    have tk := takes_of (X := cxOf (L2.CX P w) P w K mg base ["_law_cell_here", "_law_many", "_law_letters", "_law_size", "_law_stem", "_law_at", "_law_k"] "_law_words" (defScope s__law_words) f cdv A outer s H E) rfl rfl rfl rfl
    have hpo := passes_of (X := cxOf (L2.CX P w) P w K mg base ["_law_cell_here", "_law_many", "_law_letters", "_law_size", "_law_stem", "_law_at", "_law_k"] "_law_words" (defScope s__law_words) f cdv A outer s H E) rfl
    exact (ds_cons (ds_set 2 sc.nd de_str)
    (ds_cons (ds_if (dt_cmp (op_eqA hr.units) p_eq (de_op op_mod p_mod (de_var 0) de_int) de_int (by rfl)) (ds_one (ds_ret (de_lc rfl sc.nd (di_range1 (by rfl) T.f_range (da_cons (de_var 1) da_nil)) (blkOk_by (own := [("_law_k", 6)]) (by kernel_rfl)) (by decide) (fun _ _ _ _ _ => (dg_name 6 sc.nd)) (fun _ _ _ _ _ => dts_nil) (fun _ _ _ _ _ => (de_op op_mulA p_mul (de_ix (ix_A (u1 hr)) p_ix (de_var 2) (de_op op_mod p_mod (de_op op_fdivW p_fdiv (de_var 0) de_int) de_int)) (de_op op_addA p_add (de_var 6) de_int))))))
    ds_nil)
    (ds_cons (ds_set 3 sc.nd (de_op op_mod p_mod (de_op op_fdivW p_fdiv (de_var 0) de_int) de_int))
    (ds_cons (ds_set 4 sc.nd (de_meth PySem.F.plainAttrs_str PySem.F.slot_str_join PySem.F.type_str_join mt_join p_join de_str (da_cons (de_lc rfl sc.nd (di_range1 (by rfl) T.f_range (da_cons (de_var 3) da_nil)) (blkOk_by (own := [("_law_k", 6)]) (by kernel_rfl)) (by decide) (fun _ _ _ _ _ => (dg_name 6 sc.nd)) (fun _ _ _ _ _ => dts_nil) (fun _ _ _ _ _ => (de_ix (ix_A (u1 hr)) p_ix (de_var 2) (de_op op_mod p_mod (de_op op_addA p_add (de_op op_fdivW p_fdiv (de_var 0) de_int) (de_op op_mulA p_mul (de_op op_addA p_add (de_var 6) de_int) (de_op op_addA p_add (de_var 6) de_int))) de_int)))) da_nil)))
    (ds_cons (ds_set 5 sc.nd (de_op op_mod p_mod (de_op op_fdivW p_fdiv (de_var 0) de_int) (de_op op_addA p_add (de_var 3) de_int)))
    (ds_one (ds_ret (de_lc rfl sc.nd (di_range1 (by rfl) T.f_range (da_cons (de_var 1) da_nil)) (blkOk_by (own := [("_law_k", 6)]) (by kernel_rfl)) (by decide) (fun _ _ _ _ _ => (dg_name 6 sc.nd)) (fun _ _ _ _ _ => dts_nil) (fun _ _ _ _ _ => (de_op op_addA p_add (de_op op_addA p_add (de_slice sl_A p_sl (de_var 4) do_none (do_some (de_var 5))) (de_ix (ix_A (u1 hr)) p_ix (de_var 2) (de_op op_mod p_mod (de_op op_addA p_add (de_op op_fdivW p_fdiv (de_var 0) de_int) (de_op op_mulA p_mul de_int (de_var 6))) de_int))) (de_slice sl_A p_sl (de_var 4) (do_some (de_var 5)) do_none)))))))))))
/-! _law_lines -/
theorem sc__law_lines : FnScope ["_law_script", "_law_most", "_law_count", "_law_cell_here", "_law_names", "_law_lines_here", "_law_k", "_law_elders_here", "_law_j", "_law_at", "_law_name", "_law_one", "_law_elder"] ["_law_script", "_law_most"] (defScope s__law_lines) := ⟨rfl, rfl, rfl, by decide +kernel, rfl, by decide +kernel, by decide +kernel⟩
noncomputable def l__law_lines_1 : SM :=
    (sSeq (sSet 9 (eOp2 pMod (eOp2 pMod (eOp2 pMul (eOp2 pFdiv (eVar 3) (eC (.int 8))) (eOp2 pAdd (eC (.int 48271)) (eOp2 pMul (eC (.int 2)) (eVar 8)))) (eC (.int 2147483647))) (eOpN pMax2 (aCons (eC (.int 1)) (aCons (eVar 6) aNil)))))
    (sIf (tAndD (tVal (eOp2 pGt (eVar 6) (eC (.int 0)))) (tVal (eOp2 pNotIn (eOp2 pIx (eVar 4) (eVar 9)) (eVar 7)))) (sExpr (eMut 7 "list" mAppend (aCons (eOp2 pIx (eVar 4) (eVar 9)) aNil)))
    sNil))
theorem u__law_lines_1 {ρ : DEnv} : l__law_lines_1 ρ = ((sSeq (sSet 9 (eOp2 pMod (eOp2 pMod (eOp2 pMul (eOp2 pFdiv (eVar 3) (eC (.int 8))) (eOp2 pAdd (eC (.int 48271)) (eOp2 pMul (eC (.int 2)) (eVar 8)))) (eC (.int 2147483647))) (eOpN pMax2 (aCons (eC (.int 1)) (aCons (eVar 6) aNil)))))
    (sIf (tAndD (tVal (eOp2 pGt (eVar 6) (eC (.int 0)))) (tVal (eOp2 pNotIn (eOp2 pIx (eVar 4) (eVar 9)) (eVar 7)))) (sExpr (eMut 7 "list" mAppend (aCons (eOp2 pIx (eVar 4) (eVar 9)) aNil)))
    sNil))) ρ := Eq.trans rfl rfl
noncomputable def l__law_lines_2 : SM :=
    (sSeq (sSet 3 (eCall 2 m__law_cell (aCons (eVar 0) (aCons (eOp2 pAdd (eC (.int 2)) (eVar 6)) aNil))))
    (sSeq (sSet 7 (eLst aNil))
    (sSeq (sFor (iRange1 (aCons (eOp2 pIx (eLst (aCons (eC (.int 0)) (aCons (eC (.int 1)) (aCons (eC (.int 1)) (aCons (eC (.int 2)) (aCons (eC (.int 2)) (aCons (eC (.int 3)) (aCons (eC (.int 1)) (aCons (eC (.int 2)) aNil))))))))) (eOp2 pMod (eVar 3) (eC (.int 8)))) aNil)) (gNm 8) l__law_lines_1)
    (sExpr (eMut 5 "list" mAppend (aCons (eTup (aCons (eOp2 pIx (eVar 4) (eVar 6)) (aCons (eOpN pTuple (aCons (eVar 7) aNil)) aNil))) aNil))))))
theorem u__law_lines_2 {ρ : DEnv} : l__law_lines_2 ρ = ((sSeq (sSet 3 (eCall 2 m__law_cell (aCons (eVar 0) (aCons (eOp2 pAdd (eC (.int 2)) (eVar 6)) aNil))))
    (sSeq (sSet 7 (eLst aNil))
    (sSeq (sFor (iRange1 (aCons (eOp2 pIx (eLst (aCons (eC (.int 0)) (aCons (eC (.int 1)) (aCons (eC (.int 1)) (aCons (eC (.int 2)) (aCons (eC (.int 2)) (aCons (eC (.int 3)) (aCons (eC (.int 1)) (aCons (eC (.int 2)) aNil))))))))) (eOp2 pMod (eVar 3) (eC (.int 8)))) aNil)) (gNm 8) l__law_lines_1)
    (sExpr (eMut 5 "list" mAppend (aCons (eTup (aCons (eOp2 pIx (eVar 4) (eVar 6)) (aCons (eOpN pTuple (aCons (eVar 7) aNil)) aNil))) aNil))))))) ρ := Eq.trans rfl rfl
noncomputable def b__law_lines : SM :=
    (sSeq (sSet 2 (eOp2 pAdd (eC (.int 1)) (eOp2 pMod (eCall 2 m__law_cell (aCons (eVar 0) (aCons (eC (.int 0)) aNil))) (eVar 1))))
    (sSeq (sSet 3 (eCall 2 m__law_cell (aCons (eVar 0) (aCons (eC (.int 1)) aNil))))
    (sSeq (sSet 4 (eCall 2 m__law_words (aCons (eOp2 pIx (eLst (aCons (eVar 3) (aCons (eOp2 pAdd (eOp2 pMul (eC (.int 3)) (eVar 3)) (eC (.int 1))) aNil))) (eOpN pInt (aCons (eOp2 pGt (eVar 2) (eC (.int 8))) aNil))) (aCons (eVar 2) aNil))))
    (sSeq (sSet 5 (eLst aNil))
    (sSeq (sFor (iRange1 (aCons (eVar 2) aNil)) (gNm 6) l__law_lines_2)
    (sSeq (sSet 3 (eCall 2 m__law_cell (aCons (eVar 0) (aCons (eC (.int 12)) aNil))))
    (sSeq (sIf (tVal (eOp2 pEq (eOp2 pMod (eVar 3) (eC (.int 3))) (eC (.int 0)))) (sSeq (sSet 10 (eOp2 pIx (eVar 4) (eOp2 pMod (eOp2 pFdiv (eVar 3) (eC (.int 3))) (eVar 2))))
    (sSet 5 (eLC [11, 7] (iSeq (eVar 5)) (gUn 2 (gsCons (gNm 11) (gsCons (gNm 7) gsNil))) tYesD (eTup (aCons (eVar 11) (aCons (eOpN pTuple (aCons (eLC [12] (iSeq (eVar 7)) (gNm 12) (tVal (eOp2 pNe (eVar 12) (eVar 10))) (eVar 12)) aNil)) aNil))))))
    sNil)
    (sRet (eOpN pTuple (aCons (eVar 5) aNil))))))))))
noncomputable def m__law_lines : List D → FR := runF 13 b__law_lines
theorem ok__law_lines (T : Txt K mg) (S : Std K mg "_law_lines" s__law_lines ["_law_script", "_law_most"]) (C__law_cell : CalD P w K mg base 1 "_law_cell" 2 m__law_cell) (C__law_words : CalD P w K mg base 1 "_law_words" 2 m__law_words) : CalD P w K mg base 2 "_law_lines" 2 m__law_lines := cal_ok (k := 1) S sc__law_lines fun f cdv A outer s H E hr => by
    have sc := sc__law_lines
    have tk := takes_of (X := cxOf (L2.CX P w) P w K mg base ["_law_script", "_law_most", "_law_count", "_law_cell_here", "_law_names", "_law_lines_here", "_law_k", "_law_elders_here", "_law_j", "_law_at", "_law_name", "_law_one", "_law_elder"] "_law_lines" (defScope s__law_lines) f cdv A outer s H E) rfl rfl rfl rfl
    have hpo := passes_of (X := cxOf (L2.CX P w) P w K mg base ["_law_script", "_law_most", "_law_count", "_law_cell_here", "_law_names", "_law_lines_here", "_law_k", "_law_elders_here", "_law_j", "_law_at", "_law_name", "_law_one", "_law_elder"] "_law_lines" (defScope s__law_lines) f cdv A outer s H E) rfl
    exact (ds_cons (ds_set 2 sc.nd (de_op op_addA p_add de_int (de_op op_mod p_mod (de_cal C__law_cell hr tk (da_cons (de_var 0) (da_cons de_int da_nil))) (de_var 1))))
    (ds_cons (ds_set 3 sc.nd (de_cal C__law_cell hr tk (da_cons (de_var 0) (da_cons de_int da_nil))))
    (ds_cons (ds_set 4 sc.nd (de_cal C__law_words hr tk (da_cons (de_ix (ix_A (u1 hr)) p_ix (de_lst (da_cons (de_var 3) (da_cons (de_op op_addA p_add (de_op op_mulA p_mul de_int (de_var 3)) de_int) da_nil))) (de_cT call_int1 p_int (by rfl) T.f_int (by decide +kernel) (da_cons (de_cmp op_gt p_gt (de_var 2) de_int (by rfl)) da_nil))) (da_cons (de_var 2) da_nil))))
    (ds_cons (ds_set 5 sc.nd (de_lst da_nil))
    (ds_cons (ds_for hpo (by rfl) (di_range1 (by rfl) T.f_range (da_cons (de_var 2) da_nil)) (dg_name 6 sc.nd) (ds_cons (ds_set 3 sc.nd (de_cal C__law_cell hr tk (da_cons (de_var 0) (da_cons (de_op op_addA p_add de_int (de_var 6)) da_nil))))
    (ds_cons (ds_set 7 sc.nd (de_lst da_nil))
    (ds_cons (ds_for hpo (by rfl) (di_range1 (by rfl) T.f_range (da_cons (de_ix (ix_A (u1 hr)) p_ix (de_lst (da_cons de_int (da_cons de_int (da_cons de_int (da_cons de_int (da_cons de_int (da_cons de_int (da_cons de_int (da_cons de_int da_nil))))))))) (de_op op_mod p_mod (de_var 3) de_int)) da_nil)) (dg_name 8 sc.nd) (ds_cons (ds_set 9 sc.nd (de_op op_mod p_mod (de_op op_mod p_mod (de_op op_mulA p_mul (de_op op_fdivW p_fdiv (de_var 3) de_int) (de_op op_addA p_add de_int (de_op op_mulA p_mul de_int (de_var 8)))) de_int) (de_cB (call_max2 rfl) p_max2 (by rfl) T.f_max (by decide +kernel) (da_cons de_int (da_cons (de_var 6) da_nil)))))
    (ds_one (ds_if (dt_w (dw_and (dt_cmp op_gt p_gt (de_var 6) de_int (by rfl)) (dw_and1 (dt_cmp (op_notInA (u65 hr)) p_notIn (de_ix (ix_A (u1 hr)) p_ix (de_var 4) (de_var 9)) (de_var 7) (by rfl))))) (ds_one (ds_expr (de_mut 7 PySem.F.plainAttrs_list PySem.F.slot_list_append PySem.F.type_list_append mt_append m_append (da_cons (de_ix (ix_A (u1 hr)) p_ix (de_var 4) (de_var 9)) da_nil))))
    ds_nil))))
    (ds_one (ds_expr (de_mut 5 PySem.F.plainAttrs_list PySem.F.slot_list_append PySem.F.type_list_append mt_append m_append (da_cons (de_tup (da_cons (de_ix (ix_A (u1 hr)) p_ix (de_var 4) (de_var 6)) (da_cons (de_cT call_tupP p_tuple (by rfl) T.f_tuple (by decide +kernel) (da_cons (de_var 7) da_nil)) da_nil))) da_nil))))))))
    (ds_cons (ds_set 3 sc.nd (de_cal C__law_cell hr tk (da_cons (de_var 0) (da_cons de_int da_nil))))
    (ds_cons (ds_if (dt_cmp (op_eqA hr.units) p_eq (de_op op_mod p_mod (de_var 3) de_int) de_int (by rfl)) (ds_cons (ds_set 10 sc.nd (de_ix (ix_A (u1 hr)) p_ix (de_var 4) (de_op op_mod p_mod (de_op op_fdivW p_fdiv (de_var 3) de_int) (de_var 2))))
    (ds_one (ds_setLc 5 rfl sc.nd (by rfl) (di_seq (de_var 5)) (blkOk_by (own := [("_law_one", 11), ("_law_elders_here", 7)]) (by kernel_rfl)) (by decide) (fun _ _ _ _ _ => (dg_tup (tp := true) (by rfl) (dgs_cons (dg_name 11 sc.nd) (dgs_cons (dg_name 7 sc.nd) dgs_nil)))) (fun _ _ _ _ _ => dts_nil) (fun _ _ _ _ _ => (de_tup (da_cons (de_var 11) (da_cons (de_cT call_tupP p_tuple (by rfl) T.f_tuple (by decide +kernel) (da_cons (de_lc rfl sc.nd (di_seq (de_var 7)) (blkOk_by (own := [("_law_elder", 12)]) (by kernel_rfl)) (by decide) (fun _ _ _ _ _ => (dg_name 12 sc.nd)) (fun _ _ _ _ _ => (dts_one (dt_cmp (op_neA hr.units) p_ne (de_var 12) (de_var 10) (by rfl)))) (fun _ _ _ _ _ => (de_var 12))) da_nil)) da_nil)))))))
    ds_nil)
    (ds_one (ds_ret (de_cT call_tupP p_tuple (by rfl) T.f_tuple (by decide +kernel) (da_cons (de_var 5) da_nil)))))))))))
/-! _law_questions -/
theorem sc__law_questions : FnScope ["_law_script", "_law_many", "_law_found", "_law_k", "_law_cell_here", "_law_at"] ["_law_script", "_law_many"] (defScope s__law_questions) := ⟨rfl, rfl, rfl, by decide +kernel, rfl, by decide +kernel, by decide +kernel⟩
noncomputable def l__law_questions_1 : SM :=
    (sIf (tVal (eOp2 pLt (eVar 3) (eOp2 pSub (eVar 1) (eC (.int 1))))) (sExpr (eMut 2 "list" mAppend (aCons (eOp2 pMod (eVar 4) (eC (.int 2147483647))) aNil)))
    (sSeq (sSet 5 (eOp2 pMod (eVar 3) (eVar 1)))
    (sPut 2 (eVar 5) (eOp2 pMod (eOp2 pAdd (eOp2 pMul (eOp2 pIx (eVar 2) (eVar 5)) (eC (.int 48271))) (eVar 4)) (eC (.int 2147483647))))))
theorem u__law_questions_1 {ρ : DEnv} : l__law_questions_1 ρ = ((sIf (tVal (eOp2 pLt (eVar 3) (eOp2 pSub (eVar 1) (eC (.int 1))))) (sExpr (eMut 2 "list" mAppend (aCons (eOp2 pMod (eVar 4) (eC (.int 2147483647))) aNil)))
    (sSeq (sSet 5 (eOp2 pMod (eVar 3) (eVar 1)))
    (sPut 2 (eVar 5) (eOp2 pMod (eOp2 pAdd (eOp2 pMul (eOp2 pIx (eVar 2) (eVar 5)) (eC (.int 48271))) (eVar 4)) (eC (.int 2147483647))))))) ρ := Eq.trans rfl rfl
noncomputable def b__law_questions : SM :=
    (sSeq (sSet 2 (eLst (aCons (eOp2 pMod (eCall 2 m__law_cell (aCons (eVar 0) (aCons (eC (.int 39)) aNil))) (eC (.int 2147483647))) aNil)))
    (sSeq (sFor (iEnumD (aCons (eSl pSl (eVar 0) (oSome (eC (.int 40))) (oSome (eC (.int 63)))) aNil)) (gUn 2 (gsCons (gNm 3) (gsCons (gNm 4) gsNil))) l__law_questions_1)
    (sRet (eVar 2))))
noncomputable def m__law_questions : List D → FR := runF 6 b__law_questions
theorem ok__law_questions (T : Txt K mg) (S : Std K mg "_law_questions" s__law_questions ["_law_script", "_law_many"]) (C__law_cell : CalD P w K mg base 1 "_law_cell" 2 m__law_cell) : CalD P w K mg base 2 "_law_questions" 2 m__law_questions := cal_ok (k := 1) S sc__law_questions fun f cdv A outer s H E hr => by
    have sc := sc__law_questions
    have tk := takes_of (X := cxOf (L2.CX P w) P w K mg base ["_law_script", "_law_many", "_law_found", "_law_k", "_law_cell_here", "_law_at"] "_law_questions" (defScope s__law_questions) f cdv A outer s H E) rfl rfl rfl rfl
    have hpo := passes_of (X := cxOf (L2.CX P w) P w K mg base ["_law_script", "_law_many", "_law_found", "_law_k", "_law_cell_here", "_law_at"] "_law_questions" (defScope s__law_questions) f cdv A outer s H E) rfl
    exact (ds_cons (ds_set 2 sc.nd (de_lst (da_cons (de_op op_mod p_mod (de_cal C__law_cell hr tk (da_cons (de_var 0) (da_cons de_int da_nil))) de_int) da_nil)))
    (ds_cons (ds_for hpo (by rfl) (di_enum (by rfl) T.f_enumerate (da_cons (de_slice sl_A p_sl (de_var 0) (do_some de_int) (do_some de_int)) da_nil)) (dg_tup (tp := true) (by rfl) (dgs_cons (dg_name 3 sc.nd) (dgs_cons (dg_name 4 sc.nd) dgs_nil))) (ds_one (ds_if (dt_cmp op_lt p_lt (de_var 3) (de_op op_sub p_sub (de_var 1) de_int) (by rfl)) (ds_one (ds_expr (de_mut 2 PySem.F.plainAttrs_list PySem.F.slot_list_append PySem.F.type_list_append mt_append m_append (da_cons (de_op op_mod p_mod (de_var 4) de_int) da_nil))))
    (ds_cons (ds_set 5 sc.nd (de_op op_mod p_mod (de_var 3) (de_var 1)))
    (ds_one (ds_put 2 (u1 hr) (de_var 5) (de_op op_mod p_mod (de_op op_addA p_add (de_op op_mulA p_mul (de_ix (ix_A (u1 hr)) p_ix (de_var 2) (de_var 5)) de_int) (de_var 4)) de_int)))))))
    (ds_one (ds_ret (de_var 2)))))
/-! _law_lists -/
theorem sc__law_lists : FnScope ["_law_cell_here", "_law_names", "_law_lists_here", "_law_roles", "_law_k", "_law_mixed", "_law_some", "_law_name"] ["_law_cell_here", "_law_names"] (defScope s__law_lists) := ⟨rfl, rfl, rfl, by decide +kernel, rfl, by decide +kernel, by decide +kernel⟩
noncomputable def l__law_lists_1 : SM2 :=
    (seq2 (lift2 2 (sSet 5 (eOp2 pMod (eOp2 pMul (eVar 0) (eOp2 pAdd (eC (.int 48271)) (eOp2 pMul (eOp2 pMul (eC (.int 613)) (eVar 4)) (eVar 4)))) (eC (.int 2147483647)))))
    (mut2 2 "list" mAppend (eOp2 pIx (eVar 3) (eOp2 pMod (eVar 5) (eOp2 pAdd (eC (.int 4)) (eOp2 pMul (eC (.int 3)) (eOp2 pMod (eOp2 pFdiv (eVar 0) (eC (.int 5))) (eC (.int 3))))))) (eOp2 pIx (eVar 1) (eVar 4))))
theorem u__law_lists_1 {d : D} {ρ : DEnv} : l__law_lists_1 d ρ = ((seq2 (lift2 2 (sSet 5 (eOp2 pMod (eOp2 pMul (eVar 0) (eOp2 pAdd (eC (.int 48271)) (eOp2 pMul (eOp2 pMul (eC (.int 613)) (eVar 4)) (eVar 4)))) (eC (.int 2147483647)))))
    (mut2 2 "list" mAppend (eOp2 pIx (eVar 3) (eOp2 pMod (eVar 5) (eOp2 pAdd (eC (.int 4)) (eOp2 pMul (eC (.int 3)) (eOp2 pMod (eOp2 pFdiv (eVar 0) (eC (.int 5))) (eC (.int 3))))))) (eOp2 pIx (eVar 1) (eVar 4))))) d ρ := Eq.trans rfl rfl
noncomputable def b__law_lists : SM :=
    (enterL 2 4
    (seq3 (lift2 2 (sSet 3 (eLst (aCons (eC (.int 0)) (aCons (eC (.int 1)) (aCons (eC (.int 2)) (aCons (eC (.int 2)) (aCons (eC (.int 3)) (aCons (eC (.int 3)) (aCons (eC (.int 2)) (aCons (eC (.int 3)) (aCons (eC (.int 0)) (aCons (eC (.int 1)) aNil)))))))))))))
    (seq3 (for2 2 (iRange1 (aCons (eOpN pLen (aCons (eVar 1) aNil)) aNil)) (gNm 4) l__law_lists_1)
    (exit3 2 (sSeq (sIf (tVal (eOp2 pGt (eOp2 pMod (eVar 0) (eC (.int 4))) (eC (.int 0)))) (sSet 2 (eLst (aCons (eSl pSl (eOp2 pIx (eVar 2) (eC (.int 0))) (oSome (eOp1 pNeg (eC (.int 1)))) oNone) (aCons (eSl pSl (eOp2 pIx (eVar 2) (eC (.int 1))) (oSome (eOp1 pNeg (eC (.int 1)))) oNone) (aCons (eOp2 pIx (eVar 2) (eC (.int 2))) (aCons (eOp2 pIx (eVar 2) (eC (.int 3))) aNil))))))
    sNil)
    (sSeq (sIf (tVal (eOp2 pEq (eOp2 pMod (eOp2 pFdiv (eVar 0) (eC (.int 4))) (eC (.int 2))) (eC (.int 1)))) (sSet 2 (eLC [6] (iSeq (eVar 2)) (gNm 6) tYesD (eLC [7] (iRevD (eVar 6)) (gNm 7) tYesD (eVar 7))))
    sNil)
    (sRet (eSl pSl (eVar 2) oNone (oSome (eC (.int 3)))))))))))
noncomputable def m__law_lists : List D → FR := runF 8 b__law_lists
theorem ok__law_lists (T : Txt K mg) (S : Std K mg "_law_lists" s__law_lists ["_law_cell_here", "_law_names"]) : CalD P w K mg base 1 "_law_lists" 2 m__law_lists := cal_ok (k := 0) S sc__law_lists fun f cdv A outer s H E hr => by
    have sc := sc__law_lists
    have tk := takes_of (X := cxOf (L2.CX P w) P w K mg base ["_law_cell_here", "_law_names", "_law_lists_here", "_law_roles", "_law_k", "_law_mixed", "_law_some", "_law_name"] "_law_lists" (defScope s__law_lists) f cdv A outer s H E) rfl rfl rfl rfl
    have hpo := passes_of (X := cxOf (L2.CX P w) P w K mg base ["_law_cell_here", "_law_names", "_law_lists_here", "_law_roles", "_law_k", "_law_mixed", "_law_some", "_law_name"] "_law_lists" (defScope s__law_lists) f cdv A outer s H E) rfl
    exact (ds3_enterL 2 4 sc.nd (cl_cons (cl_cons (cl_cons (cl_cons cl_nil))))
    (ds3_cons (ds2_lift (W := WF) (ds_set 3 sc.nd (de_lst (da_cons de_int (da_cons de_int (da_cons de_int (da_cons de_int (da_cons de_int (da_cons de_int (da_cons de_int (da_cons de_int (da_cons de_int (da_cons de_int da_nil)))))))))))))
    (ds3_cons (ds2_for (W := WF) hpo (by rfl) (di_range1 (by rfl) T.f_range (da_cons (de_cB call_lenA p_len (by rfl) T.f_len (by decide +kernel) (da_cons (de_var 1) da_nil)) da_nil)) (dg_name 4 sc.nd) (by decide) (goff_nm (by decide)) (ds2_cons (ds2_lift (W := WF) (ds_set 5 sc.nd (de_op op_mod p_mod (de_op op_mulA p_mul (de_var 0) (de_op op_addA p_add de_int (de_op op_mulA p_mul (de_op op_mulA p_mul de_int (de_var 4)) (de_var 4)))) de_int)))
    (ds2_one (ds2_mut2 (W := WF) 2 (u1 hr) PySem.F.plainAttrs_list PySem.F.slot_list_append PySem.F.type_list_append mt_append m_append (de_ix (ix_A (u1 hr)) p_ix (de_var 3) (de_op op_mod p_mod (de_var 5) (de_op op_addA p_add de_int (de_op op_mulA p_mul de_int (de_op op_mod p_mod (de_op op_fdivW p_fdiv (de_var 0) de_int) de_int))))) (de_ix (ix_A (u1 hr)) p_ix (de_var 1) (de_var 4))))))
    (ds3_exit (ds_cons (ds_if (dt_cmp op_gt p_gt (de_op op_mod p_mod (de_var 0) de_int) de_int (by rfl)) (ds_one (ds_set 2 sc.nd (de_lst (da_cons (de_slice sl_A p_sl (de_ix (ix_A (u1 hr)) p_ix (de_var 2) de_int) (do_some (de_un un_neg p_neg de_int)) do_none) (da_cons (de_slice sl_A p_sl (de_ix (ix_A (u1 hr)) p_ix (de_var 2) de_int) (do_some (de_un un_neg p_neg de_int)) do_none) (da_cons (de_ix (ix_A (u1 hr)) p_ix (de_var 2) de_int) (da_cons (de_ix (ix_A (u1 hr)) p_ix (de_var 2) de_int) da_nil)))))))
    ds_nil)
    (ds_cons (ds_if (dt_cmp (op_eqA hr.units) p_eq (de_op op_mod p_mod (de_op op_fdivW p_fdiv (de_var 0) de_int) de_int) de_int (by rfl)) (ds_one (ds_setLc 2 rfl sc.nd (by rfl) (di_seq (de_var 2)) (blkOk_by (own := [("_law_some", 6)]) (by kernel_rfl)) (by decide) (fun _ _ _ _ _ => (dg_name 6 sc.nd)) (fun _ _ _ _ _ => dts_nil) (fun _ _ _ _ _ => (de_lc rfl sc.nd (di_rev (by rfl) T.f_reversed (de_var 6)) (blkOk_by (own := [("_law_name", 7)]) (by kernel_rfl)) (by decide) (fun _ _ _ _ _ => (dg_name 7 sc.nd)) (fun _ _ _ _ _ => dts_nil) (fun _ _ _ _ _ => (de_var 7))))))
    ds_nil)
    (ds_one (ds_ret (de_slice sl_A p_sl (de_var 2) do_none (do_some de_int))))))))) (by decide))
/-! _law_elders -/
theorem sc__law_elders : FnScope ["_law_lines_here", "_law_found", "_law_name", "_law_elders_here"] ["_law_lines_here"] (defScope s__law_elders) := ⟨rfl, rfl, rfl, by decide +kernel, rfl, by decide +kernel, by decide +kernel⟩
noncomputable def l__law_elders_1 : SM :=
    (sPut 1 (eVar 2) (eVar 3))
theorem u__law_elders_1 {ρ : DEnv} : l__law_elders_1 ρ = ((sPut 1 (eVar 2) (eVar 3))) ρ := Eq.trans rfl rfl
noncomputable def b__law_elders : SM :=
    (sSeq (sSet 1 eNewD)
    (sSeq (sForN 0 (gUn 2 (gsCons (gNm 2) (gsCons (gNm 3) gsNil))) l__law_elders_1)
    (sRet (eVar 1))))
noncomputable def m__law_elders : List D → FR := runF 4 b__law_elders
theorem ok__law_elders (T : Txt K mg) (S : Std K mg "_law_elders" s__law_elders ["_law_lines_here"]) : CalD P w K mg base 1 "_law_elders" 1 m__law_elders := cal_ok (k := 0) S sc__law_elders fun f cdv A outer s H E hr => by
    have sc := sc__law_elders
    have tk := takes_of (X := cxOf (L2.CX P w) P w K mg base ["_law_lines_here", "_law_found", "_law_name", "_law_elders_here"] "_law_elders" (defScope s__law_elders) f cdv A outer s H E) rfl rfl rfl rfl
    have hpo := passes_of (X := cxOf (L2.CX P w) P w K mg base ["_law_lines_here", "_law_found", "_law_name", "_law_elders_here"] "_law_elders" (defScope s__law_elders) f cdv A outer s H E) rfl
    exact (ds_cons (ds_set 1 sc.nd de_newD)
    (ds_cons (ds_forN 0 hpo (by rfl) (dg_tup (tp := false) (by rfl) (dgs_cons (dg_name 2 sc.nd) (dgs_cons (dg_name 3 sc.nd) dgs_nil))) (ds_one (ds_put 1 (u1 hr) (de_var 2) (de_var 3))))
    (ds_one (ds_ret (de_var 1)))))
/-! _law_above -/
theorem sc__law_above : FnScope ["_law_lines_here", "_law_names", "_law_elders_here", "_law_marked", "_law_name", "_law_line", "_law_one"] ["_law_lines_here", "_law_names"] (defScope s__law_above) := ⟨rfl, rfl, rfl, by decide +kernel, rfl, by decide +kernel, by decide +kernel⟩
noncomputable def l__law_above_1 : SM :=
    (sIf (tVal (eOp2 pIn (eVar 4) (eVar 3))) (sSet 3 (eOp2 pAdd (eVar 3) (eLC [6] (iSeq (eOp2 pIx (eVar 2) (eVar 4))) (gNm 6) (tVal (eOp2 pNotIn (eVar 6) (eVar 3))) (eVar 6))))
    sNil)
theorem u__law_above_1 {ρ : DEnv} : l__law_above_1 ρ = ((sIf (tVal (eOp2 pIn (eVar 4) (eVar 3))) (sSet 3 (eOp2 pAdd (eVar 3) (eLC [6] (iSeq (eOp2 pIx (eVar 2) (eVar 4))) (gNm 6) (tVal (eOp2 pNotIn (eVar 6) (eVar 3))) (eVar 6))))
    sNil)) ρ := Eq.trans rfl rfl
noncomputable def b__law_above : SM :=
    (sSeq (sSet 2 (eCall 1 m__law_elders (aCons (eVar 0) aNil)))
    (sSeq (sSet 3 (eOpN pList (aCons (eVar 1) aNil)))
    (sSeq (sFor (iSeq (eLC [5] (iRevD (eVar 0)) (gNm 5) tYesD (eOp2 pIx (eVar 5) (eC (.int 0))))) (gNm 4) l__law_above_1)
    (sRet (eLCD [4] .keys 2 (gNm 4) (tVal (eOp2 pIn (eVar 4) (eVar 3))) (eVar 4))))))
noncomputable def m__law_above : List D → FR := runF 7 b__law_above
theorem ok__law_above (T : Txt K mg) (S : Std K mg "_law_above" s__law_above ["_law_lines_here", "_law_names"]) (C__law_elders : CalD P w K mg base 1 "_law_elders" 1 m__law_elders) : CalD P w K mg base 2 "_law_above" 2 m__law_above := cal_ok (k := 1) S sc__law_above fun f cdv A outer s H E hr => by
    have sc := sc__law_above
    have tk := takes_of (X := cxOf (L2.CX P w) P w K mg base ["_law_lines_here", "_law_names", "_law_elders_here", "_law_marked", "_law_name", "_law_line", "_law_one"] "_law_above" (defScope s__law_above) f cdv A outer s H E) rfl rfl rfl rfl
    have hpo := passes_of (X := cxOf (L2.CX P w) P w K mg base ["_law_lines_here", "_law_names", "_law_elders_here", "_law_marked", "_law_name", "_law_line", "_law_one"] "_law_above" (defScope s__law_above) f cdv A outer s H E) rfl
    exact (ds_cons (ds_set 2 sc.nd (de_cal C__law_elders hr tk (da_cons (de_var 0) da_nil)))
    (ds_cons (ds_set 3 sc.nd (de_cT (call_listA rfl) p_list (by rfl) T.f_list (by decide +kernel) (da_cons (de_var 1) da_nil)))
    (ds_cons (ds_for hpo (by rfl) (di_seq (de_lc rfl sc.nd (di_rev (by rfl) T.f_reversed (de_var 0)) (blkOk_by (own := [("_law_line", 5)]) (by kernel_rfl)) (by decide) (fun _ _ _ _ _ => (dg_name 5 sc.nd)) (fun _ _ _ _ _ => dts_nil) (fun _ _ _ _ _ => (de_ix (ix_A (u1 hr)) p_ix (de_var 5) de_int)))) (dg_name 4 sc.nd) (ds_one (ds_if (dt_cmp (op_inA (u65 hr)) p_in (de_var 4) (de_var 3) (by rfl)) (ds_one (ds_set 3 sc.nd (de_op op_addA p_add (de_var 3) (de_lc rfl sc.nd (di_seq (de_ix (ix_A (u1 hr)) p_ix (de_var 2) (de_var 4))) (blkOk_by (own := [("_law_one", 6)]) (by kernel_rfl)) (by decide) (fun _ _ _ _ _ => (dg_name 6 sc.nd)) (fun _ _ _ _ _ => (dts_one (dt_cmp (op_notInA (u65 hr)) p_notIn (de_var 6) (de_var 3) (by rfl)))) (fun _ _ _ _ _ => (de_var 6))))))
    ds_nil)))
    (ds_one (ds_ret (de_lcD rfl sc.nd (di_keys 2) (blkOk_by (own := [("_law_name", 4)]) (by kernel_rfl)) (by decide) (fun _ _ _ _ _ => (dg_name 4 sc.nd)) (fun _ _ _ _ _ => (dts_one (dt_cmp (op_inA (u65 hr)) p_in (de_var 4) (de_var 3) (by rfl)))) (fun _ _ _ _ _ => (de_var 4))))))))
/-! _law_sides -/
theorem sc__law_sides : FnScope ["_law_found", "_law_lines_here", "_law_ones", "_law_others", "_law_third", "_law_left", "_law_right", "_law_names", "_law_due", "_law_name", "_law_elders_here", "_law_family", "_law_crossed", "_law_one"] ["_law_found", "_law_lines_here", "_law_ones", "_law_others", "_law_third"] (defScope s__law_sides) := ⟨rfl, rfl, rfl, by decide +kernel, rfl, by decide +kernel, by decide +kernel⟩
noncomputable def l__law_sides_1 : SM :=
    (sIf (tOrD (tVal (eOp2 pNe (eMeth "list" pCount (eOp2 pAdd (eVar 5) (eVar 6)) (aCons (eVar 9) aNil)) (eC (.int 1)))) (tOrD (tAndD (tVal (eOp2 pIn (eVar 9) (eVar 2))) (tVal (eOp2 pIn (eVar 9) (eVar 6)))) (tAndD (tVal (eOp2 pIn (eVar 9) (eVar 3))) (tVal (eOp2 pIn (eVar 9) (eVar 5)))))) (sRet (eC (.bl false)))
    sNil)
theorem u__law_sides_1 {ρ : DEnv} : l__law_sides_1 ρ = ((sIf (tOrD (tVal (eOp2 pNe (eMeth "list" pCount (eOp2 pAdd (eVar 5) (eVar 6)) (aCons (eVar 9) aNil)) (eC (.int 1)))) (tOrD (tAndD (tVal (eOp2 pIn (eVar 9) (eVar 2))) (tVal (eOp2 pIn (eVar 9) (eVar 6)))) (tAndD (tVal (eOp2 pIn (eVar 9) (eVar 3))) (tVal (eOp2 pIn (eVar 9) (eVar 5)))))) (sRet (eC (.bl false)))
    sNil)) ρ := Eq.trans rfl rfl
noncomputable def l__law_sides_2 : SM :=
    (sSeq (sSet 11 (eOp2 pAdd (eOpN pList (aCons (eVar 10) aNil)) (eLst (aCons (eVar 9) aNil))))
    (sSeq (sSet 12 (eTup (aCons (eLC [13] (iSeq (eVar 11)) (gNm 13) (tVal (eOp2 pIn (eVar 13) (eVar 5))) (eVar 13)) (aCons (eLC [13] (iSeq (eVar 11)) (gNm 13) (tVal (eOp2 pIn (eVar 13) (eVar 6))) (eVar 13)) aNil))))
    (sIf (tAndD (tVal (eOp2 pIn (eVar 9) (eVar 7))) (tAndD (tVal (eOp2 pNe (eOp2 pIx (eVar 12) (eC (.int 0))) (eLst aNil))) (tVal (eOp2 pNe (eOp2 pIx (eVar 12) (eC (.int 1))) (eLst aNil))))) (sRet (eC (.bl false)))
    sNil)))
theorem u__law_sides_2 {ρ : DEnv} : l__law_sides_2 ρ = ((sSeq (sSet 11 (eOp2 pAdd (eOpN pList (aCons (eVar 10) aNil)) (eLst (aCons (eVar 9) aNil))))
    (sSeq (sSet 12 (eTup (aCons (eLC [13] (iSeq (eVar 11)) (gNm 13) (tVal (eOp2 pIn (eVar 13) (eVar 5))) (eVar 13)) (aCons (eLC [13] (iSeq (eVar 11)) (gNm 13) (tVal (eOp2 pIn (eVar 13) (eVar 6))) (eVar 13)) aNil))))
    (sIf (tAndD (tVal (eOp2 pIn (eVar 9) (eVar 7))) (tAndD (tVal (eOp2 pNe (eOp2 pIx (eVar 12) (eC (.int 0))) (eLst aNil))) (tVal (eOp2 pNe (eOp2 pIx (eVar 12) (eC (.int 1))) (eLst aNil))))) (sRet (eC (.bl false)))
    sNil)))) ρ := Eq.trans rfl rfl
noncomputable def b__law_sides : SM :=
    (sSeq (sIf (tOrD (tNotD (tTruth (eIsi .tuple (eVar 0)))) (tVal (eOp2 pNe (eOpN pLen (aCons (eVar 0) aNil)) (eC (.int 2))))) (sRet (eC (.bl false)))
    sNil)
    (sSeq (sAsg (gUn 2 (gsCons (gNm 5) (gsCons (gNm 6) gsNil))) (eVar 0))
    (sSeq (sIf (tOrD (tNotD (tTruth (eIsi .list (eVar 5)))) (tNotD (tTruth (eIsi .list (eVar 6))))) (sRet (eC (.bl false)))
    sNil)
    (sSeq (sSet 7 (eCall 2 m__law_above (aCons (eVar 1) (aCons (eOp2 pAdd (eOp2 pAdd (eVar 2) (eVar 3)) (eVar 4)) aNil))))
    (sSeq (sSet 8 (eLC [9] (iSeq (eVar 7)) (gNm 9) (tVal (eOp2 pNotIn (eVar 9) (eVar 4))) (eVar 9)))
    (sSeq (sIf (tVal (eOp2 pNe (eOp2 pAdd (eOpN pLen (aCons (eVar 5) aNil)) (eOpN pLen (aCons (eVar 6) aNil))) (eOpN pLen (aCons (eVar 8) aNil)))) (sRet (eC (.bl false)))
    sNil)
    (sSeq (sForN 8 (gNm 9) l__law_sides_1)
    (sSeq (sForN 1 (gUn 2 (gsCons (gNm 9) (gsCons (gNm 10) gsNil))) l__law_sides_2)
    (sRet (eC (.bl true)))))))))))
noncomputable def m__law_sides : List D → FR := runF 14 b__law_sides
theorem ok__law_sides (T : Txt K mg) (S : Std K mg "_law_sides" s__law_sides ["_law_found", "_law_lines_here", "_law_ones", "_law_others", "_law_third"]) (C__law_above : CalD P w K mg base 2 "_law_above" 2 m__law_above) : CalD P w K mg base 3 "_law_sides" 5 m__law_sides := cal_ok (k := 2) S sc__law_sides fun f cdv A outer s H E hr => by
    have sc := sc__law_sides
    have tk := takes_of (X := cxOf (L2.CX P w) P w K mg base ["_law_found", "_law_lines_here", "_law_ones", "_law_others", "_law_third", "_law_left", "_law_right", "_law_names", "_law_due", "_law_name", "_law_elders_here", "_law_family", "_law_crossed", "_law_one"] "_law_sides" (defScope s__law_sides) f cdv A outer s H E) rfl rfl rfl rfl
    have hpo := passes_of (X := cxOf (L2.CX P w) P w K mg base ["_law_found", "_law_lines_here", "_law_ones", "_law_others", "_law_third", "_law_left", "_law_right", "_law_names", "_law_due", "_law_name", "_law_elders_here", "_law_family", "_law_crossed", "_law_one"] "_law_sides" (defScope s__law_sides) f cdv A outer s H E) rfl
    exact (ds_cons (ds_if (dt_w (dw_or (dt_not (dt_truth (de_isi .tuple (by rfl) T.f_isinstance (by rfl) T.f_tuple (by decide +kernel) (de_var 0)))) (dw_or1 (dt_cmp (op_neA hr.units) p_ne (de_cB call_lenA p_len (by rfl) T.f_len (by decide +kernel) (da_cons (de_var 0) da_nil)) de_int (by rfl))))) (ds_one (ds_ret de_bl))
    ds_nil)
    (ds_cons (ds_asg (de_var 0) (dg_tup (tp := true) (by rfl) (dgs_cons (dg_name 5 sc.nd) (dgs_cons (dg_name 6 sc.nd) dgs_nil))))
    (ds_cons (ds_if (dt_w (dw_or (dt_not (dt_truth (de_isi .list (by rfl) T.f_isinstance (by rfl) T.f_list (by decide +kernel) (de_var 5)))) (dw_or1 (dt_not (dt_truth (de_isi .list (by rfl) T.f_isinstance (by rfl) T.f_list (by decide +kernel) (de_var 6))))))) (ds_one (ds_ret de_bl))
    ds_nil)
    (ds_cons (ds_set 7 sc.nd (de_cal C__law_above hr tk (da_cons (de_var 1) (da_cons (de_op op_addA p_add (de_op op_addA p_add (de_var 2) (de_var 3)) (de_var 4)) da_nil))))
    (ds_cons (ds_setLc 8 rfl sc.nd (by rfl) (di_seq (de_var 7)) (blkOk_by (own := [("_law_name", 9)]) (by kernel_rfl)) (by decide) (fun _ _ _ _ _ => (dg_name 9 sc.nd)) (fun _ _ _ _ _ => (dts_one (dt_cmp (op_notInA (u65 hr)) p_notIn (de_var 9) (de_var 4) (by rfl)))) (fun _ _ _ _ _ => (de_var 9)))
    (ds_cons (ds_if (dt_cmp (op_neA hr.units) p_ne (de_op op_addA p_add (de_cB call_lenA p_len (by rfl) T.f_len (by decide +kernel) (da_cons (de_var 5) da_nil)) (de_cB call_lenA p_len (by rfl) T.f_len (by decide +kernel) (da_cons (de_var 6) da_nil))) (de_cB call_lenA p_len (by rfl) T.f_len (by decide +kernel) (da_cons (de_var 8) da_nil)) (by rfl)) (ds_one (ds_ret de_bl))
    ds_nil)
    (ds_cons (ds_forN 8 hpo (by rfl) (dg_name 9 sc.nd) (ds_one (ds_if (dt_w (dw_or (dt_cmp (op_neA hr.units) p_ne (de_meth PySem.F.plainAttrs_list PySem.F.slot_list_count PySem.F.type_list_count mt_scount p_count (de_op op_addA p_add (de_var 5) (de_var 6)) (da_cons (de_var 9) da_nil)) de_int (by rfl)) (dw_or (dt_w (dw_and (dt_cmp (op_inA (u65 hr)) p_in (de_var 9) (de_var 2) (by rfl)) (dw_and1 (dt_cmp (op_inA (u65 hr)) p_in (de_var 9) (de_var 6) (by rfl))))) (dw_or1 (dt_w (dw_and (dt_cmp (op_inA (u65 hr)) p_in (de_var 9) (de_var 3) (by rfl)) (dw_and1 (dt_cmp (op_inA (u65 hr)) p_in (de_var 9) (de_var 5) (by rfl))))))))) (ds_one (ds_ret de_bl))
    ds_nil)))
    (ds_cons (ds_forN 1 hpo (by rfl) (dg_tup (tp := false) (by rfl) (dgs_cons (dg_name 9 sc.nd) (dgs_cons (dg_name 10 sc.nd) dgs_nil))) (ds_cons (ds_set 11 sc.nd (de_op op_addA p_add (de_cT (call_listA rfl) p_list (by rfl) T.f_list (by decide +kernel) (da_cons (de_var 10) da_nil)) (de_lst (da_cons (de_var 9) da_nil))))
    (ds_cons (ds_set 12 sc.nd (de_tup (da_cons (de_lc rfl sc.nd (di_seq (de_var 11)) (blkOk_by (own := [("_law_one", 13)]) (by kernel_rfl)) (by decide) (fun _ _ _ _ _ => (dg_name 13 sc.nd)) (fun _ _ _ _ _ => (dts_one (dt_cmp (op_inA (u65 hr)) p_in (de_var 13) (de_var 5) (by rfl)))) (fun _ _ _ _ _ => (de_var 13))) (da_cons (de_lc rfl sc.nd (di_seq (de_var 11)) (blkOk_by (own := [("_law_one", 13)]) (by kernel_rfl)) (by decide) (fun _ _ _ _ _ => (dg_name 13 sc.nd)) (fun _ _ _ _ _ => (dts_one (dt_cmp (op_inA (u65 hr)) p_in (de_var 13) (de_var 6) (by rfl)))) (fun _ _ _ _ _ => (de_var 13))) da_nil))))
    (ds_one (ds_if (dt_w (dw_and (dt_cmp (op_inA (u65 hr)) p_in (de_var 9) (de_var 7) (by rfl)) (dw_and (dt_cmp (op_neA hr.units) p_ne (de_ix (ix_A (u1 hr)) p_ix (de_var 12) de_int) (de_lst da_nil) (by rfl)) (dw_and1 (dt_cmp (op_neA hr.units) p_ne (de_ix (ix_A (u1 hr)) p_ix (de_var 12) de_int) (de_lst da_nil) (by rfl)))))) (ds_one (ds_ret de_bl))
    ds_nil)))))
    (ds_one (ds_ret de_bl))))))))))
/-! _law_local -/
theorem sc__law_local : FnScope ["_law_lines_here", "_law_cell_here", "_law_name", "_law_elders_here", "_law_rest", "_law_one", "_law_its_elders", "_law_third"] ["_law_lines_here", "_law_cell_here"] (defScope s__law_local) := ⟨rfl, rfl, rfl, by decide +kernel, rfl, by decide +kernel, by decide +kernel⟩
noncomputable def l__law_local_1 : SM :=
    (sIf (tAndD (tVal (eOp2 pNotIn (eVar 5) (eVar 3))) (tVal (eOp2 pNotIn (eVar 2) (eCall 2 m__law_above (aCons (eVar 0) (aCons (eLst (aCons (eVar 5) aNil)) aNil)))))) (sExpr (eMut 4 "list" mAppend (aCons (eVar 5) aNil)))
    sNil)
theorem u__law_local_1 {ρ : DEnv} : l__law_local_1 ρ = ((sIf (tAndD (tVal (eOp2 pNotIn (eVar 5) (eVar 3))) (tVal (eOp2 pNotIn (eVar 2) (eCall 2 m__law_above (aCons (eVar 0) (aCons (eLst (aCons (eVar 5) aNil)) aNil)))))) (sExpr (eMut 4 "list" mAppend (aCons (eVar 5) aNil)))
    sNil)) ρ := Eq.trans rfl rfl
noncomputable def b__law_local : SM :=
    (sSeq (sAsg (gUn 2 (gsCons (gNm 2) (gsCons (gNm 3) gsNil))) (eOp2 pIx (eVar 0) (eOp2 pMod (eOp2 pFdiv (eVar 1) (eC (.int 3))) (eOpN pLen (aCons (eVar 0) aNil)))))
    (sSeq (sSet 4 (eLst aNil))
    (sSeq (sForN 0 (gUn 2 (gsCons (gNm 5) (gsCons (gNm 6) gsNil))) l__law_local_1)
    (sSeq (sSet 7 (eOpN pList (aCons (eVar 3) aNil)))
    (sSeq (sIf (tVal (eOp2 pEq (eOp2 pMod (eVar 1) (eC (.int 2))) (eC (.int 0)))) (sRet (eCall 5 m__law_sides (aCons (eCall 4 m_sides (aCons (eVar 0) (aCons (eLst (aCons (eVar 2) aNil)) (aCons (eOpN pList (aCons (eVar 4) aNil)) (aCons (eOpN pList (aCons (eVar 7) aNil)) aNil))))) (aCons (eVar 0) (aCons (eLst (aCons (eVar 2) aNil)) (aCons (eVar 4) (aCons (eVar 7) aNil)))))))
    sNil)
    (sRet (eCall 5 m__law_sides (aCons (eCall 4 m_sides (aCons (eVar 0) (aCons (eOpN pList (aCons (eVar 4) aNil)) (aCons (eLst (aCons (eVar 2) aNil)) (aCons (eOpN pList (aCons (eVar 7) aNil)) aNil))))) (aCons (eVar 0) (aCons (eVar 4) (aCons (eLst (aCons (eVar 2) aNil)) (aCons (eVar 7) aNil))))))))))))
noncomputable def m__law_local : List D → FR := runF 8 b__law_local
theorem ok__law_local (T : Txt K mg) (S : Std K mg "_law_local" s__law_local ["_law_lines_here", "_law_cell_here"]) (C__law_above : CalD P w K mg base 2 "_law_above" 2 m__law_above) (C_sides : CalD P w K mg base 4 "sides" 4 m_sides) (C__law_sides : CalD P w K mg base 3 "_law_sides" 5 m__law_sides) : CalD P w K mg base 5 "_law_local" 2 m__law_local := cal_ok (k := 4) S sc__law_local fun f cdv A outer s H E hr => by
    have sc := sc__law_local
    have tk := takes_of (X := cxOf (L2.CX P w) P w K mg base ["_law_lines_here", "_law_cell_here", "_law_name", "_law_elders_here", "_law_rest", "_law_one", "_law_its_elders", "_law_third"] "_law_local" (defScope s__law_local) f cdv A outer s H E) rfl rfl rfl rfl
    have hpo := passes_of (X := cxOf (L2.CX P w) P w K mg base ["_law_lines_here", "_law_cell_here", "_law_name", "_law_elders_here", "_law_rest", "_law_one", "_law_its_elders", "_law_third"] "_law_local" (defScope s__law_local) f cdv A outer s H E) rfl
    exact (ds_cons (ds_asg (de_ix (ix_A (u1 hr)) p_ix (de_var 0) (de_op op_mod p_mod (de_op op_fdivW p_fdiv (de_var 1) de_int) (de_cB call_lenA p_len (by rfl) T.f_len (by decide +kernel) (da_cons (de_var 0) da_nil)))) (dg_tup (tp := true) (by rfl) (dgs_cons (dg_name 2 sc.nd) (dgs_cons (dg_name 3 sc.nd) dgs_nil))))
    (ds_cons (ds_set 4 sc.nd (de_lst da_nil))
    (ds_cons (ds_forN 0 hpo (by rfl) (dg_tup (tp := false) (by rfl) (dgs_cons (dg_name 5 sc.nd) (dgs_cons (dg_name 6 sc.nd) dgs_nil))) (ds_one (ds_if (dt_w (dw_and (dt_cmp (op_notInA (u65 hr)) p_notIn (de_var 5) (de_var 3) (by rfl)) (dw_and1 (dt_cmp (op_notInA (u65 hr)) p_notIn (de_var 2) (de_cal C__law_above hr tk (da_cons (de_var 0) (da_cons (de_lst (da_cons (de_var 5) da_nil)) da_nil))) (by rfl))))) (ds_one (ds_expr (de_mut 4 PySem.F.plainAttrs_list PySem.F.slot_list_append PySem.F.type_list_append mt_append m_append (da_cons (de_var 5) da_nil))))
    ds_nil)))
    (ds_cons (ds_set 7 sc.nd (de_cT (call_listA rfl) p_list (by rfl) T.f_list (by decide +kernel) (da_cons (de_var 3) da_nil)))
    (ds_cons (ds_if (dt_cmp (op_eqA hr.units) p_eq (de_op op_mod p_mod (de_var 1) de_int) de_int (by rfl)) (ds_one (ds_ret (de_cal C__law_sides hr tk (da_cons (de_cal C_sides hr tk (da_cons (de_var 0) (da_cons (de_lst (da_cons (de_var 2) da_nil)) (da_cons (de_cT (call_listA rfl) p_list (by rfl) T.f_list (by decide +kernel) (da_cons (de_var 4) da_nil)) (da_cons (de_cT (call_listA rfl) p_list (by rfl) T.f_list (by decide +kernel) (da_cons (de_var 7) da_nil)) da_nil))))) (da_cons (de_var 0) (da_cons (de_lst (da_cons (de_var 2) da_nil)) (da_cons (de_var 4) (da_cons (de_var 7) da_nil))))))))
    ds_nil)
    (ds_one (ds_ret (de_cal C__law_sides hr tk (da_cons (de_cal C_sides hr tk (da_cons (de_var 0) (da_cons (de_cT (call_listA rfl) p_list (by rfl) T.f_list (by decide +kernel) (da_cons (de_var 4) da_nil)) (da_cons (de_lst (da_cons (de_var 2) da_nil)) (da_cons (de_cT (call_listA rfl) p_list (by rfl) T.f_list (by decide +kernel) (da_cons (de_var 7) da_nil)) da_nil))))) (da_cons (de_var 0) (da_cons (de_var 4) (da_cons (de_lst (da_cons (de_var 2) da_nil)) (da_cons (de_var 7) da_nil)))))))))))))
/-! law -/
theorem sc_law : FnScope ["_law_script", "_law_lines_here", "_law_names", "_law_cell_here", "_law_ones", "_law_others", "_law_third", "_law_handed", "_law_found", "_law_again", "_law_line"] ["_law_script"] (defScope s_law) := ⟨rfl, rfl, rfl, by decide +kernel, rfl, by decide +kernel, by decide +kernel⟩
noncomputable def l_law_1 : SM :=
    (sSeq (sAsg (gUn 3 (gsCons (gNm 4) (gsCons (gNm 5) (gsCons (gNm 6) gsNil)))) (eCall 2 m__law_lists (aCons (eVar 3) (aCons (eVar 2) aNil))))
    (sSeq (sSet 7 (eLst (aCons (eOpN pList (aCons (eVar 4) aNil)) (aCons (eOpN pList (aCons (eVar 5) aNil)) (aCons (eOpN pList (aCons (eVar 6) aNil)) aNil)))))
    (enterB 8 4 mT_sides (aCons (eVar 1) (aCons (eOp2 pIx (eVar 7) (eC (.int 0))) (aCons (eOp2 pIx (eVar 7) (eC (.int 1))) (aCons (eOp2 pIx (eVar 7) (eC (.int 2))) aNil))))
    (seqE (liftB 8 (sIf (tOrD (tVal (eOp2 pNe (eVar 7) (eLst (aCons (eVar 4) (aCons (eVar 5) (aCons (eVar 6) aNil)))))) (tNotD (tTruth (eCall 2 m__law_local (aCons (eVar 1) (aCons (eVar 3) aNil)))))) (sRet (eC (.bl false)))
    sNil))
    (seqE (ifB (lendB 8 (tVal (eOp2 pNotN (eVar 8) (eC .non)))) (seqB (ifB (lendB 8 (tNotD (tTruth (eCall 5 m__law_sides (aCons (eVar 8) (aCons (eVar 1) (aCons (eVar 4) (aCons (eVar 5) (aCons (eVar 6) aNil))))))))) (liftB 8 (sRet (eC (.bl false))))
    nilB)
    (seqB (elsB (mutB 8 0 "list" mClear) (mutB 8 0 "dict" mDClear))
    (seqB (elsB (mutB 8 1 "list" mClear) (mutB 8 1 "dict" mDClear))
    (seqB (liftB 8 (sSet 9 (eCall 4 m_sides (aCons (eVar 1) (aCons (eOpN pList (aCons (eVar 4) aNil)) (aCons (eOpN pList (aCons (eVar 5) aNil)) (aCons (eOpN pList (aCons (eVar 6) aNil)) aNil)))))))
    (ifB (lendB 8 (tOrD (tNotD (tTruth (eCall 5 m__law_sides (aCons (eVar 9) (aCons (eVar 1) (aCons (eVar 4) (aCons (eVar 5) (aCons (eVar 6) aNil)))))))) (tVal (eOp2 pNe (eVar 8) (eTup (aCons (eLst aNil) (aCons (eLst aNil) aNil))))))) (liftB 8 (sRet (eC (.bl false))))
    nilB)))))
    nilB)
    (exitB 8 sNil))))))
theorem u_law_1 {ρ : DEnv} : l_law_1 ρ = ((sSeq (sAsg (gUn 3 (gsCons (gNm 4) (gsCons (gNm 5) (gsCons (gNm 6) gsNil)))) (eCall 2 m__law_lists (aCons (eVar 3) (aCons (eVar 2) aNil))))
    (sSeq (sSet 7 (eLst (aCons (eOpN pList (aCons (eVar 4) aNil)) (aCons (eOpN pList (aCons (eVar 5) aNil)) (aCons (eOpN pList (aCons (eVar 6) aNil)) aNil)))))
    (enterB 8 4 mT_sides (aCons (eVar 1) (aCons (eOp2 pIx (eVar 7) (eC (.int 0))) (aCons (eOp2 pIx (eVar 7) (eC (.int 1))) (aCons (eOp2 pIx (eVar 7) (eC (.int 2))) aNil))))
    (seqE (liftB 8 (sIf (tOrD (tVal (eOp2 pNe (eVar 7) (eLst (aCons (eVar 4) (aCons (eVar 5) (aCons (eVar 6) aNil)))))) (tNotD (tTruth (eCall 2 m__law_local (aCons (eVar 1) (aCons (eVar 3) aNil)))))) (sRet (eC (.bl false)))
    sNil))
    (seqE (ifB (lendB 8 (tVal (eOp2 pNotN (eVar 8) (eC .non)))) (seqB (ifB (lendB 8 (tNotD (tTruth (eCall 5 m__law_sides (aCons (eVar 8) (aCons (eVar 1) (aCons (eVar 4) (aCons (eVar 5) (aCons (eVar 6) aNil))))))))) (liftB 8 (sRet (eC (.bl false))))
    nilB)
    (seqB (elsB (mutB 8 0 "list" mClear) (mutB 8 0 "dict" mDClear))
    (seqB (elsB (mutB 8 1 "list" mClear) (mutB 8 1 "dict" mDClear))
    (seqB (liftB 8 (sSet 9 (eCall 4 m_sides (aCons (eVar 1) (aCons (eOpN pList (aCons (eVar 4) aNil)) (aCons (eOpN pList (aCons (eVar 5) aNil)) (aCons (eOpN pList (aCons (eVar 6) aNil)) aNil)))))))
    (ifB (lendB 8 (tOrD (tNotD (tTruth (eCall 5 m__law_sides (aCons (eVar 9) (aCons (eVar 1) (aCons (eVar 4) (aCons (eVar 5) (aCons (eVar 6) aNil)))))))) (tVal (eOp2 pNe (eVar 8) (eTup (aCons (eLst aNil) (aCons (eLst aNil) aNil))))))) (liftB 8 (sRet (eC (.bl false))))
    nilB)))))
    nilB)
    (exitB 8 sNil))))))) ρ := Eq.trans rfl rfl
noncomputable def b_law : SM :=
    (sSeq (sSet 1 (eCall 2 m__law_lines (aCons (eVar 0) (aCons (eC (.int 10)) aNil))))
    (sSeq (sSet 2 (eLC [10] (iSeq (eVar 1)) (gNm 10) tYesD (eOp2 pIx (eVar 10) (eC (.int 0)))))
    (sSeq (sFor (iSeq (eCall 2 m__law_questions (aCons (eVar 0) (aCons (eC (.int 4)) aNil)))) (gNm 3) l_law_1)
    (sRet (eC (.bl true))))))
noncomputable def m_law : List D → FR := runF 11 b_law
theorem ok_law (T : Txt K mg) {fL : Addr} {fdL : FuncData} (F : FunD K "law" "law" (defArgs s_law) (defBody s_law) (defScope s_law) [] [] fL fdL) (C__law_lines : CalD P w K mg base 2 "_law_lines" 2 m__law_lines) (C__law_local : CalD P w K mg base 5 "_law_local" 2 m__law_local) (C__law_sides : CalD P w K mg base 3 "_law_sides" 5 m__law_sides) (C_sides : CalD P w K mg base 4 "sides" 4 m_sides) (C__law_lists : CalD P w K mg base 1 "_law_lists" 2 m__law_lists) (C__law_questions : CalD P w K mg base 2 "_law_questions" 2 m__law_questions) (CT_sides : CalT P w K mg base 4 "sides" 4 mT_sides) : FnOk P w K mg base (L2.CX P w) 6 fL fdL ["_law_script"] (spOf K mg 1 m_law) := fn_okD (k := 5) F sc_law fun f cdv A outer s H E hr => by
    have sc := sc_law
    have tk := takes_of (X := cxOf (L2.CX P w) P w K mg base ["_law_script", "_law_lines_here", "_law_names", "_law_cell_here", "_law_ones", "_law_others", "_law_third", "_law_handed", "_law_found", "_law_again", "_law_line"] "law" (defScope s_law) f cdv A outer s H E) rfl rfl rfl rfl
    have hpo := passes_of (X := cxOf (L2.CX P w) P w K mg base ["_law_script", "_law_lines_here", "_law_names", "_law_cell_here", "_law_ones", "_law_others", "_law_third", "_law_handed", "_law_found", "_law_again", "_law_line"] "law" (defScope s_law) f cdv A outer s H E) rfl
    exact (ds_cons (ds_set 1 sc.nd (de_cal C__law_lines hr tk (da_cons (de_var 0) (da_cons de_int da_nil))))
    (ds_cons (ds_setLc 2 rfl sc.nd (by rfl) (di_seq (de_var 1)) (blkOk_by (own := [("_law_line", 10)]) (by kernel_rfl)) (by decide) (fun _ _ _ _ _ => (dg_name 10 sc.nd)) (fun _ _ _ _ _ => dts_nil) (fun _ _ _ _ _ => (de_ix (ix_A (u1 hr)) p_ix (de_var 10) de_int)))
    (ds_cons (ds_for hpo (by rfl) (di_seq (de_cal C__law_questions hr tk (da_cons (de_var 0) (da_cons de_int da_nil)))) (dg_name 3 sc.nd) (ds_cons (ds_asg (de_cal C__law_lists hr tk (da_cons (de_var 3) (da_cons (de_var 2) da_nil))) (dg_tup (tp := true) (by rfl) (dgs_cons (dg_name 4 sc.nd) (dgs_cons (dg_name 5 sc.nd) (dgs_cons (dg_name 6 sc.nd) dgs_nil)))))
    (ds_cons (ds_set 7 sc.nd (de_lst (da_cons (de_cT (call_listA rfl) p_list (by rfl) T.f_list (by decide +kernel) (da_cons (de_var 4) da_nil)) (da_cons (de_cT (call_listA rfl) p_list (by rfl) T.f_list (by decide +kernel) (da_cons (de_var 5) da_nil)) (da_cons (de_cT (call_listA rfl) p_list (by rfl) T.f_list (by decide +kernel) (da_cons (de_var 6) da_nil)) da_nil)))))
    (ds_enterB 8 sc.nd CT_sides hr tk (da_cons (de_var 1) (da_cons (de_ix (ix_A (u1 hr)) p_ix (de_var 7) de_int) (da_cons (de_ix (ix_A (u1 hr)) p_ix (de_var 7) de_int) (da_cons (de_ix (ix_A (u1 hr)) p_ix (de_var 7) de_int) da_nil))))
    (dsE_cons (dsB_lift (ds_if (dt_w (dw_or (dt_cmp (op_neA hr.units) p_ne (de_var 7) (de_lst (da_cons (de_var 4) (da_cons (de_var 5) (da_cons (de_var 6) da_nil)))) (by rfl)) (dw_or1 (dt_not (dt_truth (de_cal C__law_local hr tk (da_cons (de_var 1) (da_cons (de_var 3) da_nil)))))))) (ds_one (ds_ret de_bl))
    ds_nil))
    (dsE_cons (dsB_if (dtB_lend (W := WF) (dt_cmp op_notN p_notN (de_var 8) de_non (by rfl))) (dsB_cons (dsB_if (dtB_lend (W := WF) (dt_not (dt_truth (de_cal C__law_sides hr takesF (da_cons (de_var 8) (da_cons (de_var 1) (da_cons (de_var 4) (da_cons (de_var 5) (da_cons (de_var 6) da_nil))))))))) (dsB_one (dsB_lift (ds_ret de_bl)))
    dsB_nil)
    (dsB_cons (dsB_els (dsB_mut0 8 0 (u1 hr) PySem.F.plainAttrs_list PySem.F.slot_list_clear PySem.F.type_list_clear mt_clear m_clear) (dsB_mut0 8 0 (u1 hr) PySem.F.plainAttrs_dict PySem.F.slot_dict_clear PySem.F.type_dict_clear mtd_clear m_dclear))
    (dsB_cons (dsB_els (dsB_mut0 8 1 (u1 hr) PySem.F.plainAttrs_list PySem.F.slot_list_clear PySem.F.type_list_clear mt_clear m_clear) (dsB_mut0 8 1 (u1 hr) PySem.F.plainAttrs_dict PySem.F.slot_dict_clear PySem.F.type_dict_clear mtd_clear m_dclear))
    (dsB_cons (dsB_lift (ds_set 9 sc.nd (de_cal C_sides hr tk (da_cons (de_var 1) (da_cons (de_cT (call_listA rfl) p_list (by rfl) T.f_list (by decide +kernel) (da_cons (de_var 4) da_nil)) (da_cons (de_cT (call_listA rfl) p_list (by rfl) T.f_list (by decide +kernel) (da_cons (de_var 5) da_nil)) (da_cons (de_cT (call_listA rfl) p_list (by rfl) T.f_list (by decide +kernel) (da_cons (de_var 6) da_nil)) da_nil)))))))
    (dsB_one (dsB_if (dtB_lend (W := WF) (dt_w (dw_or (dt_not (dt_truth (de_cal C__law_sides hr takesF (da_cons (de_var 9) (da_cons (de_var 1) (da_cons (de_var 4) (da_cons (de_var 5) (da_cons (de_var 6) da_nil)))))))) (dw_or1 (dt_cmp (op_neA hr.units) p_ne (de_var 8) (de_tup (da_cons (de_lst da_nil) (da_cons (de_lst da_nil) da_nil))) (by rfl)))))) (dsB_one (dsB_lift (ds_ret de_bl)))
    dsB_nil))))))
    dsB_nil)
    (dsE_exit ds_nil)))))))
    (ds_one (ds_ret de_bl)))))
end

local macro_rules
  | `(tactic| simp_arith [$xs,*]) => `(tactic| simp only [DL.v_b1, DL.v_b2, DL.v_b3, DL.v_t1, DL.v_t2, DL.v_a1, DL.v_a2, DL.v_ae1, DL.v_ae2, DL.v_ea1, DL.v_ea2, DL.v_et1, DL.v_et2, DL.v_es1, DL.v_es2, DL.v_ts1, DL.v_ts2, DL.v_as1, DL.v_as2, 
  DL.v_s1, DL.v_s2, DL.v_s3, DL.v_s4, DL.v_s5, DL.v_ei1, DL.v_ei2, DL.v_ai1, DL.v_ai2, DL.v_is1, DL.v_is2, DL.v_ie1, DL.v_ie2, DL.v_oe1, DL.v_oe2, DL.v_els1, DL.v_els2, DL.v_els3, 
  DL.v_var, DL.v_var1, DL.v_var2, DL.v_pk1, DL.v_pk2, DL.v_pk3, DL.v_pkO1, DL.v_pkO2, DL.v_fz1, DL.v_fz2, DL.v_fz3, DL.v_fzO1, DL.v_fzO2, DL.v_C, DL.v_op1, DL.v_op2, DL.v_op2a, 
  DL.v_op2x, DL.v_op2b, DL.v_op2y, DL.v_opN, DL.v_aN, DL.v_aC, DL.v_aCa, DL.v_aCx, DL.v_aCb, DL.v_aCy, DL.v_lst, DL.v_tup, DL.v_newD, DL.v_meth, DL.v_metha, DL.v_methb, DL.v_mut, 
  DL.v_call, DL.v_index, DL.v_sl, DL.v_sla, DL.v_slb, DL.v_slc, DL.v_oN, DL.v_oS, DL.v_toO, DL.v_isi, DL.v_isi2, DL.v_isi2a, DL.v_lc, DL.v_lca, DL.v_val, DL.v_asB1, DL.v_asB2, 
  DL.v_truth, DL.v_tand, DL.v_tanda, DL.v_tandx, DL.v_tor, DL.v_tora, DL.v_torx, DL.v_tnot, DL.v_tnota, DL.v_tnotx, DL.v_tyes, DL.v_nil, DL.v_seq, DL.v_brk, DL.v_cnt, DL.v_expr, 
  DL.v_expra, DL.v_exprx, DL.v_ret, DL.v_retN, DL.v_if, DL.v_ifa, DL.v_ifx, DL.v_set, DL.v_raise, DL.v_asg, DL.v_par, DL.v_for, DL.v_forN, DL.v_forD, DL.v_put, DL.v_puta, DL.v_putb, 
  DL.v_aug, DL.v_gNm, DL.v_iseq, DL.v_irev, DL.v_irng1, DL.v_irng2, DL.v_ienum, DL.v_izip, DL.v_un0, DL.v_un1, DL.v_run, DL.v_for0, DL.v_for1, DL.v_fg1, DL.v_fk1, DL.v_fk2, DL.v_fk3, 
  DL.v_fk4, DL.v_fk5, DL.v_lc0, DL.v_lc1, DL.v_lg1, DL.v_lt1, DL.v_le1, DL.v_lf1, DL.k_er1, DL.k_er2, DL.k_er3, DL.k_er4, DL.k_er5, DL.k_fe1, DL.k_fe2, DL.k_fe3, DL.k_st1, DL.k_st2, 
  DL.k_st3, DL.k_ofD1, DL.k_ofD2, DL.k_ofB1, DL.k_ap1, DL.k_ap1', DL.k_ap2, DL.k_ap2', DL.k_apN, DL.k_apN', DL.k_apS, DL.k_apS', DL.k_apM, DL.k_apM', DL.k_pks0, DL.k_pks1, DL.k_cons, 
  DL.k_fzs0, DL.k_fzs1, DL.k_fzsK, DL.k_fzsC, DL.k_mkL, DL.k_mkT, DL.k_mkL', DL.k_mkT', DL.k_isK, DL.k_isK', DL.k_kd1, DL.k_kd2, DL.k_kd3, DL.k_kd4, DL.k_mut, DL.k_mutK, DL.k_mutS, 
  DL.k_mutR, DL.k_tru, DL.k_truK, DL.k_truB, DL.k_td1, DL.k_td2, DL.k_td3, DL.k_td4, DL.k_td5, DL.k_td6, DL.k_set1, DL.k_set2, DL.k_set3, DL.k_setA, DL.k_call, DL.k_callK, DL.k_fin1, 
  DL.k_fin2, DL.k_fin3, DL.k_fin4, DL.k_fin5, DL.k_finO1, DL.k_finO2, DL.k_asg, DL.k_asgK, DL.k_asgG, DL.k_par, DL.k_parK, DL.k_gs0, DL.k_gs1, DL.k_gsK, DL.k_gUn1, DL.k_gUn2, DL.k_seq, 
  DL.k_seqK, DL.k_seqI, DL.k_it1, DL.k_it2, DL.k_it3, DL.k_it4, DL.k_rev, DL.k_rev1, DL.k_rev2, DL.k_rng1, DL.k_rng2, DL.k_enum, DL.k_enum1, DL.k_zip, DL.k_zip1, DL.k_zip2, DL.k_put, 
  DL.k_putK, DL.k_putL, DL.k_putR, DL.k_put1, DL.k_put1', DL.k_put2, DL.k_isOw, DL.k_isOw1, DL.k_isKS, DL.k_isKS1, DL.k_isKS2, DL.k_isD, DL.k_isD1, DL.k_isD2, DL.k_isD3, DL.k_isD4, 
  DL.k_isD5, DL.k_aug, DL.k_isi, DL.k_isiK, DL.k_isiB, DL.k_is2, DL.k_is2K, DL.k_is2B, DL.k_ty1, DL.k_ty2, DL.k_ty3, DL.k_ty4, DL.k_ty5, DL.k_ty6, DL.k_ty7, DL.k_ty8, DL.k_dct, DL.v_nt, 
  DL.v_nta, DL.k_nt, DL.v_eand, DL.v_eor, DL.k_eand, DL.k_eor, DL.p_add1, DL.p_add2, DL.p_add3, DL.p_add4, DL.p_sub1, DL.p_mul1, DL.p_mul2, DL.p_mul3, DL.p_div1, DL.p_mod1, DL.p_pow1, 
  DL.p_shl1, DL.p_neg1, DL.p_lt1, DL.p_le1, DL.p_gt1, DL.p_ge1, DL.p_eq1, DL.p_eq2, DL.p_eq3, DL.p_ne1, DL.p_ne2, DL.p_ne3, DL.p_in1, DL.p_in2, DL.p_ix1, DL.p_ix2, DL.p_ix3, DL.p_ix4, 
  DL.p_ix5, DL.p_sl1, DL.p_sl2, DL.p_sl3, DL.p_sl4, DL.p_len1, DL.p_len2, DL.p_len3, DL.p_len4, DL.p_len5, DL.p_lst1, DL.p_lst2, DL.p_lst3, DL.p_lst4, DL.p_tp1, DL.p_tp2, DL.p_dct1, 
  DL.p_int1, DL.p_int2, DL.p_min1, DL.p_max1, DL.p_iadd1, DL.p_imul1, DL.p_app, DL.p_key1, DL.p_key2, DL.k_toO, DL.n_cdiv, DL.n_cmul0, DL.n_cmul1, DL.n_cmul2, DL.n_cmul3, 
  DL.w_list_tuple, DL.w_list_dict, DL.w_list_str, DL.w_tuple_list, DL.w_tuple_dict, DL.w_tuple_str, DL.w_dict_list, DL.w_dict_tuple, DL.w_dict_str, DL.w_str_list, DL.w_str_tuple, 
  DL.w_str_dict, DL.at_0, DL.at_1, DL.at_2, DL.at_3, DL.at_4, DL.at_5, 
DL.p_isb, DL.p_cnt, DL.p_ins, DL.p_pop, DL.p_rev, DL.p_dct2a, DL.p_dct2b, DL.p_ndO, DL.v_bor, DL.v_bora, DL.v_sha0, DL.v_sha1, DL.v_shs1, DL.v_shs2, DL.v_shs3, DL.v_okR1, DL.v_okR2, DL.v_imm1, DL.v_imm2, DL.v_imm3, DL.v_imm4, DL.v_imm5, DL.v_imm6, DL.v_imm7, DL.v_imm8, DL.v_imm9, DL.v_isE, DL.v_isEa, DL.v_calX, DL.v_calXa, DL.v_calm1, DL.v_calm2, DL.v_try, DL.v_trya, DL.v_tryb, DL.v_cln1, DL.v_cln2, DL.v_clear, DL.p_clr1, DL.p_clr2, DL.v_lcd, DL.v_lcda, DL.v_disp, DL.v_dispa, DL.v_dispk, DL.v_dispb, DL.v_dispc,
  DL.v_runT, DL.v_seqT, DL.v_seqTa, DL.v_seqTb, DL.v_seqTc, DL.v_finT1, DL.v_finT2, DL.v_finT3, DL.v_finT4, DL.v_retT, DL.v_retTa, DL.v_wNil, DL.v_wCons, DL.v_wConsa, DL.v_wConsb, DL.v_wConsc, DL.v_wConsd, DL.v_entB, DL.v_entBa, DL.v_entBx, DL.v_entBb, DL.v_entBc, DL.v_entBd, DL.v_entBe, DL.v_allN0, DL.v_allN1, DL.v_allN2, DL.v_seqE, DL.v_seqEa, DL.v_seqEb, DL.v_seqEc, DL.v_seqB, DL.v_seqBa, DL.v_seqBb, DL.v_seqBc, DL.v_nilB, DL.v_liftB, DL.v_liftBa, DL.v_liftBb, DL.v_liftBc, DL.v_ifB, DL.v_ifBa, DL.v_lendB, DL.v_lendBa, DL.v_liftTB, DL.v_liftTBa, DL.v_t3a, DL.v_t3b, DL.v_slD1, DL.v_slD2, DL.v_mutB, DL.v_mutBa, DL.v_mutBb, DL.v_mutBc, DL.v_elsB, DL.v_exitB, DL.v_mcl1, DL.v_mcl2, DL.v_mcl3, eq_self,
  Int.reduceLT, Int.reduceLE, Int.reduceEq, Int.reduceNe,  Int.reduceNeg, Int.reduceAdd, Int.reduceSub, Int.reduceMul,
  wipeD, List.getElem?_cons_zero, List.getElem?_cons_succ, List.set_cons_zero, List.set_cons_succ, List.map_cons, List.map_nil, List.length_map, List.length_range, List.length_reverse, List.length_append, List.length_cons, List.length_nil, List.cons_append, List.nil_append, List.append_nil,
  Nat.reduceAdd, Nat.reduceSub, Nat.reduceLeDiff, Nat.reduceEqDiff, Nat.reduceLT, reduceIte, ite_true, ite_false, if_true, if_false, Bool.false_eq_true, decide_true, decide_false, and_true, true_and, and_self, or_true, true_or, Option.map_some, Option.map_none, Option.bind_some, Bool.not_true, Bool.not_false, beq_self_eq_true, reduceCtorEq, or_false, false_or, and_false, false_and, $xs,*])

/-! ## what is drawn: a cell, words, a row's cuts -/
theorem cell_ok (ns : List Int) (n : Nat) (h2 : n < 1000000) : ∃ c, m__law_cell [.scr ns, .int (n : Int)] = .sh (.int c) := by
  have c1 : -18446744073709551616 < (n : Int) := by omega
  have c2 : (n : Int) < 18446744073709551616 := by omega
  unfold m__law_cell b__law_cell
  by_cases hk : (n : Int) < ns.length
  · have e : ns[n]? = some ns[n] := List.getElem?_eq_getElem (by omega)
    simp_arith [hk, at_nat, e]
    exact ⟨_, rfl⟩
  · cases ns with
    | nil =>
      have hk : ¬ (n : Int) < 0 := hk
      simp_arith [hk, c1, c2, Int.natCast_zero]
      exact ⟨_, rfl⟩
    | cons a r =>
      have hk : ¬ (n : Int) < ((r.length + 1 : Nat) : Int) := hk
      have hl : (0 : Int) < ((r.length + 1 : Nat) : Int) := by omega
      have c3 : -18446744073709551616 < (n : Int) + 3 := by omega
      have c4 : (n : Int) + 3 < 18446744073709551616 := by omega
      simp_arith [hk, c1, c2, c3, c4, hl]
      exact ⟨_, rfl⟩
/-- a word of the nets -/
def wordL (l : List Nat) : Prop := 1 ≤ l.length ∧ l.length ≤ 8 ∧ ∀ c ∈ l, 97 ≤ c ∧ c ≤ 122
theorem ch_ok {i : Int} (h0 : 0 ≤ i) (h1 : i < 26) : 97 ≤ ch i ∧ ch i ≤ 122 := by unfold ch; omega
theorem flat_rep (n a : Nat) : (List.replicate n [a]).flatten = List.replicate n a := by
  induction n with
  | zero => rfl
  | succ n ih => rw [List.replicate_succ, List.flatten_cons, ih, List.replicate_succ]; rfl
/-- words of one length, or of unlike lengths -/
def lenP {α : Type} (f : α → Nat) (ws : List α) : Prop := (∀ a ∈ ws, ∀ b ∈ ws, f a = f b) ∨ ∀ a ∈ ws, ∀ b ∈ ws, f a = f b → a = b
theorem words_ok2 (c : Int) (m : Nat) (hm : m ≤ 8 ∨ c % 3 ≠ 0) (hm2 : m ≤ 26) : ∃ ws : List (List Nat), m__law_words [.int c, .int (m : Int)] = .ow (.lst (ws.map fun l => .str (mk l))) ∧ ws.length = m ∧ ws.Nodup ∧ (∀ l ∈ ws, wordL l) ∧ lenP List.length ws := by
  unfold m__law_words b__law_words
  have r1 : -4611686018427387904 ≤ (m : Int) := by omega
  have r2 : (m : Int) < 4611686018427387904 := by omega
  have rl : m ≤ 16777216 := by omega
  have q : ∀ x : Int, 0 ≤ x % 26 ∧ x % 26 < 26 := fun x => by omega
  by_cases h3 : c % 3 = 0
  · simp_arith [h3, r1, r2, rangeD_eq, Int.toNat_natCast, List.length_range, rl]
    rw [lc_map (fun i : Nat => D.int (i : Int)) (fun i : Nat => D.str (mk (List.replicate (i + 1) (ch (c / 3 % 26)))))]
    · refine ⟨(List.range m).map fun i => List.replicate (i + 1) (ch (c / 3 % 26)), ?_, ?_, ?_, ?_, .inr ?_⟩
      · simp_arith [List.map_map]
        rfl
      · rw [List.length_map, List.length_range]
      · refine List.pairwise_map.mpr (List.Pairwise.imp (fun {a b} h e => h ?_) List.nodup_range)
        have := congrArg List.length e
        rw [List.length_replicate, List.length_replicate] at this
        omega
      · intro l hl
        obtain ⟨i, hi, rfl⟩ := List.mem_map.mp hl
        have hi := List.mem_range.mp hi
        refine ⟨by rw [List.length_replicate]; omega, by rw [List.length_replicate]; omega, fun x hx => ?_⟩
        rw [List.eq_of_mem_replicate hx]
        exact ch_ok (q _).1 (q _).2
      · intro a ha b hb e
        obtain ⟨i, _, rfl⟩ := List.mem_map.mp ha
        obtain ⟨j, _, rfl⟩ := List.mem_map.mp hb
        rw [List.length_replicate, List.length_replicate] at e
        rw [e]
    · intro i hi acc ds
      have hi := List.mem_range.mp hi
      have s1 : -9223372036854775808 ≤ (i : Int) + 1 := by omega
      have s2 : (i : Int) + 1 < 1000000 := by omega
      have s3 : (mk [ch (c / 3 % 26)]).length * (i + 1) ≤ 16777216 := by rw [mk_len, List.length_singleton]; omega
      simp_arith [ix_abc (q _).1 (q _).2, s1, s2, s3, mk_rep, flat_rep, s3, show ((i : Int) + 1).toNat = i + 1 by omega]
  · have z0 : 0 ≤ c / 3 % 8 := by omega
    have z1 : c / 3 % 8 < 8 := by omega
    generalize hs : c / 3 % 8 = z at z0 z1
    obtain ⟨s, rfl⟩ := Int.eq_ofNat_of_zero_le z0
    have a1 : -4611686018427387904 ≤ (s : Int) := by omega
    have a2 : (s : Int) < 4611686018427387904 := by omega
    have a3 : (0 : Int) < (s : Int) + 1 := by omega
    have a4 : s ≤ 16777216 := by omega
    have b0 : 0 ≤ c / 48 % ((s : Int) + 1) := Int.emod_nonneg _ (by omega)
    have b1 : c / 48 % ((s : Int) + 1) < (s : Int) + 1 := Int.emod_lt_of_pos _ (by omega)
    generalize ht : c / 48 % ((s : Int) + 1) = y at b0 b1
    obtain ⟨t, rfl⟩ := Int.eq_ofNat_of_zero_le b0
    have ht2 : t ≤ s := by omega
    simp_arith [h3, hs, r1, r2, a1, a2, a3, a4, rangeD_eq, Int.toNat_natCast, decide_false, Bool.false_eq_true]
    rw [lc_map (fun i : Nat => D.int (i : Int)) (fun i : Nat => D.str (mk [ch ((c / 24 + ((i : Int) + 1) * ((i : Int) + 5)) % 26)]))]
    · simp_arith [h3, hs, ht, r1, r2, a1, a2, a3, a4, rangeD_eq, Int.toNat_natCast, join_mk]
      generalize hw : (List.range s).map (fun i : Nat => ch ((c / 24 + ((i : Int) + 1) * ((i : Int) + 5)) % 26)) = st
      have hst : st.length = s := by rw [← hw, List.length_map, List.length_range]
      have hlt : ∀ x ∈ st, 97 ≤ x ∧ x ≤ 122 := fun x hx => by
        rw [← hw] at hx
        obtain ⟨i, _, rfl⟩ := List.mem_map.mp hx
        exact ch_ok (q _).1 (q _).2
      have f1 : (mk st).length ≤ 16777216 := by rw [mk_len]; omega
      rw [lc_map (fun i : Nat => D.int (i : Int)) (fun i : Nat => D.str (mk (st.take t ++ [ch ((c / 624 + 3 * (i : Int)) % 26)] ++ st.drop t)))]
      · refine ⟨(List.range m).map fun i : Nat => st.take t ++ [ch ((c / 624 + 3 * (i : Int)) % 26)] ++ st.drop t, ?_, ?_, ?_, ?_, .inl ?_⟩
        · simp_arith [List.map_map, rl]
          rfl
        · rw [List.length_map, List.length_range]
        · refine nodup_map_range m _ fun i j hi hj e => ?_
          have e1 := List.append_cancel_right e
          have e2 := List.append_cancel_left e1
          have e3 : ch ((c / 624 + 3 * (i : Int)) % 26) = ch ((c / 624 + 3 * (j : Int)) % 26) := by simpa using e2
          unfold ch at e3
          have := q (c / 624 + 3 * (i : Int))
          have := q (c / 624 + 3 * (j : Int))
          omega
        · intro l hl
          obtain ⟨i, hi, rfl⟩ := List.mem_map.mp hl
          refine ⟨by simp; omega, by simp; omega, fun x hx => ?_⟩
          rcases List.mem_append.mp hx with hx | hx
          · rcases List.mem_append.mp hx with hx | hx
            · exact hlt x (List.mem_of_mem_take hx)
            · rw [List.mem_singleton.mp hx]
              exact ch_ok (q _).1 (q _).2
          · exact hlt x (List.mem_of_mem_drop hx)
        · intro a ha b hb
          obtain ⟨i, _, rfl⟩ := List.mem_map.mp ha
          obtain ⟨j, _, rfl⟩ := List.mem_map.mp hb
          simp
      · intro i hi acc ds
        have hi := List.mem_range.mp hi
        have u1 : (mk (st.take t)).length + (mk [ch ((c / 624 + 3 * (i : Int)) % 26)]).length ≤ 16777216 := by rw [mk_len, mk_len, List.length_take, List.length_singleton]; omega
        have u2 : (mk (st.take t ++ [ch ((c / 624 + 3 * (i : Int)) % 26)])).length + (mk (st.drop t)).length ≤ 16777216 := by rw [mk_len, mk_len, List.length_append, List.length_take, List.length_drop, List.length_singleton]; omega
        simp_arith [f1, cut_lo, cut_hi, ix_abc (q _).1 (q _).2, mk_app, u1, u2]
    · intro i hi acc ds
      have hi := List.mem_range.mp hi
      have u3 : -18446744073709551616 < (i : Int) + 1 := by omega
      have u4 : (i : Int) + 1 < 18446744073709551616 := by omega
      simp_arith [ix_abc (q _).1 (q _).2, u3, u4]
theorem words_ok (c : Int) (m : Nat) (hm : m ≤ 8 ∨ c % 3 ≠ 0) (hm2 : m ≤ 26) : ∃ ws : List (List Nat), m__law_words [.int c, .int (m : Int)] = .ow (.lst (ws.map fun l => .str (mk l))) ∧ ws.length = m ∧ ws.Nodup ∧ ∀ l ∈ ws, wordL l := by
  obtain ⟨ws, a, b, d, e, _⟩ := words_ok2 c m hm hm2
  exact ⟨ws, a, b, d, e⟩
/-- a row of a table: numbers from 0 that come to many -/
def rowOk (size : Nat) (many : Int) (r : List Int) : Prop := r.length = size ∧ r.sum = many ∧ ∀ x ∈ r, 0 ≤ x
/-! ## a row's shape -/
def wordS (z : Str) : Prop := wordL z.cps.toList
theorem words_str2 (c : Int) (m : Nat) (hm : m ≤ 8 ∨ c % 3 ≠ 0) (hm2 : m ≤ 26) : ∃ ws : List Str, m__law_words [.int c, .int (m : Int)] = .ow (.lst (ws.map .str)) ∧ ws.length = m ∧ ws.Nodup ∧ (∀ l ∈ ws, wordS l) ∧ lenP Str.length ws := by
  obtain ⟨ws, e, h1, h2, h3, h4⟩ := words_ok2 c m hm hm2
  refine ⟨ws.map mk, by rw [e, List.map_map]; rfl, by rw [List.length_map, h1], nodup_map h2 fun a _ b _ h => mk_inj h, fun l hl => ?_, ?_⟩
  · obtain ⟨x, hx, rfl⟩ := List.mem_map.mp hl
    unfold wordS
    rw [mk_list]
    exact h3 x hx
  · rcases h4 with h4 | h4
    · refine .inl fun a ha b hb => ?_
      obtain ⟨x, hx, rfl⟩ := List.mem_map.mp ha
      obtain ⟨y, hy, rfl⟩ := List.mem_map.mp hb
      rw [mk_len, mk_len]
      exact h4 x hx y hy
    · refine .inr fun a ha b hb e => ?_
      obtain ⟨x, hx, rfl⟩ := List.mem_map.mp ha
      obtain ⟨y, hy, rfl⟩ := List.mem_map.mp hb
      rw [mk_len, mk_len] at e
      rw [h4 x hx y hy e]
theorem words_str (c : Int) (m : Nat) (hm : m ≤ 8 ∨ c % 3 ≠ 0) (hm2 : m ≤ 26) : ∃ ws : List Str, m__law_words [.int c, .int (m : Int)] = .ow (.lst (ws.map .str)) ∧ ws.length = m ∧ ws.Nodup ∧ ∀ l ∈ ws, wordS l := by
  obtain ⟨ws, a, b, d, e, _⟩ := words_str2 c m hm hm2
  exact ⟨ws, a, b, d, e⟩
theorem six_ok (x : Int) : ∃ v : Int, atI [D.int 0, D.int 0, D.int 1, D.int 0, D.int 2, D.int 0] (x % 6) = some (.int v) ∧ 0 ≤ v ∧ v ≤ 2 := by
  have h : x % 6 = 0 ∨ x % 6 = 1 ∨ x % 6 = 2 ∨ x % 6 = 3 ∨ x % 6 = 4 ∨ x % 6 = 5 := by omega
  rcases h with e | e | e | e | e | e <;> rw [e]
  · exact ⟨_, at_0, by decide, by decide⟩
  · exact ⟨_, at_1, by decide, by decide⟩
  · exact ⟨_, at_2, by decide, by decide⟩
  · exact ⟨_, at_3, by decide, by decide⟩
  · exact ⟨_, at_4, by decide, by decide⟩
  · exact ⟨_, at_5, by decide, by decide⟩
theorem four_ok (a b c d x : Int) : ∃ v : Int, atI [D.int a, D.int b, D.int c, D.int d] (x % 4) = some (.int v) := by
  have h : x % 4 = 0 ∨ x % 4 = 1 ∨ x % 4 = 2 ∨ x % 4 = 3 := by omega
  rcases h with e | e | e | e <;> rw [e]
  · exact ⟨_, at_0⟩
  · exact ⟨_, at_1⟩
  · exact ⟨_, at_2⟩
  · exact ⟨_, at_3⟩
theorem many_ok (x : Int) : ∃ v : Int, atI [D.int 6, D.int (10 ^ (9 : Int).toNat)] (x % 2) = some (.int v) ∧ 0 < v ∧ v ≤ 1000000000 := by
  have h : x % 2 = 0 ∨ x % 2 = 1 := by omega
  rcases h with e | e <;> rw [e]
  · exact ⟨_, at_0, by decide, by decide⟩
  · exact ⟨_, at_1, by decide, by decide⟩
/-! ## a word that is none of some -/
theorem nodup_sub {α : Type} [DecidableEq α] : ∀ {l m : List α}, l.Nodup → (∀ x ∈ l, x ∈ m) → l.length ≤ m.length
  | [], m, _, _ => Nat.zero_le _
  | x :: l, m, h, hs => by
    obtain ⟨h1, h2⟩ := List.nodup_cons.mp h
    have hx := hs x (List.mem_cons_self ..)
    have := nodup_sub (l := l) (m := m.erase x) h2 fun y hy => by
      have hne : y ≠ x := fun e => h1 (e ▸ hy)
      exact (List.mem_erase_of_ne hne).mpr (hs y (List.mem_cons_of_mem _ hy))
    have e := List.length_erase_of_mem hx
    have : 0 < m.length := List.length_pos_of_mem hx
    rw [List.length_cons]
    omega
theorem at_neg1 {α : Type} (xs : List α) (x : α) : atI (xs ++ [x]) (-1) = some x := by
  unfold atI ixN
  rw [if_neg (by decide)]
  have h : (0 : Int) ≤ ((xs ++ [x]).length : Int) + -1 := by rw [List.length_append, List.length_singleton]; omega
  rw [if_pos (by rw [List.length_append, List.length_singleton] at *; omega)]
  have e : (((xs ++ [x]).length : Int) + -1).toNat = xs.length := by rw [List.length_append, List.length_singleton]; omega
  first
  | (show (xs ++ [x])[(((xs ++ [x]).length : Int) + -1).toNat]? = some x
     rw [e, List.getElem?_append_right (Nat.le_refl _), Nat.sub_self]
     rfl)
  | simp
theorem cutS_len (z : Str) (lo hi : Option Int) : (cutS z lo hi).length ≤ z.length := by
  have h := mk_cut z.cps.toList lo hi
  rw [mk_eta] at h
  rw [h, mk_len, List.length_take, List.length_drop]
  have : z.length = z.cps.toList.length := by rw [← mk_len, mk_eta]
  omega
def fixedS : List Str := ["a", "b", "c", "q", "ab", "qq", "zz", "xyz"]
def cands (x y : Str) : List Str := (cutS x none (some 7) ++ ("q" : Str)) :: (cutS y none (some 7) ++ ("z" : Str)) :: (cutS x none (some (-1)) ++ ("b" : Str)) :: fixedS
theorem fixedS_nodup : fixedS.Nodup := by decide +kernel
theorem fixed_few {ns : List Str} (h : ns.length ≤ 7) : ∃ w ∈ fixedS, w ∉ ns := by
  refine Classical.byContradiction fun z => ?_
  have := nodup_sub fixedS_nodup (m := ns) fun x hx => Classical.byContradiction fun q => z ⟨x, hx, q⟩
  have e : fixedS.length = 8 := rfl
  omega
theorem fixed_lenP {ns : List Str} (h : lenP Str.length ns) : ∃ w ∈ fixedS, w ∉ ns := by
  refine Classical.byContradiction fun z => ?_
  have all : ∀ w ∈ fixedS, w ∈ ns := fun w hw => Classical.byContradiction fun q => z ⟨w, hw, q⟩
  have a := all "a" (by unfold fixedS; simp)
  have b := all "b" (by unfold fixedS; simp)
  have ab := all "ab" (by unfold fixedS; simp)
  rcases h with h | h
  · exact absurd (h _ a _ ab) (by decide +kernel)
  · exact absurd (h _ a _ b (by decide +kernel)) (by decide +kernel)
theorem strOk_mem {x : Str} : PyData.strOk x = true ↔ ∀ c ∈ x.cps.toList, c < 0x110000 := by
  unfold PyData.strOk
  rw [Array.all_eq_true']
  exact ⟨fun h c hc => of_decide_eq_true (h c (Array.mem_def.mpr hc)), fun h c hc => decide_eq_true (h c (Array.mem_def.mp hc))⟩
theorem strOk_app {a b : Str} (ha : PyData.strOk a = true) (hb : PyData.strOk b = true) : PyData.strOk (a ++ b) = true := by
  rw [strOk_mem] at ha hb ⊢
  intro c hc
  have : (a ++ b).cps.toList = a.cps.toList ++ b.cps.toList := by show (a.cps ++ b.cps).toList = _; simp
  rw [this] at hc
  rcases List.mem_append.mp hc with hc | hc
  · exact ha c hc
  · exact hb c hc
theorem strOk_cut {z : Str} (h : PyData.strOk z = true) (lo hi : Option Int) : PyData.strOk (cutS z lo hi) = true := by
  rw [strOk_mem] at h ⊢
  intro c hc
  have e := mk_cut z.cps.toList lo hi
  rw [mk_eta] at e
  rw [e, mk_list] at hc
  exact h c (List.mem_of_mem_drop (List.mem_of_mem_take hc))
theorem strOk_cands {x y w : Str} (hx : PyData.strOk x = true) (hy : PyData.strOk y = true) (h : w ∈ cands x y) : PyData.strOk w = true := by
  unfold cands at h
  rcases List.mem_cons.mp h with rfl | h
  · exact strOk_app (strOk_cut hx _ _) (by decide +kernel)
  rcases List.mem_cons.mp h with rfl | h
  · exact strOk_app (strOk_cut hy _ _) (by decide +kernel)
  rcases List.mem_cons.mp h with rfl | h
  · exact strOk_app (strOk_cut hx _ _) (by decide +kernel)
  have : ∀ z ∈ fixedS, PyData.strOk z = true := by decide +kernel
  exact this w h

/-! ## lines -/
abbrev Line := Str × List Str
def lineD (l : Line) : D := .tup [.str l.1, .tup (l.2.map .str)]
def linesD (ls : List Line) : D := .tup (ls.map lineD)
def elT (el : List Str) : D := .tup (el.map .str)
structure LnOk (ls : List Line) : Prop where
  nd : (ls.map (·.1)).Nodup
  len : ls.length ≤ 1000
  el : ∀ l ∈ ls, l.2.length ≤ 1000
theorem putA_new {α : Type} {m : List (Str × α)} {x : Str} {v : α} (h : x ∉ m.map (·.1)) : putA' m x v = m ++ [(x, v)] := by
  unfold putA'
  rw [if_neg]
  intro z
  obtain ⟨q, hq, e⟩ := List.any_eq_true.mp z
  exact h (List.mem_map.mpr ⟨q, hq, of_decide_eq_true e⟩)
theorem elders_loop (x0 : Sl) : ∀ (rest pre : List Line) (s2 s3 : Sl), ((pre ++ rest).map (·.1)).Nodup → (pre ++ rest).length ≤ 100000 →
    ∃ s2' s3', forL (gUn 2 (gsCons (gNm 2) (gsCons (gNm 3) gsNil))) l_elders_in_1 (rest.map lineD) [x0, .ow (.dct (encA elT pre)), s2, s3] = .nx [x0, .ow (.dct (encA elT (pre ++ rest))), s2', s3']
  | [], pre, s2, s3, _, _ => ⟨s2, s3, by rw [List.append_nil]; rfl⟩
  | l :: rest, pre, s2, s3, hn, hl => by
    have hnew : l.1 ∉ pre.map (·.1) := fun z => by
      rw [List.map_append, List.map_cons] at hn
      exact (List.nodup_append.mp hn).2.2 _ z _ (List.mem_cons_self ..) rfl
    obtain ⟨a, b, ih⟩ := elders_loop x0 rest (pre ++ [l]) (.sh (.str l.1)) (.sh (elT l.2)) (by rw [List.append_assoc]; exact hn) (by rw [List.append_assoc]; exact hl)
    have e : putD (encA elT pre) (.inr l.1) (elT l.2) = encA elT (pre ++ [l]) := by rw [putD_enc, putA_new hnew]
    have el : (encA elT pre).length < 16777216 := by rw [encA_len]; rw [List.length_append] at hl; omega
    refine ⟨a, b, ?_⟩
    rw [List.append_assoc] at ih
    rw [show pre ++ l :: rest = pre ++ ([l] ++ rest) from rfl, ← ih, List.map_cons]
    unfold elT at e el
    unfold lineD elT
    simp_arith [u_elders_in_1, e, el]
theorem elders_in_ok {ls : List Line} (h : LnOk ls) : m_elders_in [linesD ls] = .ow (.dct (encA elT ls)) := by
  obtain ⟨a, b, e⟩ := elders_loop (.sh (linesD ls)) ls [] .un .un (by rw [List.nil_append]; exact h.nd) (by rw [List.nil_append]; have := h.len; omega)
  rw [List.nil_append, show encA elT ([] : List Line) = [] from rfl] at e
  unfold linesD at *
  unfold m_elders_in b_elders_in
  simp_arith [e]
theorem look_for_ok {ls : List Line} (h : LnOk ls) {xs : List Str} (hx : ∀ x ∈ xs, x ∈ ls.map (·.1)) : m_look_for [linesD ls, .lst (xs.map .str)] = .sh .non := by
  have ei := elders_in_ok h
  obtain ⟨ρ', ⟨s1, e⟩, hf⟩ := forL_nx (g := gNm 3) (b := l_look_for_1) D.str (fun rem ρ => (∀ p ∈ rem, p ∈ ls.map (·.1)) ∧ ∃ s1, ρ = [.sh (linesD ls), .sh (.lst (xs.map .str)), .ow (.dct (encA elT ls)), s1]) (fun p rem ρ ⟨hr, s1, e⟩ => by
    subst e
    refine ⟨_, ⟨fun y hy => hr y (List.mem_cons_of_mem _ hy), .sh (.str p), rfl⟩, fun ds => ?_⟩
    have hi := in_dctA elT ls p
    rw [decide_eq_true (hr p (List.mem_cons_self ..))] at hi
    simp_arith [u_look_for_1, hi]) xs [.sh (linesD ls), .sh (.lst (xs.map .str)), .ow (.dct (encA elT ls)), .un] ⟨hx, .un, rfl⟩
  obtain ⟨s1, e⟩ := e
  subst e
  unfold m_look_for b_look_for
  simp_arith [ei, hf]
theorem look_for_bad {ls : List Line} (h : LnOk ls) {xs : List Str} (hx : ∃ x ∈ xs, x ∉ ls.map (·.1)) : m_look_for [linesD ls, .lst (xs.map .str)] = .xc "NoName" := by
  have ei := elders_in_ok h
  rcases forL_ex (g := gNm 3) (b := l_look_for_1) D.str (fun rem ρ => (∃ x ∈ rem, x ∉ ls.map (·.1)) ∧ ∃ s1, ρ = [.sh (linesD ls), .sh (.lst (xs.map .str)), .ow (.dct (encA elT ls)), s1]) (fun r => ∃ ρ', r = .xc "NoName" ρ') (fun p rem ρ ⟨hr, s1, e⟩ => by
    subst e
    have hi := in_dctA elT ls p
    by_cases q : p ∈ ls.map (·.1)
    · rw [decide_eq_true q] at hi
      refine .inl ⟨_, ⟨?_, .sh (.str p), rfl⟩, fun ds => ?_⟩
      · obtain ⟨y, hy, hn⟩ := hr
        rcases List.mem_cons.mp hy with rfl | hy
        · exact absurd q hn
        · exact ⟨y, hy, hn⟩
      · simp_arith [u_look_for_1, hi]
    · rw [decide_eq_false q] at hi
      exact .inr ⟨_, ⟨_, rfl⟩, fun ds => by simp_arith [u_look_for_1, hi]; rfl⟩) xs [.sh (linesD ls), .sh (.lst (xs.map .str)), .ow (.dct (encA elT ls)), .un] ⟨hx, .un, rfl⟩ with ⟨ρ', ⟨⟨x, hx, _⟩, _⟩, _⟩ | ⟨r, ⟨ρ', rfl⟩, hf⟩
  · cases hx
  · unfold m_look_for b_look_for
    simp_arith [ei, hf]
def cutL (ls : List Line) (x : Str) : List Line := ls.map fun l => (l.1, l.2.filter fun y => !decide (y = x))
theorem cutL_nm (ls : List Line) (x : Str) : (cutL ls x).map (·.1) = ls.map (·.1) := by unfold cutL; rw [List.map_map]; rfl
theorem LnOk.cut {ls : List Line} (h : LnOk ls) (x : Str) : LnOk (cutL ls x) := ⟨by rw [cutL_nm]; exact h.nd, by unfold cutL; rw [List.length_map]; exact h.len, fun l hl => by
  obtain ⟨y, hy, rfl⟩ := List.mem_map.mp hl
  exact Nat.le_trans (List.length_filter_le _ _) (h.el y hy)⟩
/-! ## above and below -/
/-- each elder stands ahead -/
def Topo (ls : List Line) : Prop := ∀ pre l post, ls = pre ++ l :: post → ∀ z ∈ l.2, z ∈ pre.map (·.1)
/-- x is above y: y itself, an elder of one that .. -/
inductive Up (ls : List Line) (x : Str) : Str → Prop
  | refl : Up ls x x
  | step {y z : Str} {el : List Str} : (y, el) ∈ ls → z ∈ el → Up ls x z → Up ls x y
theorem Up.trans {ls : List Line} {x y z : Str} (a : Up ls x y) (b : Up ls y z) : Up ls x z := by
  induction b with
  | refl => exact a
  | step h hz _ ih => exact .step h hz ih
theorem Up.one {ls : List Line} {y z : Str} {el : List Str} (h : (y, el) ∈ ls) (hz : z ∈ el) : Up ls z y := .step h hz .refl
theorem Topo.nil : Topo [] := fun pre l post e => by
  have := congrArg List.length e
  simp at this
theorem Topo.snoc {ls : List Line} {l : Line} (h : Topo ls) (hl : ∀ z ∈ l.2, z ∈ ls.map (·.1)) : Topo (ls ++ [l]) := fun p x q e => by
  rcases List.eq_nil_or_concat q with rfl | ⟨q', y, rfl⟩
  · have h2 := List.append_inj' e rfl
    obtain ⟨rfl, h3⟩ := h2
    cases h3
    exact hl
  · rw [show p ++ x :: (q'.concat y) = (p ++ x :: q') ++ [y] by simp] at e
    obtain ⟨h2, _⟩ := List.append_inj' e rfl
    exact h p x q' h2
theorem Topo.pre {a b : List Line} (h : Topo (a ++ b)) : Topo a := fun p x q e => h p x (q ++ b) (by rw [e]; simp)
/-- the marks on the way up -/
def markUp (M : List Str) : List Line → List Str
  | [] => M
  | l :: r => markUp (if l.1 ∈ M then l.2.foldl insM M else M) r
theorem mem_foldM {y : Str} : ∀ (el M : List Str), y ∈ el.foldl insM M ↔ y ∈ M ∨ y ∈ el
  | [], M => by simp
  | z :: el, M => by
    rw [List.foldl_cons, mem_foldM el, mem_insM, List.mem_cons]
    constructor
    · rintro ((h | h) | h)
      · exact .inl h
      · exact .inr (.inl h)
      · exact .inr (.inr h)
    · rintro (h | h | h)
      · exact .inl (.inl h)
      · exact .inl (.inr h)
      · exact .inr h
theorem markUp_sub {y : Str} : ∀ (r : List Line) (M : List Str), y ∈ M → y ∈ markUp M r
  | [], M, h => h
  | l :: r, M, h => by
    unfold markUp
    refine markUp_sub r _ ?_
    split
    · exact (mem_foldM _ _).mpr (.inl h)
    · exact h
theorem markUp_sound {ls : List Line} {N : List Str} : ∀ (r : List Line) (M : List Str), (∀ l ∈ r, l ∈ ls) → (∀ x ∈ M, ∃ y ∈ N, Up ls x y) → ∀ x ∈ markUp M r, ∃ y ∈ N, Up ls x y
  | [], M, _, h, x, hx => h x hx
  | l :: r, M, hr, h, x, hx => by
    unfold markUp at hx
    refine markUp_sound r _ (fun y hy => hr y (List.mem_cons_of_mem _ hy)) (fun y hy => ?_) x hx
    split at hy
    · rename_i q
      rcases (mem_foldM _ _).mp hy with hy | hy
      · exact h y hy
      · obtain ⟨t, ht, u⟩ := h l.1 q
        exact ⟨t, ht, (Up.one (hr l (List.mem_cons_self ..)) hy).trans u⟩
    · exact h y hy
/-- what is marked on the way through r stands ahead of r's lines -/
theorem markUp_new {x : Str} : ∀ (r : List Line) (M : List Str), x ∈ markUp M r → x ∈ M ∨ ∃ l ∈ r, x ∈ l.2
  | [], M, h => .inl h
  | l :: r, M, h => by
    unfold markUp at h
    rcases markUp_new r _ h with h | ⟨t, ht, q⟩
    · split at h
      · rcases (mem_foldM _ _).mp h with h | h
        · exact .inl h
        · exact .inr ⟨l, List.mem_cons_self .., h⟩
      · exact .inl h
    · exact .inr ⟨t, List.mem_cons_of_mem _ ht, q⟩
/-- closed: whoever is marked has its elders marked -/
theorem markUp_closed {ls : List Line} (nd : (ls.map (·.1)).Nodup) (tp : Topo ls) : ∀ (pre post : List Line) (M : List Str), ls = pre ++ post → ∀ l ∈ pre, l.1 ∈ markUp M pre.reverse → ∀ z ∈ l.2, z ∈ markUp M pre.reverse := by
  intro pre
  induction hn : pre.length generalizing pre with
  | zero =>
    intro post M e l hl
    have : pre = [] := List.length_eq_zero_iff.mp hn
    rw [this] at hl
    cases hl
  | succ n ih =>
    intro post M e l hl hm z hz
    obtain ⟨pre', t, rfl⟩ : ∃ pre' t, pre = pre' ++ [t] := by
      rcases List.eq_nil_or_concat pre with rfl | ⟨p, t, rfl⟩
      · cases hn
      · exact ⟨p, t, by simp⟩
    rw [List.reverse_append, List.reverse_cons, List.reverse_nil, List.nil_append, List.singleton_append] at hm ⊢
    unfold markUp at hm ⊢
    have e' : ls = pre' ++ t :: post := by rw [e]; simp
    have hlen : pre'.length = n := by rw [List.length_append] at hn; simpa using hn
    rcases List.mem_append.mp hl with hl | hl
    · exact ih pre' hlen (t :: post) _ e' l hl hm z hz
    · have hlt : l = t := List.mem_singleton.mp hl
      subst hlt
      -- l's name is not marked by what stands ahead of it
      rcases markUp_new _ _ hm with h | ⟨s, hs, q⟩
      · have hM : l.1 ∈ M := by
          split at h
          · rename_i q; exact q
          · exact h
        rw [if_pos hM]
        exact markUp_sub _ _ ((mem_foldM _ _).mpr (.inr hz))
      · exfalso
        obtain ⟨a, b, hab⟩ := List.append_of_mem (List.mem_reverse.mp hs)
        have h1 := tp a s (b ++ l :: post) (by rw [e', hab]; simp) _ q
        have h2 : l.1 ∈ pre'.map (·.1) := by rw [hab, List.map_append]; exact List.mem_append_left _ h1
        rw [e', List.map_append, List.map_cons] at nd
        exact (List.nodup_append.mp nd).2.2 _ h2 _ (List.mem_cons_self ..) rfl
theorem mem_markUp {ls : List Line} (nd : (ls.map (·.1)).Nodup) (tp : Topo ls) (N : List Str) (x : Str) : x ∈ markUp N ls.reverse ↔ ∃ y ∈ N, Up ls x y := by
  constructor
  · exact markUp_sound ls.reverse N (fun l h => List.mem_reverse.mp h) (fun y hy => ⟨y, hy, .refl⟩) x
  · rintro ⟨y, hy, u⟩
    have h0 : y ∈ markUp N ls.reverse := markUp_sub _ _ hy
    clear hy
    induction u with
    | refl => exact h0
    | step h hz _ ih => exact ih (markUp_closed nd tp ls [] N (by simp) _ h h0 _ hz)
/-- the marks on the way down -/
def markDown (M : List Str) : List Line → List Str
  | [] => M
  | l :: r => markDown (if l.2.any (fun z => decide (z ∈ M)) then insM M l.1 else M) r
theorem markDown_sub {y : Str} : ∀ (r : List Line) (M : List Str), y ∈ M → y ∈ markDown M r
  | [], M, h => h
  | l :: r, M, h => by
    unfold markDown
    refine markDown_sub r _ ?_
    split
    · exact mem_insM.mpr (.inl h)
    · exact h
theorem markDown_new {x : Str} : ∀ (r : List Line) (M : List Str), x ∈ markDown M r → x ∈ M ∨ x ∈ r.map (·.1)
  | [], M, h => .inl h
  | l :: r, M, h => by
    unfold markDown at h
    rcases markDown_new r _ h with h | h
    · split at h
      · rcases mem_insM.mp h with h | h
        · exact .inl h
        · exact .inr (by rw [h]; exact List.mem_cons_self ..)
      · exact .inl h
    · exact .inr (List.mem_cons_of_mem _ h)
theorem markDown_sound {ls : List Line} {x : Str} : ∀ (r : List Line) (M : List Str), (∀ l ∈ r, l ∈ ls) → (∀ y ∈ M, Up ls x y) → ∀ y ∈ markDown M r, Up ls x y
  | [], M, _, h, y, hy => h y hy
  | l :: r, M, hr, h, y, hy => by
    unfold markDown at hy
    refine markDown_sound r _ (fun y hy => hr y (List.mem_cons_of_mem _ hy)) (fun t ht => ?_) y hy
    split at ht
    · rename_i q
      rcases mem_insM.mp ht with ht | ht
      · exact h t ht
      · obtain ⟨z, hz, hm⟩ := List.any_eq_true.mp q
        subst ht
        exact .step (hr l (List.mem_cons_self ..)) hz (h z (of_decide_eq_true hm))
    · exact h t ht
theorem markDown_app (M : List Str) : ∀ (a b : List Line), markDown M (a ++ b) = markDown (markDown M a) b := by
  intro a
  induction a generalizing M with
  | nil => intro b; rfl
  | cons l a ih => intro b; exact ih _ b
theorem mem_markDown {ls : List Line} (nd : (ls.map (·.1)).Nodup) (tp : Topo ls) (x y : Str) : y ∈ markDown [x] ls ↔ Up ls x y := by
  constructor
  · exact markDown_sound ls [x] (fun l h => h) (fun t ht => by rw [List.mem_singleton.mp ht]; exact .refl) y
  · intro u
    induction u with
    | refl => exact markDown_sub _ _ (List.mem_singleton.mpr rfl)
    | @step t z el h hz _ ih =>
      obtain ⟨a, b, hab⟩ := List.append_of_mem h
      have hza := tp a (t, el) b hab z hz
      -- z was marked ahead of t's line
      have hz2 : z ∈ markDown [x] a := by
        rw [hab, markDown_app] at ih
        rcases markDown_new _ _ ih with q | q
        · exact q
        · exfalso
          rw [hab, List.map_append] at nd
          exact (List.nodup_append.mp nd).2.2 _ hza _ q rfl
      rw [hab, markDown_app]
      unfold markDown
      rw [if_pos (List.any_eq_true.mpr ⟨z, hz, decide_eq_true hz2⟩)]
      exact markDown_sub _ _ (mem_insM.mpr (.inr rfl))
def aboveS (ls : List Line) (N : List Str) : List Str := (ls.map (·.1)).filter fun x => decide (x ∈ markUp N ls.reverse)
def belowS (ls : List Line) (x : Str) : List Str := (ls.map (·.1)).filter fun y => decide (y ∈ markDown [x] ls)
theorem Up.names {ls : List Line} (tp : Topo ls) {x y : Str} (u : Up ls x y) (hy : y ∈ ls.map (·.1)) : x ∈ ls.map (·.1) := by
  induction u with
  | refl => exact hy
  | step h hz _ ih =>
    refine ih ?_
    obtain ⟨a, b, e⟩ := List.append_of_mem h
    have := tp a _ b e _ hz
    rw [e, List.map_append]
    exact List.mem_append_left _ this
theorem mem_above {ls : List Line} (nd : (ls.map (·.1)).Nodup) (tp : Topo ls) {N : List Str} (hN : ∀ y ∈ N, y ∈ ls.map (·.1)) (x : Str) : x ∈ aboveS ls N ↔ ∃ y ∈ N, Up ls x y := by
  unfold aboveS
  rw [List.mem_filter, decide_eq_true_eq, mem_markUp nd tp]
  exact ⟨fun h => h.2, fun ⟨y, hy, u⟩ => ⟨u.names tp (hN y hy), y, hy, u⟩⟩
theorem mem_below {ls : List Line} (nd : (ls.map (·.1)).Nodup) (tp : Topo ls) (x y : Str) : y ∈ belowS ls x ↔ y ∈ ls.map (·.1) ∧ Up ls x y := by
  unfold belowS
  rw [List.mem_filter, decide_eq_true_eq, mem_markDown nd tp]

/-! ## above, below: what the program tells -/
theorem mark_loop (x0 x1 x4 x5 : Sl) (h1 : True) : ∀ (xs M : List Str) (s3 : Sl), M.length + xs.length ≤ 100000 → ∃ s3', forL (gNm 3) l_above_1 (xs.map .str) [x0, x1, .ow (.dct (encM M)), s3, x4, x5] = .nx [x0, x1, .ow (.dct (encM (xs.foldl insM M))), s3', x4, x5]
  | [], M, s3, _ => ⟨s3, rfl⟩
  | x :: xs, M, s3, hl => by
    have hl0 : M.length + (xs.length + 1) ≤ 100000 := hl
    obtain ⟨s', ih⟩ := mark_loop x0 x1 x4 x5 h1 xs (insM M x) (.sh (.str x)) (by have := insM_len M x; omega)
    refine ⟨s', ?_⟩
    have el : (encM M).length < 16777216 := by rw [encM_len]; omega
    have pd := putD_mark M x
    rw [List.foldl_cons, ← ih, List.map_cons]
    simp_arith [u_above_1, el, pd]
theorem mark_loop2 (x0 x1 x3 x4 : Sl) : ∀ (xs M : List Str) (s5 : Sl), M.length + xs.length ≤ 100000 → ∃ s5', forL (gNm 5) l_above_2 (xs.map .str) [x0, x1, .ow (.dct (encM M)), x3, x4, s5] = .nx [x0, x1, .ow (.dct (encM (xs.foldl insM M))), x3, x4, s5']
  | [], M, s5, _ => ⟨s5, rfl⟩
  | x :: xs, M, s5, hl => by
    have hl0 : M.length + (xs.length + 1) ≤ 100000 := hl
    obtain ⟨s', ih⟩ := mark_loop2 x0 x1 x3 x4 xs (insM M x) (.sh (.str x)) (by have := insM_len M x; omega)
    refine ⟨s', ?_⟩
    have el : (encM M).length < 16777216 := by rw [encM_len]; omega
    have pd := putD_mark M x
    rw [List.foldl_cons, ← ih, List.map_cons]
    simp_arith [u_above_2, el, pd]
theorem foldM_len : ∀ (xs M : List Str), (xs.foldl insM M).length ≤ M.length + xs.length
  | [], M => Nat.le_refl _
  | x :: xs, M => by
    have := foldM_len xs (insM M x)
    have := insM_len M x
    rw [List.foldl_cons, List.length_cons]
    omega
theorem up_loop (x0 x1 : Sl) : ∀ (r : List Line) (M : List Str) (s3 s4 s5 : Sl), (∀ l ∈ r, l.2.length ≤ 10) → M.length + 10 * r.length ≤ 90000 →
    ∃ s3' s4' s5', forL (gUn 2 (gsCons (gNm 3) (gsCons (gNm 4) gsNil))) l_above_3 (r.map lineD) [x0, x1, .ow (.dct (encM M)), s3, s4, s5] = .nx [x0, x1, .ow (.dct (encM (markUp M r))), s3', s4', s5']
  | [], M, s3, s4, s5, _, _ => ⟨s3, s4, s5, rfl⟩
  | l :: r, M, s3, s4, s5, hr, hl => by
    have hl0 : M.length + 10 * (r.length + 1) ≤ 90000 := hl
    have h10 := hr l (List.mem_cons_self ..)
    have hi := in_dctM M l.1
    rw [List.map_cons]
    by_cases q : l.1 ∈ M
    · rw [decide_eq_true q] at hi
      obtain ⟨s', h1⟩ := mark_loop2 x0 x1 (.sh (.str l.1)) (.sh (.tup (l.2.map .str))) l.2 M s5 (by omega)
      obtain ⟨a, b, c, ih⟩ := up_loop x0 x1 r (l.2.foldl insM M) (.sh (.str l.1)) (.sh (.tup (l.2.map .str))) s' (fun y hy => hr y (List.mem_cons_of_mem _ hy)) (by have := foldM_len l.2 M; omega)
      refine ⟨a, b, c, ?_⟩
      rw [show markUp M (l :: r) = markUp (l.2.foldl insM M) r by show markUp (if l.1 ∈ M then _ else _) r = _; rw [if_pos q], ← ih]
      unfold lineD
      simp_arith [u_above_3, hi, h1]
    · rw [decide_eq_false q] at hi
      obtain ⟨a, b, c, ih⟩ := up_loop x0 x1 r M (.sh (.str l.1)) (.sh (.tup (l.2.map .str))) s5 (fun y hy => hr y (List.mem_cons_of_mem _ hy)) (by omega)
      refine ⟨a, b, c, ?_⟩
      rw [show markUp M (l :: r) = markUp M r by show markUp (if l.1 ∈ M then _ else _) r = _; rw [if_neg q], ← ih]
      unfold lineD
      simp_arith [u_above_3, hi]
/-- lines as the laws draw them -/
structure LnB (ls : List Line) : Prop where
  ok : LnOk ls
  tp : Topo ls
  len : ls.length ≤ 100
  el : ∀ l ∈ ls, l.2.length ≤ 10
theorem markUp_len : ∀ (r : List Line) (M : List Str), (∀ l ∈ r, l.2.length ≤ 10) → (markUp M r).length ≤ M.length + 10 * r.length
  | [], M, _ => Nat.le_refl _
  | l :: r, M, h => by
    have h1 := h l (List.mem_cons_self ..)
    have h2 := foldM_len l.2 M
    unfold markUp
    split
    · have := markUp_len r (l.2.foldl insM M) fun y hy => h y (List.mem_cons_of_mem _ hy)
      rw [List.length_cons]; omega
    · have := markUp_len r M fun y hy => h y (List.mem_cons_of_mem _ hy)
      rw [List.length_cons]; omega
/-- a set of marks: only its members count -/
theorem markUp_congr : ∀ (r : List Line) (M N : List Str), (∀ x, x ∈ M ↔ x ∈ N) → ∀ x, x ∈ markUp M r ↔ x ∈ markUp N r
  | [], M, N, h, x => h x
  | l :: r, M, N, h, x => by
    unfold markUp
    refine markUp_congr r _ _ (fun y => ?_) x
    by_cases q : l.1 ∈ M
    · rw [if_pos q, if_pos ((h _).mp q), mem_foldM, mem_foldM, h]
    · rw [if_neg q, if_neg fun z => q ((h _).mpr z)]
      exact h y
theorem aboveS_congr {ls : List Line} {M N : List Str} (h : ∀ x, x ∈ M ↔ x ∈ N) : aboveS ls M = aboveS ls N := by
  unfold aboveS
  congr 1
  funext x
  rw [decide_eq_decide]
  exact markUp_congr _ _ _ h x
theorem above_ok {ls : List Line} (h : LnB ls) {N : List Str} (hN : ∀ y ∈ N, y ∈ ls.map (·.1)) (hl : N.length ≤ 1000) : m_above [linesD ls, .lst (N.map .str)] = .ow (.lst ((aboveS ls N).map .str)) := by
  have lf := look_for_ok h.ok hN
  obtain ⟨s3, h1⟩ := mark_loop (.sh (linesD ls)) (.sh (.lst (N.map .str))) .un .un trivial N [] .un (by simp; omega)
  have cg : ∀ x, x ∈ N.foldl insM [] ↔ x ∈ N := fun x => by rw [mem_foldM]; simp
  have ln := foldM_len N []
  have len := h.len
  obtain ⟨a, b, c, h2⟩ := up_loop (.sh (linesD ls)) (.sh (.lst (N.map .str))) ls.reverse (N.foldl insM []) s3 .un .un (fun l hl => h.el l (List.mem_reverse.mp hl)) (by rw [List.length_reverse]; simp at ln; omega)
  have ll : ls.length ≤ 16777216 := by omega
  have lc := lc_filter (vs := [3, 4]) (g := gUn 2 (gsCons (gNm 3) (gsCons (gNm 4) gsNil))) (tt := tVal (eOp2 pIn (eVar 3) (eVar 2))) (e := eVar 3) lineD (fun l => D.str l.1) (fun l => decide (l.1 ∈ markUp (N.foldl insM []) ls.reverse)) [.sh (linesD ls), .sh (.lst (N.map .str)), .ow (.dct (encM (markUp (N.foldl insM []) ls.reverse))), .un, .un, c] ls [] (fun l _ acc ds => by
    have hi := in_dctM (markUp (N.foldl insM []) ls.reverse) l.1
    unfold lineD
    by_cases q : l.1 ∈ markUp (N.foldl insM []) ls.reverse
    · simp_arith [hi, q]
    · simp_arith [hi, q])
  have fin_ : (ls.filter fun l => decide (l.1 ∈ markUp (N.foldl insM []) ls.reverse)).map (fun l => D.str l.1) = (aboveS ls N).map .str := by
    rw [← aboveS_congr cg]
    unfold aboveS
    rw [List.filter_map, List.map_map]
    rfl
  rw [fin_] at lc
  rw [List.map_reverse] at h2
  rw [show DL.encM [] = [] from rfl] at h1
  unfold linesD at *
  unfold m_above b_above
  simp_arith [lf, h1, h2, ll, lc]
theorem above_bad {ls : List Line} (h : LnOk ls) {N : List Str} (hN : ∃ y ∈ N, y ∉ ls.map (·.1)) : m_above [linesD ls, .lst (N.map .str)] = .xc "NoName" := by
  have lf := look_for_bad h hN
  unfold m_above b_above
  simp_arith [lf]
/-! ## the law's own lines -/
theorem eight_ok (x : Int) : ∃ v : Nat, atI [D.int 0, D.int 1, D.int 1, D.int 2, D.int 2, D.int 3, D.int 1, D.int 2] (x % 8) = some (.int (v : Int)) ∧ v ≤ 3 := by
  obtain ⟨i, e, hi⟩ := mod_nat x 8 (by decide)
  rw [show ((8 : Nat) : Int) = 8 from rfl] at e
  rw [e, at_nat]
  have h : i = 0 ∨ i = 1 ∨ i = 2 ∨ i = 3 ∨ i = 4 ∨ i = 5 ∨ i = 6 ∨ i = 7 := by omega
  rcases h with e | e | e | e | e | e | e | e <;> subst e
  · exact ⟨0, rfl, by decide⟩
  · exact ⟨1, rfl, by decide⟩
  · exact ⟨1, rfl, by decide⟩
  · exact ⟨2, rfl, by decide⟩
  · exact ⟨2, rfl, by decide⟩
  · exact ⟨3, rfl, by decide⟩
  · exact ⟨1, rfl, by decide⟩
  · exact ⟨2, rfl, by decide⟩
theorem lnel_loop (x0 x1 x2 x5 x10 x11 x12 : Sl) (c : Int) (names : List Str) (k : Nat) (hk : k < names.length) (hk2 : names.length ≤ 30) : ∀ (js : List Nat) (el : List Str) (s8 s9 : Sl), (∀ j ∈ js, j < 1000) → (∀ z ∈ el, z ∈ names.take k) → el.Nodup → el.length + js.length ≤ 10 →
    ∃ (el' : List Str) (s8' s9' : Sl), forL (gNm 8) l__law_lines_1 (js.map fun i : Nat => .int (i : Int)) [x0, x1, x2, .sh (.int c), .ow (.lst (names.map .str)), x5, .sh (.int (k : Int)), .ow (.lst (el.map .str)), s8, s9, x10, x11, x12] = .nx [x0, x1, x2, .sh (.int c), .ow (.lst (names.map .str)), x5, .sh (.int (k : Int)), .ow (.lst (el'.map .str)), s8', s9', x10, x11, x12] ∧ (∀ z ∈ el', z ∈ names.take k) ∧ el'.Nodup ∧ el'.length ≤ 10
  | [], el, s8, s9, _, h, hn, hl => ⟨el, s8, s9, rfl, h, hn, hl⟩
  | j :: js, el, s8, s9, hj, h, hn, hl => by
    have hl0 : el.length + (js.length + 1) ≤ 10 := hl
    have j1 := hj j (List.mem_cons_self ..)
    have js' : ∀ y ∈ js, y < 1000 := fun y hy => hj y (List.mem_cons_of_mem _ hy)
    have b1 : -18446744073709551616 < (j : Int) := by omega
    have b2 : (j : Int) < 18446744073709551616 := by omega
    have b3 : -18446744073709551616 < (48271 + 2 * (j : Int)) := by omega
    have b4 : (48271 + 2 * (j : Int)) < 18446744073709551616 := by omega
    by_cases k0 : k = 0
    · subst k0
      obtain ⟨el', s8', s9', e, r⟩ := lnel_loop x0 x1 x2 x5 x10 x11 x12 c names 0 hk hk2 js el (.sh (.int (j : Int))) (.sh (.int 0)) js' h hn (by omega)
      refine ⟨el', s8', s9', ?_, r⟩
      rw [← e, List.map_cons]
      rw [show ((0 : Nat) : Int) = 0 from rfl]
      have mx : (if (0 : Int) > 1 then (0 : Int) else 1) = 1 := by decide
      simp_arith [u__law_lines_1, b1, b2, b3, b4, mx, Int.emod_one]
    · have kp : 0 < k := by omega
      obtain ⟨i, hi, hi2⟩ := mod_nat (c / 8 * (48271 + 2 * (j : Int)) % 2147483647) k kp
      have g : names[i]? = some names[i] := List.getElem?_eq_getElem (by omega)
      generalize hx : names[i] = x at g
      have hxm : x ∈ names.take k := by
        rw [← hx]
        exact List.mem_of_getElem? (i := i) (by rw [List.getElem?_take_of_lt hi2, hx, g])
      have ax : atI (names.map D.str) (i : Int) = some (.str x) := by rw [at_nat, List.getElem?_map, g]; rfl
      have kg : (0 : Int) < (k : Int) := by omega
      have mx : (if (k : Int) > 1 then (k : Int) else 1) = k := by split <;> omega
      have hin := in_lstS x el
      by_cases q : x ∈ el
      · obtain ⟨el', s8', s9', e, r⟩ := lnel_loop x0 x1 x2 x5 x10 x11 x12 c names k hk hk2 js el (.sh (.int (j : Int))) (.sh (.int (i : Int))) js' h hn (by omega)
        refine ⟨el', s8', s9', ?_, r⟩
        rw [← e, List.map_cons]
        simp_arith [u__law_lines_1, b1, b2, b3, b4, mx, kg, hi, ax, hin, q]
      · obtain ⟨el', s8', s9', e, r⟩ := lnel_loop x0 x1 x2 x5 x10 x11 x12 c names k hk hk2 js (el ++ [x]) (.sh (.int (j : Int))) (.sh (.int (i : Int))) js'
          (fun z hz => by
            rcases List.mem_append.mp hz with hz | hz
            · exact h z hz
            · rw [List.mem_singleton.mp hz]; exact hxm)
          (List.nodup_append.mpr ⟨hn, List.nodup_cons.mpr ⟨List.not_mem_nil, List.nodup_nil⟩, fun a ha b hb => by rw [List.mem_singleton.mp hb]; rintro rfl; exact q ha⟩)
          (by rw [List.length_append, List.length_singleton]; omega)
        refine ⟨el', s8', s9', ?_, r⟩
        have a1 : el.length < 16777216 := by omega
        rw [← e, List.map_cons, List.map_append]
        simp_arith [u__law_lines_1, b1, b2, b3, b4, mx, kg, hi, ax, hin, q, a1]
theorem lnrow_loop (ns : List Int) (x1 x2 x10 x11 x12 : Sl) (names : List Str) (hk2 : names.length ≤ 30) (h11 : x11 = .un) (h12 : x12 = .un) : ∀ (n k : Nat) (ls : List Line) (s3 s6 s7 s8 s9 : Sl), k + n = names.length → ls.map (·.1) = names.take k → Topo ls → (∀ l ∈ ls, l.2.length ≤ 10 ∧ l.2.Nodup) → s7 = .un ∨ (∃ d, s7 = .ow (.lst d)) →
    ∃ ls' s3' s6' s7' s8' s9', forL (gNm 6) l__law_lines_2 ((List.range' k n).map fun i : Nat => .int (i : Int)) [.sh (.scr ns), x1, x2, s3, .ow (.lst (names.map .str)), .ow (.lst (ls.map lineD)), s6, s7, s8, s9, x10, x11, x12] = .nx [.sh (.scr ns), x1, x2, s3', .ow (.lst (names.map .str)), .ow (.lst (ls'.map lineD)), s6', s7', s8', s9', x10, x11, x12] ∧ ls'.map (·.1) = names ∧ Topo ls' ∧ (∀ l ∈ ls', l.2.length ≤ 10 ∧ l.2.Nodup)
  | 0, k, ls, s3, s6, s7, s8, s9, hk, hp, tp, he, _ => ⟨ls, s3, s6, s7, s8, s9, rfl, by rw [hp, List.take_of_length_le (by omega)], tp, he⟩
  | n + 1, k, ls, s3, s6, s7, s8, s9, hk, hp, tp, he, h7 => by
    have lp : ls.length = k := by
      have := congrArg List.length hp
      rw [List.length_map, List.length_take] at this
      omega
    obtain ⟨c, e1⟩ := cell_ok ns (2 + k) (by omega)
    rw [show ((2 + k : Nat) : Int) = 2 + (k : Int) by omega] at e1
    obtain ⟨v, e2, hv⟩ := eight_ok c
    obtain ⟨el, s8', s9', e3, m1, m2, m3⟩ := lnel_loop (.sh (.scr ns)) x1 x2 (.ow (.lst (ls.map lineD))) x10 x11 x12 c names k (by omega) hk2 (List.range v) [] s8 s9 (fun j hj => by have := List.mem_range.mp hj; omega) (fun z hz => by cases hz) List.nodup_nil (by simp; omega)
    have g : names[k]? = some names[k] := List.getElem?_eq_getElem (by omega)
    generalize hx : names[k] = x at g
    have ax : atI (names.map D.str) (k : Int) = some (.str x) := by rw [at_nat, List.getElem?_map, g]; rfl
    obtain ⟨ls', a, b, d, f, i, ih, r1, r2, r3⟩ := lnrow_loop ns x1 x2 x10 x11 x12 names hk2 h11 h12 n (k + 1) (ls ++ [(x, el)]) (.sh (.int c)) (.sh (.int (k : Int))) (.ow (.lst (el.map .str))) s8' s9' (by omega)
      (by rw [List.map_append, hp, List.take_add_one, g]; rfl) (tp.snoc fun z hz => by rw [hp]; exact m1 z hz)
      (fun l hl => by
        rcases List.mem_append.mp hl with hl | hl
        · exact he l hl
        · rw [List.mem_singleton.mp hl]; exact ⟨m3, m2⟩) (.inr ⟨_, rfl⟩)
    refine ⟨ls', a, b, d, f, i, ?_, r1, r2, r3⟩
    have a1 : ls.length < 16777216 := by omega
    have a2 : el.length ≤ 16777216 := by omega
    have v1 : -4611686018427387904 ≤ (v : Int) := by omega
    have v2 : (v : Int) < 4611686018427387904 := by omega
    rw [← ih, List.range'_succ, List.map_cons, List.map_append]
    rw [← rangeD_eq, List.map_nil] at e3
    subst h11
    subst h12
    unfold lineD at *
    rcases h7 with rfl | ⟨d, rfl⟩
    all_goals simp_arith [u__law_lines_2, e1, e2, v1, v2, Int.toNat_natCast, e3, ax, a1, a2]
theorem Topo.cut {ls : List Line} (h : Topo ls) (x : Str) : Topo (cutL ls x) := fun pre l post e z hz => by
  unfold cutL at e
  obtain ⟨p, q, rfl, rfl, e2⟩ := List.map_eq_append_iff.mp e
  obtain ⟨l', q', rfl, rfl, rfl⟩ := List.map_eq_cons_iff.mp e2
  have h1 := h p l' q' rfl z ((List.mem_filter.mp hz).1)
  rw [List.map_map]
  exact h1
theorem LnB.cut {ls : List Line} (h : LnB ls) (x : Str) : LnB (cutL ls x) := ⟨h.ok.cut x, h.tp.cut x, by unfold cutL; rw [List.length_map]; exact h.len, fun l hl => by
  obtain ⟨y, hy, rfl⟩ := List.mem_map.mp hl
  exact Nat.le_trans (List.length_filter_le _ _) (h.el y hy)⟩
theorem law_lines_ok (ns : List Int) (most : Nat) (hm : 1 ≤ most) (hm2 : most ≤ 10) : ∃ ls : List Line, m__law_lines [.scr ns, .int (most : Int)] = .sh (linesD ls) ∧ LnB ls ∧ 1 ≤ ls.length ∧ ls.length ≤ most ∧ (∀ l ∈ ls, l.2.Nodup) ∧ (∀ x ∈ ls.map (·.1), wordS x) ∧ lenP Str.length (ls.map (·.1)) := by
  obtain ⟨c0, e0⟩ := cell_ok ns 0 (by decide)
  obtain ⟨c1, e1⟩ := cell_ok ns 1 (by decide)
  obtain ⟨c12, e12⟩ := cell_ok ns 12 (by decide)
  rw [show ((0 : Nat) : Int) = 0 from rfl] at e0
  rw [show ((1 : Nat) : Int) = 1 from rfl] at e1
  rw [show ((12 : Nat) : Int) = 12 from rfl] at e12
  obtain ⟨z, hz, hz2⟩ := mod_nat c0 most hm
  have mp : (0 : Int) < (most : Int) := by omega
  have hc : (1 : Int) + (z : Int) = ((1 + z : Nat) : Int) := by omega
  obtain ⟨cw, names, ew, ec, l1, l2, l3, l4⟩ : ∃ (cw : Int) (names : List Str), atI [D.int c1, D.int (3 * c1 + 1)] (if ((1 + z : Nat) : Int) > 8 then 1 else 0) = some (.int cw) ∧ m__law_words [.int cw, .int ((1 + z : Nat) : Int)] = .ow (.lst (names.map .str)) ∧ names.length = 1 + z ∧ names.Nodup ∧ (∀ l ∈ names, wordS l) ∧ lenP Str.length names := by
    by_cases q : 1 + z ≤ 8
    · obtain ⟨names, en, r⟩ := words_str2 c1 (1 + z) (.inl q) (by omega)
      exact ⟨c1, names, by rw [if_neg (by omega)]; exact at_0, en, r⟩
    · obtain ⟨names, en, r⟩ := words_str2 (3 * c1 + 1) (1 + z) (.inr (by omega)) (by omega)
      exact ⟨3 * c1 + 1, names, by rw [if_pos (by omega)]; exact at_1, en, r⟩
  obtain ⟨ls, a, b, d, f, i, e2, r1, r2, r3⟩ := lnrow_loop ns (.sh (.int (most : Int))) (.sh (.int ((1 + z : Nat) : Int))) .un .un .un names (by omega) rfl rfl names.length 0 [] (.sh (.int c1)) .un .un .un .un (by omega) rfl Topo.nil (fun l hl => by cases hl) (.inl rfl)
  have ll : ls.length = 1 + z := by
    have := congrArg List.length r1
    rw [List.length_map] at this
    omega
  have lb : LnB ls := ⟨⟨by rw [r1]; exact l2, by omega, fun l hl => by have := (r3 l hl).1; omega⟩, r2, by omega, fun l hl => (r3 l hl).1⟩
  rw [← List.range_eq_range', ← rangeD_eq, l1, List.map_nil] at e2
  have b1 : -4611686018427387904 ≤ ((1 + z : Nat) : Int) := by omega
  have b2 : ((1 + z : Nat) : Int) < 4611686018427387904 := by omega
  have ll2 : ls.length ≤ 16777216 := by omega
  have pI : ∀ b : Bool, pInt [.bl b] = .v (.int (if b then 1 else 0)) := fun _ => rfl
  have ew2 : atI [D.int c1, D.int (3 * c1 + 1)] (if decide (((1 + z : Nat) : Int) > 8) = true then 1 else 0) = some (.int cw) := by
    rw [← ew]; congr 1; by_cases q : ((1 + z : Nat) : Int) > 8 <;> simp [q]
  have cp : (0 : Int) < ((1 + z : Nat) : Int) := by omega
  by_cases q : c12 % 3 = 0
  · obtain ⟨y, hy, hy2⟩ := mod_nat (c12 / 3) (1 + z) (by omega)
    have g : names[y]? = some names[y] := List.getElem?_eq_getElem (by omega)
    generalize names[y] = x at g
    have ax : atI (names.map D.str) (y : Int) = some (.str x) := by rw [at_nat, List.getElem?_map, g]; rfl
    refine ⟨cutL ls x, ?_, lb.cut x, by unfold cutL; rw [List.length_map]; omega, by unfold cutL; rw [List.length_map]; omega, fun l hl => ?_, by rw [cutL_nm, r1]; exact l3, by rw [cutL_nm, r1]; exact l4⟩
    · have lc := lc_map (vs := [11, 7]) (g := gUn 2 (gsCons (gNm 11) (gsCons (gNm 7) gsNil))) (tt := tYesD) (e := eTup (aCons (eVar 11) (aCons (eOpN pTuple (aCons (eLC [12] (iSeq (eVar 7)) (gNm 12) (tVal (eOp2 pNe (eVar 12) (eVar 10))) (eVar 12)) aNil)) aNil))) lineD (fun l => lineD (l.1, l.2.filter fun y => !decide (y = x)))
        [.sh (.scr ns), .sh (.int (most : Int)), .sh (.int ((1 + z : Nat) : Int)), .sh (.int c12), .ow (.lst (names.map .str)), .sh (.lst (ls.map lineD)), b, .un, f, i, .sh (.str x), .un, .un] ls [] (fun l hl acc ds => by
          have a2 : l.2.length ≤ 16777216 := by have := (r3 l hl).1; omega
          have lc := lc_filter (vs := [12]) (g := gNm 12) (tt := tVal (eOp2 pNe (eVar 12) (eVar 10))) (e := eVar 12) D.str D.str (fun y => !decide (y = x)) [.sh (.scr ns), .sh (.int (most : Int)), .sh (.int ((1 + z : Nat) : Int)), .sh (.int c12), .ow (.lst (names.map .str)), .sh (.lst (ls.map lineD)), b, .sh (.tup (l.2.map .str)), f, i, .sh (.str x), .sh (.str l.1), .un] l.2 [] (fun y _ acc ds => by
            by_cases q : y = x
            · simp_arith [q]
            · simp_arith [q])
          have lf : (l.2.filter fun y => !decide (y = x)).length ≤ 16777216 := Nat.le_trans (List.length_filter_le _ _) a2
          generalize ls.map lineD = W at *
          unfold lineD
          simp_arith [a2, lc, lf])
      rw [show ls.map (fun l => lineD (l.1, l.2.filter fun y => !decide (y = x))) = (cutL ls x).map lineD by unfold cutL; rw [List.map_map]; rfl] at lc
      have lcl : (cutL ls x).length ≤ 16777216 := by unfold cutL; rw [List.length_map]; omega
      unfold m__law_lines b__law_lines linesD
      simp_arith [e0, mp, hz, hc, e1, pI, ew2, ec, b1, b2, Int.toNat_natCast, e2, e12, q, cp, hy, ax, ll2, lc, lcl]
    · obtain ⟨l', hl', rfl⟩ := List.mem_map.mp hl
      exact (r3 l' hl').2.sublist (List.filter_sublist ..)
  · refine ⟨ls, ?_, lb, by omega, by omega, fun l hl => (r3 l hl).2, by rw [r1]; exact l3, by rw [r1]; exact l4⟩
    unfold m__law_lines b__law_lines linesD
    simp_arith [e0, mp, hz, hc, e1, pI, ew2, ec, b1, b2, Int.toNat_natCast, e2, e12, q, ll2]

/-! ## sides -/
theorem take_new {l : List Str} : l.Nodup ↔ ∀ k x, l[k]? = some x → x ∉ l.take k := by
  unfold List.Nodup
  rw [List.pairwise_iff_getElem]
  constructor
  · intro h k x hk hx
    obtain ⟨i, hi⟩ := List.getElem?_of_mem hx
    rw [List.getElem?_take] at hi
    by_cases q : i < k
    · rw [if_pos q] at hi
      obtain ⟨a1, a2⟩ := List.getElem?_eq_some_iff.mp hk
      obtain ⟨b1, b2⟩ := List.getElem?_eq_some_iff.mp hi
      exact h i k b1 a1 q (b2.trans a2.symm)
    · rw [if_neg q] at hi; cases hi
  · intro h i j hi hj hij e
    have g : l[j]? = some l[j] := List.getElem?_eq_getElem hj
    refine h j _ g (List.mem_of_getElem? (i := i) ?_)
    rw [List.getElem?_take, if_pos hij, List.getElem?_eq_getElem hi, e]
theorem lal_ok (x0 x1 x2 x3 : Sl) (S : List Str) (nd : S.Nodup) (hl : S.length ≤ 1000) : ∀ (n k : Nat) (s5 : Sl), k + n = S.length → ∃ s5', forL (gNm 5) l_look_at_lists_1 ((List.range' k n).map fun i : Nat => .int (i : Int)) [x0, x1, x2, x3, .sh (.lst (S.map .str)), s5] = .nx [x0, x1, x2, x3, .sh (.lst (S.map .str)), s5']
  | 0, k, s5, _ => ⟨s5, rfl⟩
  | n + 1, k, s5, hk => by
    obtain ⟨s', ih⟩ := lal_ok x0 x1 x2 x3 S nd hl n (k + 1) (.sh (.int (k : Int))) (by omega)
    have g : S[k]? = some S[k] := List.getElem?_eq_getElem (by omega)
    generalize S[k] = x at g
    have ax : atI (S.map D.str) (k : Int) = some (.str x) := by rw [at_nat, List.getElem?_map, g]; rfl
    have cu : DL.cutD (S.map D.str) none (some (k : Int)) = (S.take k).map .str := by rw [cutN, List.map_take]
    have hi := in_lstS x (S.take k)
    rw [decide_eq_false (take_new.mp nd k x g)] at hi
    refine ⟨s', ?_⟩
    rw [← ih, List.range'_succ, List.map_cons]
    simp_arith [u_look_at_lists_1, ax, cu, hi]
theorem lal_bad (x0 x1 x2 x3 : Sl) (S : List Str) (hl : S.length ≤ 1000) : ∀ (n k : Nat) (s5 : Sl), k + n = S.length → (∃ j x, k ≤ j ∧ S[j]? = some x ∧ x ∈ S.take j) → ∃ ρ', forL (gNm 5) l_look_at_lists_1 ((List.range' k n).map fun i : Nat => .int (i : Int)) [x0, x1, x2, x3, .sh (.lst (S.map .str)), s5] = .xc "Twice" ρ'
  | 0, k, s5, hk, ⟨j, x, hj, e, _⟩ => by
    have := (List.getElem?_eq_some_iff.mp e).1
    omega
  | n + 1, k, s5, hk, ⟨j, y, hj, e, hm⟩ => by
    have g : S[k]? = some S[k] := List.getElem?_eq_getElem (by omega)
    generalize S[k] = x at g
    have ax : atI (S.map D.str) (k : Int) = some (.str x) := by rw [at_nat, List.getElem?_map, g]; rfl
    have cu : DL.cutD (S.map D.str) none (some (k : Int)) = (S.take k).map .str := by rw [cutN, List.map_take]
    have hi := in_lstS x (S.take k)
    by_cases q : x ∈ S.take k
    · rw [decide_eq_true q] at hi
      refine ⟨[x0, x1, x2, x3, .sh (.lst (S.map .str)), .sh (.int (k : Int))], ?_⟩
      rw [List.range'_succ, List.map_cons]
      simp_arith [u_look_at_lists_1, ax, cu, hi]
    · rw [decide_eq_false q] at hi
      have jk : j ≠ k := by
        rintro rfl
        rw [g] at e
        cases e
        exact q hm
      obtain ⟨ρ', ih⟩ := lal_bad x0 x1 x2 x3 S hl n (k + 1) (.sh (.int (k : Int))) (by omega) ⟨j, y, by omega, e, hm⟩
      refine ⟨ρ', ?_⟩
      rw [← ih, List.range'_succ, List.map_cons]
      simp_arith [u_look_at_lists_1, ax, cu, hi]
section
variable {ls : List Line} {A B C : List Str}
theorem lists_ok (h : LnOk ls) (hs : ∀ x ∈ A ++ B ++ C, x ∈ ls.map (·.1)) (nd : (A ++ B ++ C).Nodup) (hl : (A ++ B ++ C).length ≤ 1000) : m_look_at_lists [linesD ls, .lst (A.map .str), .lst (B.map .str), .lst (C.map .str)] = .sh .non := by
  have lf := look_for_ok h hs
  obtain ⟨s5, e⟩ := lal_ok (.sh (linesD ls)) (.sh (.lst (A.map .str))) (.sh (.lst (B.map .str))) (.sh (.lst (C.map .str))) _ nd hl (A ++ B ++ C).length 0 .un (by omega)
  rw [← List.range_eq_range', ← rangeD_eq] at e
  have r1 : -4611686018427387904 ≤ ((A ++ B ++ C).length : Int) := by omega
  have r2 : ((A ++ B ++ C).length : Int) < 4611686018427387904 := by omega
  have l1 : A.length + B.length ≤ 16777216 := by rw [List.length_append, List.length_append] at hl; omega
  have l2 : A.length + B.length + C.length ≤ 16777216 := by rw [List.length_append, List.length_append] at hl; omega
  have l3 : A.length ≤ 16777216 := by omega
  have l4 : B.length ≤ 16777216 := by omega
  have l5 : C.length ≤ 16777216 := by omega
  have ml : ((A.map D.str ++ B.map D.str) ++ C.map D.str).length = (A ++ B ++ C).length := by simp
  have mm : (A ++ B ++ C).map D.str = (A.map D.str ++ B.map D.str) ++ C.map D.str := by rw [List.map_append, List.map_append]
  rw [mm] at lf e
  unfold m_look_at_lists b_look_at_lists
  generalize hW : (A.map D.str ++ B.map D.str) ++ C.map D.str = W at *
  generalize (A ++ B ++ C).length = N at *
  simp_arith [l1, l2, l3, l4, l5, hW, lf, ml, r1, r2, Int.toNat_natCast, e]
theorem lists_no (h : LnOk ls) (hs : ∃ x ∈ A ++ B ++ C, x ∉ ls.map (·.1)) (hl : (A ++ B ++ C).length ≤ 1000) : m_look_at_lists [linesD ls, .lst (A.map .str), .lst (B.map .str), .lst (C.map .str)] = .xc "NoName" := by
  have lf := look_for_bad h hs
  have l1 : A.length + B.length ≤ 16777216 := by rw [List.length_append, List.length_append] at hl; omega
  have l2 : A.length + B.length + C.length ≤ 16777216 := by rw [List.length_append, List.length_append] at hl; omega
  have l3 : A.length ≤ 16777216 := by omega
  have l4 : B.length ≤ 16777216 := by omega
  have l5 : C.length ≤ 16777216 := by omega
  rw [List.map_append, List.map_append] at lf
  unfold m_look_at_lists b_look_at_lists
  generalize hW : (A.map D.str ++ B.map D.str) ++ C.map D.str = W at *
  simp_arith [l1, l2, l3, l4, l5, hW, lf]
theorem lists_twice (h : LnOk ls) (hs : ∀ x ∈ A ++ B ++ C, x ∈ ls.map (·.1)) (nd : ¬(A ++ B ++ C).Nodup) (hl : (A ++ B ++ C).length ≤ 1000) : m_look_at_lists [linesD ls, .lst (A.map .str), .lst (B.map .str), .lst (C.map .str)] = .xc "Twice" := by
  have lf := look_for_ok h hs
  have hj : ∃ j x, 0 ≤ j ∧ (A ++ B ++ C)[j]? = some x ∧ x ∈ (A ++ B ++ C).take j := by
    refine Classical.byContradiction fun q => nd (take_new.mpr fun k x hk hx => q ⟨k, x, Nat.zero_le _, hk, hx⟩)
  obtain ⟨ρ', e⟩ := lal_bad (.sh (linesD ls)) (.sh (.lst (A.map .str))) (.sh (.lst (B.map .str))) (.sh (.lst (C.map .str))) _ hl (A ++ B ++ C).length 0 .un (by omega) hj
  rw [← List.range_eq_range', ← rangeD_eq] at e
  have r1 : -4611686018427387904 ≤ ((A ++ B ++ C).length : Int) := by omega
  have r2 : ((A ++ B ++ C).length : Int) < 4611686018427387904 := by omega
  have l1 : A.length + B.length ≤ 16777216 := by rw [List.length_append, List.length_append] at hl; omega
  have l2 : A.length + B.length + C.length ≤ 16777216 := by rw [List.length_append, List.length_append] at hl; omega
  have l3 : A.length ≤ 16777216 := by omega
  have l4 : B.length ≤ 16777216 := by omega
  have l5 : C.length ≤ 16777216 := by omega
  have ml : ((A.map D.str ++ B.map D.str) ++ C.map D.str).length = (A ++ B ++ C).length := by simp
  have mm : (A ++ B ++ C).map D.str = (A.map D.str ++ B.map D.str) ++ C.map D.str := by rw [List.map_append, List.map_append]
  rw [mm] at lf e
  unfold m_look_at_lists b_look_at_lists
  generalize hW : (A.map D.str ++ B.map D.str) ++ C.map D.str = W at *
  generalize (A ++ B ++ C).length = N at *
  simp_arith [l1, l2, l3, l4, l5, hW, lf, ml, r1, r2, Int.toNat_natCast, e]
end
/-! ### ties -/
def tieD (names : List Str) (m : Str → List Str) : D := .dct (names.map fun n => ((.inr n : Key), D.dct (encM (m n))))
theorem tie_val (m : Str → List Str) : ∀ (names : List Str) (x : Str), valD (names.map fun n => ((.inr n : Key), D.dct (DL.encM (m n)))) (.inr x) = if x ∈ names then some (.dct (DL.encM (m x))) else none
  | [], x => rfl
  | n :: names, x => by
    have ih := tie_val m names x
    unfold valD at ih ⊢
    rw [List.map_cons, List.find?_cons, dec_inr]
    by_cases q : n = x
    · subst q
      rw [decide_eq_true rfl, if_pos (List.mem_cons_self ..)]
      rfl
    · rw [decide_eq_false q, ih]
      by_cases z : x ∈ names
      · rw [if_pos z, if_pos (List.mem_cons_of_mem _ z)]
      · rw [if_neg z, if_neg fun w => (List.mem_cons.mp w).elim (fun e => q e.symm) z]
theorem tie_upd (m : Str → List Str) (x : Str) (M : List Str) : ∀ (names : List Str), names.Nodup → updK (names.map fun n => ((.inr n : Key), D.dct (DL.encM (m n)))) (.inr x) (.dct (DL.encM M)) = if x ∈ names then (names.map fun n => ((.inr n : Key), D.dct (DL.encM (if n = x then M else m n)))) else names.map fun n => ((.inr n : Key), D.dct (DL.encM (m n)))
  | [], _ => rfl
  | n :: names, nd => by
    obtain ⟨n1, n2⟩ := List.nodup_cons.mp nd
    have ih := tie_upd m x M names n2
    rw [List.map_cons, updK]
    by_cases q : n = x
    · subst q
      rw [if_pos rfl, if_pos (List.mem_cons_self ..), List.map_cons, if_pos rfl]
      congr 1
      refine List.map_congr_left fun y hy => ?_
      rw [if_neg (fun z => n1 (by rw [← z]; exact hy))]
    · rw [if_neg (fun z => q (Sum.inr.inj z)), ih]
      by_cases z : x ∈ names
      · rw [if_pos z, if_pos (List.mem_cons_of_mem _ z), List.map_cons, if_neg q]
      · rw [if_neg z, if_neg fun w => (List.mem_cons.mp w).elim (fun e => q e.symm) z]
def upM (m : Str → List Str) (a b : Str) : Str → List Str := if a = b then m else fun n => if n = a then insM (m a) b else m n
structure OkM (names : List Str) (m : Str → List Str) : Prop where
  nd : ∀ n, (m n).Nodup
  sub : ∀ n, ∀ y ∈ m n, y ∈ names
theorem OkM.up {names : List Str} {m : Str → List Str} (h : OkM names m) {a b : Str} (hb : b ∈ names) : OkM names (upM m a b) := by
  unfold upM
  split
  · exact h
  · refine ⟨fun n => ?_, fun n y hy => ?_⟩
    · split
      · exact insM_nodup (h.nd a)
      · exact h.nd n
    · split at hy
      · rcases mem_insM.mp hy with hy | rfl
        · exact h.sub a y hy
        · exact hb
      · exact h.sub n y hy
theorem OkM.len {names : List Str} {m : Str → List Str} (h : OkM names m) (n : Str) : (m n).length ≤ names.length := nodup_sub (h.nd n) (h.sub n)
theorem mem_upM {m : Str → List Str} {a b n y : Str} : y ∈ upM m a b n ↔ y ∈ m n ∨ (n = a ∧ y = b ∧ a ≠ b) := by
  unfold upM
  by_cases q : a = b
  · rw [if_pos q]
    exact ⟨.inl, fun z => z.elim id fun w => absurd q w.2.2⟩
  · rw [if_neg q]
    by_cases z : n = a
    · rw [if_pos z, mem_insM, z]
      constructor
      · rintro (w | w)
        · exact .inl w
        · exact .inr ⟨rfl, w, q⟩
      · rintro (w | ⟨_, w, _⟩)
        · exact .inl w
        · exact .inr w
    · rw [if_neg z]
      exact ⟨.inl, fun w => w.elim id fun v => absurd v.1 z⟩
theorem tie1 {names : List Str} {m : Str → List Str} (nd : names.Nodup) (ok : OkM names m) (hl : names.length ≤ 1000) {a : Str} (b : Str) (ha : a ∈ names) (x0 x1 s3 s4 s5 : Sl) (v : V) :
    l_ties_among_1 (tieD names m) [x0, x1, .sh (.xn v), s3, s4, s5, .sh (.str a), .sh (.str b)] = .nx (tieD names (upM m a b)) [x0, x1, .sh (.xn v), s3, s4, s5, .sh (.str a), .sh (.str b)] := by
  unfold l_ties_among_1
  have h1 : tVal (eOp2 pNe (eVar 6) (eVar 7)) [x0, x1, .sh (.xn v), s3, s4, s5, .sh (.str a), .sh (.str b)] = .ok (!decide (a = b)) [x0, x1, .sh (.xn v), s3, s4, s5, .sh (.str a), .sh (.str b)] := by simp_arith []
  rw [if2_eq (liftT_eq h1)]
  by_cases q : a = b
  · rw [decide_eq_true q, Bool.not_true, if_neg Bool.false_ne_true]
    unfold upM
    rw [if_pos q]
  · rw [decide_eq_false q, Bool.not_false, if_pos rfl]
    have ln := ok.len a
    rw [put2_eq (v := .bl true) (k1 := .str a) (k2 := .str b) (c := .dct (DL.encM (m a))) (c' := .dct (DL.encM (insM (m a) b))) (by simp_arith []) (by simp_arith []) (by simp_arith [])]
    · unfold tieD setIn
      show SR2.nx (.dct (updK _ (.inr a) _)) _ = _
      rw [tie_upd m a _ names nd, if_pos ha]
      unfold upM
      rw [if_neg q]
    · unfold tieD inner
      show (some (Sum.inr a : Key)).bind _ = _
      rw [Option.bind_some, tie_val, if_pos ha]
    · show putO (.dct _) _ _ = _
      rw [k_put1, show keyD (.str b) = some (.inr b) from rfl, k_put1', if_pos (by rw [encM_len]; omega), putD_mark]
    · rfl
theorem for2_cons {g : GM} {b : SM2} {x : D} {xs : List D} {d d' : D} {ρ ρ1 ρ2 : DEnv} (h1 : g x ρ = some ρ1) (h2 : b d ρ1 = .nx d' ρ2) : for2L g b (x :: xs) d ρ = for2L g b xs d' ρ2 := by
  show (match g x ρ with | none => _ | some ρ1 => _) = _
  rw [h1]
  show (match b d ρ1 with | .nx d2 ρ2 => _ | .ct d2 ρ2 => _ | .bk d2 ρ2 => _ | .bad => _) = _
  rw [h2]
theorem for2_eq' {i : Nat} {it : IM} {g : GM} {b : SM2} {d : D} {ρ ρ' : DEnv} {xs : List D} (h : it ρ = .ok xs ρ') (h2 : ρ'[i]? = ρ[i]?) : for2 i it g b d ρ = for2L g b xs d ρ' := by
  unfold for2
  simp only [h]
  rw [if_pos h2]
theorem tie2 {names : List Str} (nd : names.Nodup) (hl : names.length ≤ 1000) {a : Str} (ha : a ∈ names) (x0 x1 s3 s4 s5 : Sl) : ∀ (bs : List Str) (m : Str → List Str) (s7 : Sl), OkM names m → (∀ b ∈ bs, b ∈ names) →
    ∃ m' s7', (∀ v, for2L (gNm 7) l_ties_among_1 (bs.map .str) (tieD names m) [x0, x1, .sh (.xn v), s3, s4, s5, .sh (.str a), s7] = .nx (tieD names m') [x0, x1, .sh (.xn v), s3, s4, s5, .sh (.str a), s7']) ∧ OkM names m' ∧ ∀ n y, y ∈ m' n ↔ y ∈ m n ∨ (n = a ∧ y ∈ bs ∧ a ≠ y)
  | [], m, s7, ok, _ => ⟨m, s7, fun _ => rfl, ok, fun n y => ⟨.inl, fun z => z.elim id fun w => absurd w.2.1 List.not_mem_nil⟩⟩
  | b :: bs, m, s7, ok, hb => by
    have hbn := hb b (List.mem_cons_self ..)
    obtain ⟨m', s', e, ok', sp⟩ := tie2 nd hl ha x0 x1 s3 s4 s5 bs (upM m a b) (.sh (.str b)) (ok.up hbn) fun y hy => hb y (List.mem_cons_of_mem _ hy)
    refine ⟨m', s', ?_, ok', fun n y => ?_⟩
    · intro v
      rw [List.map_cons, for2_cons (ρ1 := [x0, x1, .sh (.xn v), s3, s4, s5, .sh (.str a), .sh (.str b)]) rfl (tie1 nd ok hl b ha x0 x1 s3 s4 s5 v), e]
    · rw [sp, mem_upM]
      constructor
      · rintro ((z | ⟨z1, z2, z3⟩) | ⟨z1, z2, z3⟩)
        · exact .inl z
        · exact .inr ⟨z1, by rw [z2]; exact List.mem_cons_self .., by rw [z2]; exact z3⟩
        · exact .inr ⟨z1, List.mem_cons_of_mem _ z2, z3⟩
      · rintro (z | ⟨z1, z2, z3⟩)
        · exact .inl (.inl z)
        · rcases List.mem_cons.mp z2 with rfl | z2
          · exact .inl (.inr ⟨z1, rfl, z3⟩)
          · exact .inr ⟨z1, z2, z3⟩
theorem tie3 {names : List Str} (nd : names.Nodup) (hl : names.length ≤ 1000) (x0 x1 s3 s4 : Sl) (fam : List Str) (hf : ∀ b ∈ fam, b ∈ names) : ∀ (as : List Str) (m : Str → List Str) (s6 s7 : Sl), OkM names m → (∀ b ∈ as, b ∈ names) →
    ∃ m' s6' s7', (∀ v, for2L (gNm 6) l_ties_among_2 (as.map .str) (tieD names m) [x0, x1, .sh (.xn v), s3, s4, .sh (.lst (fam.map .str)), s6, s7] = .nx (tieD names m') [x0, x1, .sh (.xn v), s3, s4, .sh (.lst (fam.map .str)), s6', s7']) ∧ OkM names m' ∧ ∀ n y, y ∈ m' n ↔ y ∈ m n ∨ (n ∈ as ∧ y ∈ fam ∧ n ≠ y)
  | [], m, s6, s7, ok, _ => ⟨m, s6, s7, fun _ => rfl, ok, fun n y => ⟨.inl, fun z => z.elim id fun w => absurd w.1 List.not_mem_nil⟩⟩
  | a :: as, m, s6, s7, ok, ha => by
    obtain ⟨m1, s7', e1, ok1, sp1⟩ := tie2 nd hl (ha a (List.mem_cons_self ..)) x0 x1 s3 s4 (.sh (.lst (fam.map .str))) fam m s7 ok hf
    obtain ⟨m', s6', s7'', e, ok', sp⟩ := tie3 nd hl x0 x1 s3 s4 fam hf as m1 (.sh (.str a)) s7' ok1 fun y hy => ha y (List.mem_cons_of_mem _ hy)
    refine ⟨m', s6', s7'', ?_, ok', fun n y => ?_⟩
    · intro v
      have st : l_ties_among_2 (tieD names m) [x0, x1, .sh (.xn v), s3, s4, .sh (.lst (fam.map .str)), .sh (.str a), s7] = .nx (tieD names m1) [x0, x1, .sh (.xn v), s3, s4, .sh (.lst (fam.map .str)), .sh (.str a), s7'] := by
        unfold l_ties_among_2
        have hi : iSeq (eVar 5) [x0, x1, .sh (.xn v), s3, s4, .sh (.lst (fam.map .str)), .sh (.str a), s7] = .ok (fam.map .str) [x0, x1, .sh (.xn v), s3, s4, .sh (.lst (fam.map .str)), .sh (.str a), s7] := rfl
        rw [for2_eq' hi rfl]
        exact e1 v
      rw [List.map_cons, for2_cons (ρ1 := [x0, x1, .sh (.xn v), s3, s4, .sh (.lst (fam.map .str)), .sh (.str a), s7]) rfl st, e]
    · rw [sp, sp1]
      constructor
      · rintro ((z | ⟨z1, z2, z3⟩) | ⟨z1, z2, z3⟩)
        · exact .inl z
        · exact .inr ⟨by rw [z1]; exact List.mem_cons_self .., z2, by rw [z1]; exact z3⟩
        · exact .inr ⟨List.mem_cons_of_mem _ z1, z2, z3⟩
      · rintro (z | ⟨z1, z2, z3⟩)
        · exact .inl (.inl z)
        · rcases List.mem_cons.mp z1 with rfl | z1
          · exact .inl (.inr ⟨rfl, z2, z3⟩)
          · exact .inr ⟨z1, z2, z3⟩
/-- two names of one family, that of a name among names -/
def Tie (ls : List Line) (names : List Str) (n y : Str) : Prop := n ≠ y ∧ ∃ l ∈ ls, l.1 ∈ names ∧ n ∈ l.2 ++ [l.1] ∧ y ∈ l.2 ++ [l.1]
theorem tie4 {names : List Str} (nd : names.Nodup) (hl : names.length ≤ 1000) (x0 x1 : Sl) : ∀ (ls : List Line) (m : Str → List Str) (s3 s4 s5 s6 s7 : Sl), OkM names m → (∀ l ∈ ls, l.2.length ≤ 1000) → (∀ l ∈ ls, l.1 ∈ names → ∀ z ∈ l.2, z ∈ names) →
    ∃ m' s3' s4' s5' s6' s7', (∀ v, for2L (gUn 2 (gsCons (gNm 3) (gsCons (gNm 4) gsNil))) l_ties_among_3 (ls.map lineD) (tieD names m) [x0, x1, .sh (.xn v), s3, s4, s5, s6, s7] = .nx (tieD names m') [x0, x1, .sh (.xn v), s3', s4', s5', s6', s7']) ∧ OkM names m' ∧ ∀ n y, y ∈ m' n ↔ y ∈ m n ∨ Tie ls names n y
  | [], m, s3, s4, s5, s6, s7, ok, _, _ => ⟨m, s3, s4, s5, s6, s7, fun _ => rfl, ok, fun n y => ⟨.inl, fun z => z.elim id fun ⟨_, l, hl, _⟩ => by cases hl⟩⟩
  | l :: ls, m, s3, s4, s5, s6, s7, ok, he, hc => by
    have l1000 := he l (List.mem_cons_self ..)
    have hin : ∀ v, in2 2 (eVar 3) (tieD names m) [x0, x1, .sh (.xn v), .sh (.str l.1), .sh (.tup (l.2.map .str)), s5, s6, s7] = some (decide (l.1 ∈ names), [x0, x1, .sh (.xn v), .sh (.str l.1), .sh (.tup (l.2.map .str)), s5, s6, s7]) := fun v => by
      unfold tieD
      rw [in2_eq (k := .str l.1) (key := .inr l.1) (by simp_arith []) rfl, tie_val]
      by_cases q : l.1 ∈ names
      · rw [if_pos q, decide_eq_true q]; rfl
      · rw [if_neg q, decide_eq_false q]; rfl
    by_cases q : l.1 ∈ names
    · have hf : ∀ b ∈ l.2 ++ [l.1], b ∈ names := fun b hb => by
        rcases List.mem_append.mp hb with hb | hb
        · exact hc l (List.mem_cons_self ..) q b hb
        · rw [List.mem_singleton.mp hb]; exact q
      obtain ⟨m1, s6', s7', e1, ok1, sp1⟩ := tie3 nd hl x0 x1 (.sh (.str l.1)) (.sh (.tup (l.2.map .str))) (l.2 ++ [l.1]) hf (l.2 ++ [l.1]) m s6 s7 ok hf
      obtain ⟨m', a, b, c, d, f, e, ok', sp⟩ := tie4 nd hl x0 x1 ls m1 (.sh (.str l.1)) (.sh (.tup (l.2.map .str))) (.sh (.lst ((l.2 ++ [l.1]).map .str))) s6' s7' ok1 (fun y hy => he y (List.mem_cons_of_mem _ hy)) fun y hy => hc y (List.mem_cons_of_mem _ hy)
      refine ⟨m', a, b, c, d, f, ?_, ok', fun n y => ?_⟩
      · intro v
        have a1 : l.2.length + 1 ≤ 16777216 := by omega
        have a2 : l.2.length ≤ 16777216 := by omega
        have hset : sSet 5 (eOp2 pAdd (eOpN pList (aCons (eVar 4) aNil)) (eLst (aCons (eVar 3) aNil))) [x0, x1, .sh (.xn v), .sh (.str l.1), .sh (.tup (l.2.map .str)), s5, s6, s7] = .nx [x0, x1, .sh (.xn v), .sh (.str l.1), .sh (.tup (l.2.map .str)), .ow (.lst ((l.2 ++ [l.1]).map .str)), s6, s7] := by
          rw [List.map_append]
          simp_arith [a1, a2]
        have hi : iSeq (eVar 5) [x0, x1, .sh (.xn v), .sh (.str l.1), .sh (.tup (l.2.map .str)), .ow (.lst ((l.2 ++ [l.1]).map .str)), s6, s7] = .ok ((l.2 ++ [l.1]).map .str) [x0, x1, .sh (.xn v), .sh (.str l.1), .sh (.tup (l.2.map .str)), .sh (.lst ((l.2 ++ [l.1]).map .str)), s6, s7] := rfl
        have st : l_ties_among_3 (tieD names m) [x0, x1, .sh (.xn v), .sh (.str l.1), .sh (.tup (l.2.map .str)), s5, s6, s7] = .nx (tieD names m1) [x0, x1, .sh (.xn v), .sh (.str l.1), .sh (.tup (l.2.map .str)), .sh (.lst ((l.2 ++ [l.1]).map .str)), s6', s7'] := by
          unfold l_ties_among_3
          rw [if2_eq (hin v), decide_eq_true q, if_pos rfl, seq2_eq (lift2_eq hset rfl), for2_eq' hi rfl]
          exact e1 v
        rw [List.map_cons, for2_cons (ρ1 := [x0, x1, .sh (.xn v), .sh (.str l.1), .sh (.tup (l.2.map .str)), s5, s6, s7]) rfl st, e]
      · rw [sp, sp1]
        unfold Tie
        constructor
        · rintro ((z | ⟨z1, z2, z3⟩) | ⟨z1, l', z2, z3⟩)
          · exact .inl z
          · exact .inr ⟨z3, l, List.mem_cons_self .., q, z1, z2⟩
          · exact .inr ⟨z1, l', List.mem_cons_of_mem _ z2, z3⟩
        · rintro (z | ⟨z1, l', z2, z3, z4, z5⟩)
          · exact .inl (.inl z)
          · rcases List.mem_cons.mp z2 with rfl | z2
            · exact .inl (.inr ⟨z4, z5, z1⟩)
            · exact .inr ⟨z1, l', z2, z3, z4, z5⟩
    · obtain ⟨m', a, b, c, d, f, e, ok', sp⟩ := tie4 nd hl x0 x1 ls m (.sh (.str l.1)) (.sh (.tup (l.2.map .str))) s5 s6 s7 ok (fun y hy => he y (List.mem_cons_of_mem _ hy)) fun y hy => hc y (List.mem_cons_of_mem _ hy)
      refine ⟨m', a, b, c, d, f, ?_, ok', fun n y => ?_⟩
      · intro v
        have st : l_ties_among_3 (tieD names m) [x0, x1, .sh (.xn v), .sh (.str l.1), .sh (.tup (l.2.map .str)), s5, s6, s7] = .nx (tieD names m) [x0, x1, .sh (.xn v), .sh (.str l.1), .sh (.tup (l.2.map .str)), s5, s6, s7] := by
          unfold l_ties_among_3
          rw [if2_eq (hin v), decide_eq_false q, if_neg Bool.false_ne_true]
        rw [List.map_cons, for2_cons (ρ1 := [x0, x1, .sh (.xn v), .sh (.str l.1), .sh (.tup (l.2.map .str)), s5, s6, s7]) rfl st, e]
      · rw [sp]
        unfold Tie
        constructor
        · rintro (z | ⟨z1, l', z2, z3⟩)
          · exact .inl z
          · exact .inr ⟨z1, l', List.mem_cons_of_mem _ z2, z3⟩
        · rintro (z | ⟨z1, l', z2, z3, z4⟩)
          · exact .inl z
          · rcases List.mem_cons.mp z2 with rfl | z2
            · exact absurd z3 q
            · exact .inr ⟨z1, l', z2, z3, z4⟩
theorem tie5 (x0 x1 x4 x5 x6 x7 : Sl) : ∀ (ns pre : List Str) (s3 : Sl), (pre ++ ns).Nodup → (pre ++ ns).length ≤ 1000 →
    ∃ s3', ∀ v, for2L (gNm 3) l_ties_among_4 (ns.map .str) (tieD pre fun _ => []) [x0, x1, .sh (.xn v), s3, x4, x5, x6, x7] = .nx (tieD (pre ++ ns) fun _ => []) [x0, x1, .sh (.xn v), s3', x4, x5, x6, x7]
  | [], pre, s3, _, _ => ⟨s3, fun v => by rw [List.append_nil]; rfl⟩
  | n :: ns, pre, s3, nd, hl => by
    have hnew : n ∉ pre := fun z => (List.nodup_append.mp nd).2.2 _ z _ (List.mem_cons_self ..) rfl
    obtain ⟨s', e⟩ := tie5 x0 x1 x4 x5 x6 x7 ns (pre ++ [n]) (.sh (.str n)) (by rw [List.append_assoc]; exact nd) (by rw [List.append_assoc]; exact hl)
    rw [List.append_assoc] at e
    refine ⟨s', fun v => ?_⟩
    rw [show pre ++ n :: ns = pre ++ ([n] ++ ns) from rfl, ← e v, List.map_cons]
    refine for2_cons (ρ1 := [x0, x1, .sh (.xn v), .sh (.str n), x4, x5, x6, x7]) rfl ?_
    unfold l_ties_among_4 tieD
    rw [new2_eq (d1 := .dct []) (k := .str n) (key := .inr n) (by simp_arith []) (by simp_arith []) rfl]
    · rw [List.map_append]
      rfl
    · rw [List.map_map]
      intro z
      obtain ⟨y, hy, e⟩ := List.mem_map.mp z
      exact hnew (by rw [← Sum.inr.inj e]; exact hy)
    · rw [List.length_map]
      rw [List.length_append] at hl
      omega
theorem ties_ok {ls : List Line} (h : LnOk ls) {names : List Str} (nd : names.Nodup) (hl : names.length ≤ 1000) (hc : ∀ l ∈ ls, l.1 ∈ names → ∀ z ∈ l.2, z ∈ names) : ∃ m, m_ties_among [linesD ls, .lst (names.map .str)] = .sh (tieD names m) ∧ OkM names m ∧ ∀ n y, y ∈ m n ↔ Tie ls names n y := by
  have ok0 : OkM names fun _ => [] := ⟨fun _ => List.nodup_nil, fun _ y hy => absurd hy List.not_mem_nil⟩
  obtain ⟨s3, e1⟩ := tie5 (.sh (linesD ls)) (.sh (.lst (names.map .str))) .un .un .un .un names [] .un (by rw [List.nil_append]; exact nd) (by rw [List.nil_append]; exact hl)
  obtain ⟨m, a, b, c, d, f, e2, ok, sp⟩ := tie4 nd hl (.sh (linesD ls)) (.sh (.lst (names.map .str))) ls (fun _ => []) s3 .un .un .un .un ok0 h.el hc
  refine ⟨m, ?_, ok, fun n y => by rw [sp]; exact ⟨fun z => z.elim (fun w => absurd w List.not_mem_nil) id, .inr⟩⟩
  have hb : b_ties_among [.sh (linesD ls), .sh (.lst (names.map .str)), .un, .un, .un, .un, .un, .un] = .rt (.sh (tieD names m)) [.sh (linesD ls), .sh (.lst (names.map .str)), .sh (tieD names m), a, b, c, d, f] := by
    unfold b_ties_among
    refine enter3_eq (ρ' := [.sh (linesD ls), .sh (.lst (names.map .str)), .ow (.dct []), .un, .un, .un, .un, .un]) (by simp_arith []) rfl fun v => ?_
    have hi1 : iSeq (eVar 1) [.sh (linesD ls), .sh (.lst (names.map .str)), .sh (.xn v), .un, .un, .un, .un, .un] = .ok (names.map .str) [.sh (linesD ls), .sh (.lst (names.map .str)), .sh (.xn v), .un, .un, .un, .un, .un] := rfl
    have hi0 : iSeq (eVar 0) [.sh (linesD ls), .sh (.lst (names.map .str)), .sh (.xn v), s3, .un, .un, .un, .un] = .ok (ls.map lineD) [.sh (linesD ls), .sh (.lst (names.map .str)), .sh (.xn v), s3, .un, .un, .un, .un] := rfl
    have f1 : for2 2 (iSeq (eVar 1)) (gNm 3) l_ties_among_4 (.dct []) [.sh (linesD ls), .sh (.lst (names.map .str)), .sh (.xn v), .un, .un, .un, .un, .un] = .nx (tieD names fun _ => []) [.sh (linesD ls), .sh (.lst (names.map .str)), .sh (.xn v), s3, .un, .un, .un, .un] := by
      rw [for2_eq' hi1 rfl]
      exact e1 v
    have f2 : for2 2 (iSeq (eVar 0)) (gUn 2 (gsCons (gNm 3) (gsCons (gNm 4) gsNil))) l_ties_among_3 (tieD names fun _ => []) [.sh (linesD ls), .sh (.lst (names.map .str)), .sh (.xn v), s3, .un, .un, .un, .un] = .nx (tieD names m) [.sh (linesD ls), .sh (.lst (names.map .str)), .sh (.xn v), a, b, c, d, f] := by
      rw [for2_eq' hi0 rfl]
      exact e2 v
    show seq3 _ _ (.dct []) [.sh (linesD ls), .sh (.lst (names.map .str)), .sh (.xn v), .un, .un, .un, .un, .un] = _
    rw [seq3_eq f1, seq3_eq f2]
    rfl
  unfold m_ties_among
  simp_arith [hb]

/-! ### reached, sides, parted -/
theorem reach1 (x0 x1 x2 x5 x6 : Sl) : ∀ (xs M : List Str) (s4 : Sl), M.length + xs.length ≤ 100000 → ∃ s4', forL (gNm 4) l_reached_from_1 (xs.map .str) [x0, x1, x2, .ow (.dct (DL.encM M)), s4, x5, x6] = .nx [x0, x1, x2, .ow (.dct (DL.encM (xs.foldl insM M))), s4', x5, x6]
  | [], M, s4, _ => ⟨s4, rfl⟩
  | x :: xs, M, s4, hl => by
    have hl0 : M.length + (xs.length + 1) ≤ 100000 := hl
    obtain ⟨s', ih⟩ := reach1 x0 x1 x2 x5 x6 xs (insM M x) (.sh (.str x)) (by have := insM_len M x; omega)
    refine ⟨s', ?_⟩
    have el : (DL.encM M).length < 16777216 := by rw [encM_len]; omega
    have pd := putD_mark M x
    rw [List.foldl_cons, ← ih, List.map_cons]
    simp_arith [u_reached_from_1, el, pd]
theorem insM_new {M : List Str} {x : Str} (h : x ∉ M) : insM M x = M ++ [x] := by unfold insM; rw [if_neg h]
theorem reach2 (x0 x1 s4 : Sl) (third : List Str) : ∀ (ys M Wt : List Str) (s6 : Sl), M.length + ys.length ≤ 100000 → Wt.length + ys.length ≤ 100000 → M.Nodup →
    ∃ add s6', forL (gNm 6) l_reached_from_2 (ys.map .str) [x0, x1, .sh (.lst (third.map .str)), .ow (.dct (DL.encM M)), s4, .ow (.lst (Wt.map .str)), s6] = .nx [x0, x1, .sh (.lst (third.map .str)), .ow (.dct (DL.encM (M ++ add))), s4, .ow (.lst ((Wt ++ add).map .str)), s6'] ∧
      (M ++ add).Nodup ∧ (∀ y ∈ add, y ∈ ys ∧ y ∉ third) ∧ ∀ y ∈ ys, y ∉ third → y ∈ M ++ add
  | [], M, Wt, s6, _, _, nd => ⟨[], s6, by rw [List.append_nil, List.append_nil]; rfl, by rw [List.append_nil]; exact nd, fun y hy => absurd hy List.not_mem_nil, fun y hy => absurd hy List.not_mem_nil⟩
  | y :: ys, M, Wt, s6, hm, hw, nd => by
    have hm0 : M.length + (ys.length + 1) ≤ 100000 := hm
    have hw0 : Wt.length + (ys.length + 1) ≤ 100000 := hw
    have i1 := in_dctM M y
    have i2 := in_lstS y third
    by_cases q : y ∉ M ∧ y ∉ third
    · obtain ⟨q1, q2⟩ := q
      rw [decide_eq_false q1] at i1
      rw [decide_eq_false q2] at i2
      obtain ⟨add, s', e, n1, n2, n3⟩ := reach2 x0 x1 s4 third ys (M ++ [y]) (Wt ++ [y]) (.sh (.str y)) (by rw [List.length_append, List.length_singleton]; omega) (by rw [List.length_append, List.length_singleton]; omega) (List.nodup_append.mpr ⟨nd, by simp, fun a ha b hb => by rw [List.mem_singleton.mp hb]; rintro rfl; exact q1 ha⟩)
      rw [List.append_assoc, List.singleton_append] at e n1 n3
      rw [List.append_assoc, List.singleton_append] at e
      refine ⟨y :: add, s', ?_, n1, fun z hz => ?_, fun z hz hn => ?_⟩
      · have el : (DL.encM M).length < 16777216 := by rw [encM_len]; omega
        have ew : Wt.length < 16777216 := by omega
        have pd := putD_mark M y
        rw [insM_new q1] at pd
        rw [← e, List.map_cons, List.map_append]
        simp_arith [u_reached_from_2, i1, i2, el, ew, pd]
      · rcases List.mem_cons.mp hz with rfl | hz
        · exact ⟨List.mem_cons_self .., q2⟩
        · exact ⟨List.mem_cons_of_mem _ (n2 z hz).1, (n2 z hz).2⟩
      · rcases List.mem_cons.mp hz with rfl | hz
        · exact List.mem_append_right _ (List.mem_cons_self ..)
        · exact n3 z hz hn
    · obtain ⟨add, s', e, n1, n2, n3⟩ := reach2 x0 x1 s4 third ys M Wt (.sh (.str y)) (by omega) (by omega) nd
      refine ⟨add, s', ?_, n1, fun z hz => ⟨List.mem_cons_of_mem _ (n2 z hz).1, (n2 z hz).2⟩, fun z hz hn => ?_⟩
      · rw [← e, List.map_cons]
        by_cases q1 : y ∈ M
        · rw [decide_eq_true q1] at i1
          simp_arith [u_reached_from_2, i1]
        · have q2 : y ∈ third := Classical.byContradiction fun z => q ⟨q1, z⟩
          rw [decide_eq_false q1] at i1
          rw [decide_eq_true q2] at i2
          simp_arith [u_reached_from_2, i1, i2]
      · rcases List.mem_cons.mp hz with rfl | hz
        · exact List.mem_append_left _ (Classical.byContradiction fun w => q ⟨w, hn⟩)
        · exact n3 z hz hn
inductive Rch (R : Str → Str → Prop) (ones third : List Str) : Str → Prop
  | base {x : Str} : x ∈ ones → Rch R ones third x
  | step {x y : Str} : Rch R ones third x → R x y → y ∉ third → Rch R ones third y
structure RI (names : List Str) (m : Str → List Str) (ones third M Wt : List Str) : Prop where
  nd : M.Nodup
  sub : ∀ x ∈ M, x ∈ names
  wt : ∀ x ∈ Wt, x ∈ M
  rch : ∀ x ∈ M, Rch (fun a b => b ∈ m a) ones third x
  ones : ∀ x ∈ ones, x ∈ M
  cl : ∀ x ∈ M, x ∉ Wt → ∀ y ∈ m x, y ∉ third → y ∈ M
theorem it_marks (M : List Str) : dItems .keys (DL.encM M) = M.map .str := by
  show List.map _ (List.map _ M) = _
  rw [List.map_map]
  rfl
abbrev rcC : TM := tVal (eOp2 pGt (eOpN pLen (aCons (eVar 5) aNil)) (eC (.int 0)))
theorem reach_while {names : List Str} {m : Str → List Str} (ok : OkM names m) (hl : names.length ≤ 1000) (x1 : Sl) (ones third : List Str) : ∀ (k : Nat) (M Wt : List Str) (s4 s6 : Sl), RI names m ones third M Wt → 2 * (names.length - M.length) + Wt.length ≤ k → k ≤ 50000 →
    ∃ M' s4' s6', whlN rcC l_reached_from_3 (k + 1) [.sh (tieD names m), x1, .sh (.lst (third.map .str)), .ow (.dct (DL.encM M)), s4, .ow (.lst (Wt.map .str)), s6] = .nx [.sh (tieD names m), x1, .sh (.lst (third.map .str)), .ow (.dct (DL.encM M')), s4', .ow (.lst []), s6'] ∧ RI names m ones third M' [] := by
  intro k
  induction k with
  | zero =>
    intro M Wt s4 s6 h hk _
    have : Wt = [] := List.length_eq_zero_iff.mp (by omega)
    subst this
    refine ⟨M, s4, s6, ?_, h⟩
    have hc : rcC [.sh (tieD names m), x1, .sh (.lst (third.map .str)), .ow (.dct (DL.encM M)), s4, .ow (.lst []), s6] = .ok false [.sh (tieD names m), x1, .sh (.lst (third.map .str)), .ow (.dct (DL.encM M)), s4, .ow (.lst []), s6] := by simp_arith [rcC]; rfl
    show whlN rcC l_reached_from_3 (0 + 1) [.sh (tieD names m), x1, .sh (.lst (third.map .str)), .ow (.dct (DL.encM M)), s4, .ow (.lst []), s6] = _
    rw [whlN, hc]
    rfl
  | succ k ih =>
    intro M Wt s4 s6 h hk hk2
    rcases List.eq_nil_or_concat Wt with rfl | ⟨W', w, rfl⟩
    · refine ⟨M, s4, s6, ?_, h⟩
      have hc : rcC [.sh (tieD names m), x1, .sh (.lst (third.map .str)), .ow (.dct (DL.encM M)), s4, .ow (.lst []), s6] = .ok false [.sh (tieD names m), x1, .sh (.lst (third.map .str)), .ow (.dct (DL.encM M)), s4, .ow (.lst []), s6] := by simp_arith [rcC]; rfl
      show whlN rcC l_reached_from_3 (k + 1 + 1) [.sh (tieD names m), x1, .sh (.lst (third.map .str)), .ow (.dct (DL.encM M)), s4, .ow (.lst []), s6] = _
      rw [whlN, hc]
      rfl
    · rw [List.concat_eq_append] at h hk ⊢
      have hwM : w ∈ M := h.wt w (by simp)
      have lM := nodup_sub h.nd h.sub
      have lm := ok.len w
      have lW : W'.length + 1 ≤ 50000 := by rw [List.length_append, List.length_singleton] at hk; omega
      obtain ⟨add, s6', e, n1, n2, n3⟩ := reach2 (.sh (tieD names m)) x1 (.sh (.str w)) third (m w) M W' s6 (by omega) (by omega) h.nd
      have hR : RI names m ones third (M ++ add) (W' ++ add) := by
        refine ⟨n1, fun x hx => ?_, fun x hx => ?_, fun x hx => ?_, fun x hx => List.mem_append_left _ (h.ones x hx), fun x hx hn y hy ht => ?_⟩
        · rcases List.mem_append.mp hx with hx | hx
          · exact h.sub x hx
          · exact ok.sub w x (n2 x hx).1
        · rcases List.mem_append.mp hx with hx | hx
          · exact List.mem_append_left _ (h.wt x (List.mem_append_left _ hx))
          · exact List.mem_append_right _ hx
        · rcases List.mem_append.mp hx with hx | hx
          · exact h.rch x hx
          · exact .step (h.rch w hwM) (n2 x hx).1 (n2 x hx).2
        · rcases List.mem_append.mp hx with hx | hx
          · by_cases z : x = w
            · subst z; exact n3 y hy ht
            · exact List.mem_append_left _ (h.cl x hx (fun q => by
                rcases List.mem_append.mp q with q | q
                · exact hn (List.mem_append_left _ q)
                · exact z (List.mem_singleton.mp q)) y hy ht)
          · exact absurd (List.mem_append_right _ hx) hn
      have l2 := nodup_sub n1 hR.sub
      rw [List.length_append] at l2
      obtain ⟨M', a, b, e2, h2⟩ := ih (M ++ add) (W' ++ add) (.sh (.str w)) s6' hR (by rw [List.length_append, List.length_append]; rw [List.length_append, List.length_singleton] at hk; omega) (by omega)
      refine ⟨M', a, b, ?_, h2⟩
      have lw : ((W' ++ [w]).map D.str).length = W'.length + 1 := by simp
      have g0 : (0 : Int) < ((W'.length + 1 : Nat) : Int) := by omega
      have hc : rcC [.sh (tieD names m), x1, .sh (.lst (third.map .str)), .ow (.dct (DL.encM M)), s4, .ow (.lst ((W' ++ [w]).map .str)), s6] = .ok true [.sh (tieD names m), x1, .sh (.lst (third.map .str)), .ow (.dct (DL.encM M)), s4, .ow (.lst ((W' ++ [w]).map .str)), s6] := by
        unfold rcC
        rw [← lw] at g0
        generalize (W' ++ [w]).map D.str = Z at *
        have g1 : decide ((Z.length : Int) > 0) = true := decide_eq_true g0
        simp_arith [g1, g0]
      have hp : mPop (.lst ((W' ++ [w]).map .str)) [] = some (.str w, .lst (W'.map .str)) := by
        rw [p_pop, lw, List.map_append, List.map_cons, List.map_nil, List.getElem?_append_right (by simp), List.dropLast_concat]
        simp
      have hs : sSet 4 (eMut 5 "list" mPop aNil) [.sh (tieD names m), x1, .sh (.lst (third.map .str)), .ow (.dct (DL.encM M)), s4, .ow (.lst ((W' ++ [w]).map .str)), s6] = .nx [.sh (tieD names m), x1, .sh (.lst (third.map .str)), .ow (.dct (DL.encM M)), .sh (.str w), .ow (.lst (W'.map .str)), s6] := by
        simp_arith [-DL.p_pop, hp]
      have hb : l_reached_from_3 [.sh (tieD names m), x1, .sh (.lst (third.map .str)), .ow (.dct (DL.encM M)), s4, .ow (.lst ((W' ++ [w]).map .str)), s6] = .nx [.sh (tieD names m), x1, .sh (.lst (third.map .str)), .ow (.dct (DL.encM (M ++ add))), .sh (.str w), .ow (.lst ((W' ++ add).map .str)), s6'] := by
        rw [u_reached_from_3]
        show (sSet 4 _ _).bind _ = _
        rw [hs]
        show sForIx 0 4 _ _ _ = _
        unfold tieD at e ⊢
        rw [v_forIx (kvs := names.map fun n => ((.inr n : Key), D.dct (DL.encM (m n)))) (es := DL.encM (m w)) (k := .str w) (key := .inr w) rfl rfl rfl (by rw [tie_val, if_pos (h.sub w hwM)]), it_marks]
        exact e
      rw [whlN, hc]
      show (match l_reached_from_3 _ with | .nx ρ2 => _ | .ct ρ2 => _ | .bk ρ2 => _ | .rt r ρ2 => _ | .xc e ρ2 => _ | .bad => _) = _
      rw [hb]
      exact e2
theorem reached_ok {names : List Str} {m : Str → List Str} (ok : OkM names m) (hl : names.length ≤ 1000) {ones third : List Str} (ho : ∀ x ∈ ones, x ∈ names) (hol : ones.length ≤ 1000) :
    ∃ M, m_reached_from [tieD names m, .lst (ones.map .str), .lst (third.map .str)] = .ow (.dct (DL.encM M)) ∧ (∀ x, x ∈ M ↔ Rch (fun a b => b ∈ m a) ones third x) ∧ M.length ≤ names.length := by
  obtain ⟨s4, e1⟩ := reach1 (.sh (tieD names m)) (.sh (.lst (ones.map .str))) (.sh (.lst (third.map .str))) .un .un ones [] .un (by simp; omega)
  have fm : ∀ x, x ∈ ones.foldl insM [] ↔ x ∈ ones := fun x => by rw [mem_foldM]; simp
  have fn : ∀ (xs M : List Str), M.Nodup → (xs.foldl insM M).Nodup := fun xs => by
    induction xs with
    | nil => exact fun M h => h
    | cons x xs ih => exact fun M h => ih _ (insM_nodup h)
  have h0 : RI names m ones third (ones.foldl insM []) ones := ⟨fn ones [] List.nodup_nil, fun x hx => ho x ((fm x).mp hx), fun x hx => (fm x).mpr hx, fun x hx => .base ((fm x).mp hx), fun x hx => (fm x).mpr hx, fun x hx hn => absurd ((fm x).mp hx) hn⟩
  obtain ⟨M, a, b, e2, h2⟩ := reach_while ok hl (.sh (.lst (ones.map .str))) ones third 3000 (ones.foldl insM []) ones s4 .un h0 (by omega) (by decide)
  refine ⟨M, ?_, fun x => ⟨h2.rch x, fun r => ?_⟩, nodup_sub h2.nd h2.sub⟩
  · have e3 := sWhl_eq (c := rcC) (body := l_reached_from_3) (n := 3000 + 1) (by rw [e2]; intro z; cases z)
    rw [e2] at e3
    have a2 : ones.length ≤ 16777216 := by omega
    rw [show DL.encM [] = [] from rfl] at e1
    unfold m_reached_from b_reached_from
    simp_arith [e1, a2, e3]
  · induction r with
    | base h => exact h2.ones _ h
    | step _ hr ht ih => exact h2.cl _ ih List.not_mem_nil _ hr ht
theorem Rch.congr {R R' : Str → Str → Prop} (h : ∀ x y, R x y ↔ R' x y) {ones third : List Str} {x : Str} : Rch R ones third x ↔ Rch R' ones third x := by
  constructor
  · intro r
    induction r with
    | base q => exact .base q
    | step _ hr ht ih => exact .step ih ((h _ _).mp hr) ht
  · intro r
    induction r with
    | base q => exact .base q
    | step _ hr ht ih => exact .step ih ((h _ _).mpr hr) ht
theorem above_nd {ls : List Line} (h : LnOk ls) (N : List Str) : (aboveS ls N).Nodup := by
  unfold aboveS
  exact h.nd.sublist (List.filter_sublist ..)
theorem above_len (ls : List Line) (N : List Str) : (aboveS ls N).length ≤ ls.length := by
  unfold aboveS
  have := List.length_filter_le (fun x => decide (x ∈ markUp N ls.reverse)) (ls.map (·.1))
  rw [List.length_map] at this
  exact this
theorem above_closed {ls : List Line} (h : LnB ls) {N : List Str} (hN : ∀ y ∈ N, y ∈ ls.map (·.1)) : ∀ l ∈ ls, l.1 ∈ aboveS ls N → ∀ z ∈ l.2, z ∈ aboveS ls N := fun l hl hm z hz => by
  rw [mem_above h.ok.nd h.tp hN] at hm ⊢
  obtain ⟨y, hy, u⟩ := hm
  exact ⟨y, hy, (Up.one (y := l.1) (el := l.2) hl hz).trans u⟩
theorem above_self {ls : List Line} (h : LnB ls) {N : List Str} (hN : ∀ y ∈ N, y ∈ ls.map (·.1)) {x : Str} (hx : x ∈ N) : x ∈ aboveS ls N := by
  rw [mem_above h.ok.nd h.tp hN]
  exact ⟨x, hx, .refl⟩
theorem sides_loop (x0 x1 x2 x3 x4 x7 x8 : Sl) (M : List Str) : ∀ (ys : List Str) (s6 : Sl), ((∃ y ∈ ys, y ∈ M) ∧ ∃ ρ', forL (gNm 6) l_sides_1 (ys.map .str) [x0, x1, x2, x3, x4, .ow (.dct (DL.encM M)), s6, x7, x8] = .rt (.sh .non) ρ') ∨
    ((¬∃ y ∈ ys, y ∈ M) ∧ ∃ s6', forL (gNm 6) l_sides_1 (ys.map .str) [x0, x1, x2, x3, x4, .ow (.dct (DL.encM M)), s6, x7, x8] = .nx [x0, x1, x2, x3, x4, .ow (.dct (DL.encM M)), s6', x7, x8])
  | [], s6 => .inr ⟨fun ⟨y, hy, _⟩ => absurd hy List.not_mem_nil, s6, rfl⟩
  | y :: ys, s6 => by
    have hi := in_dctM M y
    by_cases q : y ∈ M
    · rw [decide_eq_true q] at hi
      refine .inl ⟨⟨y, List.mem_cons_self .., q⟩, [x0, x1, x2, x3, x4, .ow (.dct (DL.encM M)), .sh (.str y), x7, x8], ?_⟩
      rw [List.map_cons]
      simp_arith [u_sides_1, hi]
    · rw [decide_eq_false q] at hi
      have step : forL (gNm 6) l_sides_1 ((y :: ys).map .str) [x0, x1, x2, x3, x4, .ow (.dct (DL.encM M)), s6, x7, x8] = forL (gNm 6) l_sides_1 (ys.map .str) [x0, x1, x2, x3, x4, .ow (.dct (DL.encM M)), .sh (.str y), x7, x8] := by
        rw [List.map_cons]
        simp_arith [u_sides_1, hi]
      rw [step]
      rcases sides_loop x0 x1 x2 x3 x4 x7 x8 M ys (.sh (.str y)) with ⟨⟨z, hz, hm⟩, r⟩ | ⟨hn, r⟩
      · exact .inl ⟨⟨z, List.mem_cons_of_mem _ hz, hm⟩, r⟩
      · refine .inr ⟨fun ⟨z, hz, hm⟩ => ?_, r⟩
        rcases List.mem_cons.mp hz with rfl | hz
        · exact q hm
        · exact hn ⟨z, hz, hm⟩
theorem sides_ok {ls : List Line} (h : LnB ls) {A B C : List Str} (hs : ∀ x ∈ A ++ B ++ C, x ∈ ls.map (·.1)) (nd : (A ++ B ++ C).Nodup) :
    ∃ M : List Str, (∀ x, x ∈ M ↔ Rch (Tie ls (aboveS ls (A ++ B ++ C))) A C x) ∧
      (((∃ y ∈ B, y ∈ M) ∧ m_sides [linesD ls, .lst (A.map .str), .lst (B.map .str), .lst (C.map .str)] = .sh .non) ∨
       ((¬∃ y ∈ B, y ∈ M) ∧ m_sides [linesD ls, .lst (A.map .str), .lst (B.map .str), .lst (C.map .str)] = .sh (.tup [.lst (((aboveS ls (A ++ B ++ C)).filter fun x => decide (x ∈ M)).map .str), .lst (((aboveS ls (A ++ B ++ C)).filter fun x => !decide (x ∈ M) && !decide (x ∈ C)).map .str)]))) := by
  have len := h.len
  have hl : (A ++ B ++ C).length ≤ 1000 := by
    have := nodup_sub nd hs
    rw [List.length_map] at this
    omega
  have lo := lists_ok h.ok hs nd hl
  have ab := above_ok h hs hl
  have an := above_nd h.ok (A ++ B ++ C)
  have al := above_len ls (A ++ B ++ C)
  have ac := above_closed h hs
  have asf : ∀ x ∈ A, x ∈ aboveS ls (A ++ B ++ C) := fun x hx => above_self h hs (by simp [hx])
  obtain ⟨m, e1, om, sp⟩ := ties_ok h.ok an (by omega) ac
  obtain ⟨M, e2, hM, lM⟩ := reached_ok om (by omega) (ones := A) (third := C) asf (by rw [List.length_append, List.length_append] at hl; omega)
  have l1 : A.length + B.length ≤ 16777216 := by rw [List.length_append, List.length_append] at hl; omega
  have l2 : A.length + B.length + C.length ≤ 16777216 := by rw [List.length_append, List.length_append] at hl; omega
  have l3 : A.length ≤ 16777216 := by omega
  have l4 : B.length ≤ 16777216 := by omega
  have l5 : C.length ≤ 16777216 := by omega
  refine ⟨M, fun x => (hM x).trans (Rch.congr sp), ?_⟩
  rw [List.map_append, List.map_append] at ab
  generalize aboveS ls (A ++ B ++ C) = N at *
  have l6 : N.length ≤ 16777216 := by omega
  rcases sides_loop (.sh (linesD ls)) (.sh (.lst (A.map .str))) (.sh (.lst (B.map .str))) (.sh (.lst (C.map .str))) (.sh (.lst (N.map .str))) .un .un M B .un with ⟨hb, ρ', e3⟩ | ⟨hb, s6, e3⟩
  · refine .inl ⟨hb, ?_⟩
    unfold m_sides b_sides
    simp_arith [lo, l1, l2, l3, l4, l5, ab, e1, e2, e3]
  · refine .inr ⟨hb, ?_⟩
    have lc1 := lc_filter (vs := [6]) (g := gNm 6) (tt := tVal (eOp2 pIn (eVar 6) (eVar 5))) (e := eVar 6) D.str D.str (fun x => decide (x ∈ M)) [.sh (linesD ls), .sh (.lst (A.map .str)), .sh (.lst (B.map .str)), .sh (.lst (C.map .str)), .sh (.lst (N.map .str)), .ow (.dct (DL.encM M)), .un, .un, .un] N [] (fun x _ acc ds => by
      have hi := in_dctM M x
      by_cases q : x ∈ M
      · simp_arith [hi, q]
      · simp_arith [hi, q])
    have lc2 := lc_filter (vs := [6]) (g := gNm 6) (tt := tAndD (tVal (eOp2 pNotIn (eVar 6) (eVar 5))) (tVal (eOp2 pNotIn (eVar 6) (eVar 3)))) (e := eVar 6) D.str D.str (fun x => !decide (x ∈ M) && !decide (x ∈ C)) [.sh (linesD ls), .sh (.lst (A.map .str)), .sh (.lst (B.map .str)), .sh (.lst (C.map .str)), .sh (.lst (N.map .str)), .ow (.dct (DL.encM M)), .un, .ow (.lst ((N.filter fun x => decide (x ∈ M)).map .str)), .un] N [] (fun x _ acc ds => by
      have hi := in_dctM M x
      have hj := in_lstS x C
      by_cases q : x ∈ M
      · simp_arith [hi, q, Bool.false_and]
      · by_cases q2 : x ∈ C
        · simp_arith [hi, hj, q, q2, Bool.true_and]
        · simp_arith [hi, hj, q, q2, Bool.true_and])
    unfold m_sides b_sides
    simp_arith [lo, l1, l2, l3, l4, l5, ab, e1, e2, e3, l6, lc1, lc2]
theorem sides_xc {ls : List Line} {A B C : List Str} {c : Str} (h : m_look_at_lists [linesD ls, .lst (A.map .str), .lst (B.map .str), .lst (C.map .str)] = .xc c) : m_sides [linesD ls, .lst (A.map .str), .lst (B.map .str), .lst (C.map .str)] = .xc c := by
  unfold m_sides b_sides
  simp_arith [h]
/-! ## a name is parted by its elders from all that is not below it -/
def posL (ls : List Line) (x : Str) : Nat := (ls.map (·.1)).idxOf x
theorem posL_lt {ls : List Line} (nd : (ls.map (·.1)).Nodup) (tp : Topo ls) {y z : Str} {el : List Str} (h : (y, el) ∈ ls) (hz : z ∈ el) : posL ls z < posL ls y := by
  obtain ⟨a, b, e⟩ := List.append_of_mem h
  have hp := tp a (y, el) b e z hz
  have hn : ls.map (·.1) = a.map (·.1) ++ y :: b.map (·.1) := by rw [e, List.map_append, List.map_cons]
  have hy : y ∉ a.map (·.1) := fun q => by
    rw [hn] at nd
    exact (List.nodup_append.mp nd).2.2 _ q _ (List.mem_cons_self ..) rfl
  unfold posL
  rw [hn, List.idxOf_append, if_pos hp, List.idxOf_append, if_neg hy, List.idxOf_cons_self]
  rw [Nat.zero_add]
  exact List.idxOf_lt_length_iff.mpr hp
theorem Up.posL {ls : List Line} (nd : (ls.map (·.1)).Nodup) (tp : Topo ls) {x y : Str} (u : Up ls x y) : x = y ∨ posL ls x < posL ls y := by
  induction u with
  | refl => exact .inl rfl
  | step h hz _ ih =>
    have := posL_lt nd tp h hz
    rcases ih with e | l
    · rw [e]; exact .inr this
    · exact .inr (by omega)
theorem Up.anti {ls : List Line} (nd : (ls.map (·.1)).Nodup) (tp : Topo ls) {x y : Str} (u : Up ls x y) (v : Up ls y x) : x = y := by
  rcases u.posL nd tp with e | l
  · exact e
  · rcases v.posL nd tp with e | l2
    · exact e.symm
    · omega
theorem Tie.symm {ls : List Line} {N : List Str} {x y : Str} (h : Tie ls N x y) : Tie ls N y x := by
  obtain ⟨n, l, hl, hm, a, b⟩ := h
  exact ⟨n.symm, l, hl, hm, b, a⟩
theorem line_one {ls : List Line} (nd : (ls.map (·.1)).Nodup) {y : Str} {a b : List Str} (ha : (y, a) ∈ ls) (hb : (y, b) ∈ ls) : a = b := by
  induction ls with
  | nil => cases ha
  | cons l ls ih =>
    rw [List.map_cons, List.nodup_cons] at nd
    rcases List.mem_cons.mp ha with ea | ha <;> rcases List.mem_cons.mp hb with eb | hb
    · rw [← eb] at ea; exact (Prod.mk.inj ea).2
    · exact absurd (List.mem_map.mpr ⟨_, hb, by rw [← ea]⟩) nd.1
    · exact absurd (List.mem_map.mpr ⟨_, ha, by rw [← eb]⟩) nd.1
    · exact ih nd.2 ha hb
/-- among what is above the name, its elders and what is not below it, the name is tied to its elders alone -/
theorem ties_local {ls : List Line} (h : LnB ls) {n : Str} {el : List Str} (hl : (n, el) ∈ ls) {S : List Str} (hS : ∀ y ∈ S, y ∈ ls.map (·.1)) (hb : ∀ y ∈ S, y = n ∨ y ∈ el ∨ ¬Up ls n y) {y : Str} (t : Tie ls (aboveS ls S) n y) : y ∈ el := by
  obtain ⟨ne, l, hm, hN, a, b⟩ := t
  obtain ⟨nm, le⟩ := l
  -- no name below n is among those above S
  have none_ : ∀ d, d ∈ aboveS ls S → Up ls n d → d = n := fun d hd u => by
    obtain ⟨z, hz, v⟩ := (mem_above h.ok.nd h.tp hS d).mp hd
    rcases hb z hz with rfl | hz2 | hz2
    · exact v.anti h.ok.nd h.tp u
    · exact ((v.trans (Up.one hl hz2))).anti h.ok.nd h.tp u
    · exact absurd (u.trans v) hz2
  by_cases q : nm = n
  · subst q
    have := line_one h.ok.nd hm hl
    subst this
    rcases List.mem_append.mp b with b | b
    · exact b
    · exact absurd (List.mem_singleton.mp b).symm ne
  · exfalso
    rcases List.mem_append.mp a with a | a
    · exact q (none_ nm hN (Up.one hm a))
    · exact q (List.mem_singleton.mp a).symm
theorem local_one {ls : List Line} (h : LnB ls) {n : Str} {el : List Str} (hl : (n, el) ∈ ls) {S : List Str} (hS : ∀ y ∈ S, y ∈ ls.map (·.1)) (hb : ∀ y ∈ S, y = n ∨ y ∈ el ∨ ¬Up ls n y) {x : Str} (r : Rch (Tie ls (aboveS ls S)) [n] el x) : x = n := by
  induction r with
  | base q => exact List.mem_singleton.mp q
  | step _ t nt ih =>
    rw [ih] at t
    exact absurd (ties_local h hl hS hb t) nt
theorem local_other {ls : List Line} (h : LnB ls) {n : Str} {el : List Str} (hl : (n, el) ∈ ls) {S R : List Str} (hS : ∀ y ∈ S, y ∈ ls.map (·.1)) (hb : ∀ y ∈ S, y = n ∨ y ∈ el ∨ ¬Up ls n y) (hR : ∀ y ∈ R, y ≠ n ∧ y ∉ el) {x : Str} (r : Rch (Tie ls (aboveS ls S)) R el x) : x ≠ n ∧ x ∉ el := by
  induction r with
  | base q => exact hR _ q
  | step _ t nt ih =>
    refine ⟨fun e => ?_, nt⟩
    rw [e] at t
    exact ih.2 (ties_local h hl hS hb t.symm)

/-! ## the law's own names above some -/
theorem lelders_loop (x0 : Sl) : ∀ (rest pre : List Line) (s2 s3 : Sl), ((pre ++ rest).map (·.1)).Nodup → (pre ++ rest).length ≤ 100000 →
    ∃ s2' s3', forL (gUn 2 (gsCons (gNm 2) (gsCons (gNm 3) gsNil))) l__law_elders_1 (rest.map lineD) [x0, .ow (.dct (encA elT pre)), s2, s3] = .nx [x0, .ow (.dct (encA elT (pre ++ rest))), s2', s3']
  | [], pre, s2, s3, _, _ => ⟨s2, s3, by rw [List.append_nil]; rfl⟩
  | l :: rest, pre, s2, s3, hn, hl => by
    have hnew : l.1 ∉ pre.map (·.1) := fun z => by
      rw [List.map_append, List.map_cons] at hn
      exact (List.nodup_append.mp hn).2.2 _ z _ (List.mem_cons_self ..) rfl
    obtain ⟨a, b, ih⟩ := lelders_loop x0 rest (pre ++ [l]) (.sh (.str l.1)) (.sh (elT l.2)) (by rw [List.append_assoc]; exact hn) (by rw [List.append_assoc]; exact hl)
    have e : putD (encA elT pre) (.inr l.1) (elT l.2) = encA elT (pre ++ [l]) := by rw [putD_enc, putA_new hnew]
    have el : (encA elT pre).length < 16777216 := by rw [encA_len]; rw [List.length_append] at hl; omega
    refine ⟨a, b, ?_⟩
    rw [List.append_assoc] at ih
    rw [show pre ++ l :: rest = pre ++ ([l] ++ rest) from rfl, ← ih, List.map_cons]
    unfold elT at e el
    unfold lineD elT
    simp_arith [u__law_elders_1, e, el]
theorem lelders_ok {ls : List Line} (h : LnOk ls) : m__law_elders [linesD ls] = .ow (.dct (encA elT ls)) := by
  obtain ⟨a, b, e⟩ := lelders_loop (.sh (linesD ls)) ls [] .un .un (by rw [List.nil_append]; exact h.nd) (by rw [List.nil_append]; have := h.len; omega)
  rw [List.nil_append, show encA elT ([] : List Line) = [] from rfl] at e
  unfold linesD at *
  unfold m__law_elders b__law_elders
  simp_arith [e]
/-- the law's own marks -/
def lawM (M : List Str) : List Line → List Str
  | [] => M
  | l :: r => lawM (if l.1 ∈ M then M ++ l.2.filter (fun z => !decide (z ∈ M)) else M) r
theorem lawM_mem : ∀ (r : List Line) (M N : List Str), (∀ x, x ∈ M ↔ x ∈ N) → ∀ x, x ∈ lawM M r ↔ x ∈ markUp N r
  | [], M, N, h, x => h x
  | l :: r, M, N, h, x => by
    unfold lawM markUp
    refine lawM_mem r _ _ (fun y => ?_) x
    by_cases q : l.1 ∈ M
    · rw [if_pos q, if_pos ((h _).mp q), mem_foldM, List.mem_append, List.mem_filter]
      have hb := h y
      by_cases b : y ∈ M
      · simp [b, hb.mp b]
      · have b2 : y ∉ N := fun z => b (hb.mpr z)
        simp [b, b2]
    · rw [if_neg q, if_neg fun z => q ((h _).mpr z)]
      exact h y
theorem getA_line {ls : List Line} (nd : (ls.map (·.1)).Nodup) {l : Line} (hl : l ∈ ls) : getA ls l.1 = some l.2 := by
  unfold getA
  induction ls with
  | nil => cases hl
  | cons y ls ih =>
    rw [List.map_cons, List.nodup_cons] at nd
    rw [List.find?_cons]
    rcases List.mem_cons.mp hl with rfl | hl
    · rw [decide_eq_true rfl]; rfl
    · have : y.1 ≠ l.1 := fun z => nd.1 (by rw [z]; exact List.mem_map.mpr ⟨l, hl, rfl⟩)
      rw [decide_eq_false this]
      exact ih nd.2 hl
theorem lmark_loop {ls : List Line} (h : LnB ls) (x0 x1 : Sl) : ∀ (r : List Line) (M : List Str) (s4 : Sl), (∀ l ∈ r, l ∈ ls) → M.length + 10 * r.length ≤ 90000 →
    ∃ s4', forL (gNm 4) l__law_above_1 (r.map fun l => .str l.1) [x0, x1, .ow (.dct (encA elT ls)), .ow (.lst (M.map .str)), s4, .un, .un] = .nx [x0, x1, .ow (.dct (encA elT ls)), .ow (.lst ((lawM M r).map .str)), s4', .un, .un]
  | [], M, s4, _, _ => ⟨s4, rfl⟩
  | l :: r, M, s4, hr, hl => by
    have hl0 : M.length + 10 * (r.length + 1) ≤ 90000 := hl
    have lm := hr l (List.mem_cons_self ..)
    have r' : ∀ y ∈ r, y ∈ ls := fun y hy => hr y (List.mem_cons_of_mem _ hy)
    have hi := in_lstS l.1 M
    have l10 := h.el l lm
    rw [List.map_cons]
    by_cases q : l.1 ∈ M
    · rw [decide_eq_true q] at hi
      have lf := List.length_filter_le (fun z => !decide (z ∈ M)) l.2
      obtain ⟨s', ih⟩ := lmark_loop h x0 x1 r (M ++ l.2.filter fun z => !decide (z ∈ M)) (.sh (.str l.1)) r' (by rw [List.length_append]; omega)
      refine ⟨s', ?_⟩
      rw [show lawM M (l :: r) = lawM (M ++ l.2.filter fun z => !decide (z ∈ M)) r by show lawM (if l.1 ∈ M then _ else _) r = _; rw [if_pos q], ← ih]
      have gv : valD (encA elT ls) (.inr l.1) = some (elT l.2) := by rw [valD_enc, getA_line h.ok.nd lm]; rfl
      have lc := lc_filter (vs := [6]) (g := gNm 6) (tt := tVal (eOp2 pNotIn (eVar 6) (eVar 3))) (e := eVar 6) D.str D.str (fun z => !decide (z ∈ M)) [x0, x1, .ow (.dct (encA elT ls)), .ow (.lst (M.map .str)), .sh (.str l.1), .un, .un] l.2 [] (fun y _ acc ds => by
        have hi := in_lstS y M
        by_cases q : y ∈ M
        · simp_arith [hi, q]
        · simp_arith [hi, q])
      have a2 : l.2.length ≤ 16777216 := by omega
      have a3 : M.length + (l.2.filter fun z => !decide (z ∈ M)).length ≤ 16777216 := by omega
      unfold elT at *
      rw [List.map_append]
      simp_arith [u__law_above_1, hi, gv, a2, a3, lc]
    · rw [decide_eq_false q] at hi
      obtain ⟨s', ih⟩ := lmark_loop h x0 x1 r M (.sh (.str l.1)) r' (by omega)
      refine ⟨s', ?_⟩
      rw [show lawM M (l :: r) = lawM M r by show lawM (if l.1 ∈ M then _ else _) r = _; rw [if_neg q], ← ih]
      simp_arith [u__law_above_1, hi]
theorem law_above_ok {ls : List Line} (h : LnB ls) {N : List Str} (hl : N.length ≤ 1000) : m__law_above [linesD ls, .lst (N.map .str)] = .ow (.lst ((aboveS ls N).map .str)) := by
  have le := lelders_ok h.ok
  have len := h.len
  obtain ⟨s4, e⟩ := lmark_loop h (.sh (linesD ls)) (.sh (.lst (N.map .str))) ls.reverse N .un (fun l hl => List.mem_reverse.mp hl) (by rw [List.length_reverse]; omega)
  have lc := lc_map (vs := [5]) (g := gNm 5) (tt := tYesD) (e := eOp2 pIx (eVar 5) (eC (.int 0))) lineD (fun l => D.str l.1) [.sh (linesD ls), .sh (.lst (N.map .str)), .ow (.dct (encA elT ls)), .ow (.lst (N.map .str)), .un, .un, .un] ls.reverse [] (fun l _ acc ds => by unfold lineD; simp_arith [])
  have lc2 := lc_filter (vs := [4]) (g := gNm 4) (tt := tVal (eOp2 pIn (eVar 4) (eVar 3))) (e := eVar 4) D.str D.str (fun x => decide (x ∈ lawM N ls.reverse)) [.sh (linesD ls), .sh (.lst (N.map .str)), .sh (.dct (encA elT ls)), .ow (.lst ((lawM N ls.reverse).map .str)), .un, .un, .un] (ls.map (·.1)) [] (fun x _ acc ds => by
    have hi := in_lstS x (lawM N ls.reverse)
    by_cases q : x ∈ lawM N ls.reverse
    · simp_arith [hi, q]
    · simp_arith [hi, q])
  have fin_ : (ls.map (·.1)).filter (fun x => decide (x ∈ lawM N ls.reverse)) = aboveS ls N := by
    unfold aboveS
    congr 1
    funext x
    rw [decide_eq_decide]
    exact lawM_mem _ _ _ (fun _ => Iff.rfl) x
  rw [fin_] at lc2
  have dk : dItems .keys (encA elT ls) = (ls.map (·.1)).map .str := by
    show (List.map (fun p : Str × List Str => ((Sum.inr p.1 : Key), elT p.2)) ls).map (fun kv => kD kv.1) = _
    rw [List.map_map, List.map_map]
    rfl
  have ll : ls.length ≤ 16777216 := by omega
  have ll2 : (encA elT ls).length ≤ 16777216 := by rw [encA_len]; exact ll
  rw [List.map_reverse] at lc
  unfold linesD at *
  unfold m__law_above b__law_above
  simp_arith [le, ll, ll2, lc, e, dk, lc2]

/-! ## the law's look at two sides -/
theorem ne_nil (a : List Str) (h : ∀ x ∈ a, PyData.strOk x = true) : pNe (.lst (a.map .str)) (.lst []) = .v (.bl (!decide (a = []))) := by
  have sa := shd_strs 0 h
  have sb : ShD 1 (.lst []) := .lst fun d hd => by cases hd
  unfold pNe
  dsimp only
  rw [if_pos ⟨sa.shaped (by decide), sb.shaped (by decide)⟩]
  congr 3
  show PyData.eqvAll (toPys (a.map .str)) (toPys []) = decide (a = [])
  cases a with
  | nil => rfl
  | cons x a => rfl
theorem sd_loop1 (x0 x1 x4 x7 x8 x10 x11 x12 x13 : Sl) (A B L R : List Str) (hl : L.length + R.length ≤ 16777216) : ∀ (xs : List Str) (s9 : Sl), (∀ x ∈ xs, (L ++ R).count x = 1 ∧ ¬(x ∈ A ∧ x ∈ R) ∧ ¬(x ∈ B ∧ x ∈ L)) →
    ∃ s9', forL (gNm 9) l__law_sides_1 (xs.map .str) [x0, x1, .sh (.lst (A.map .str)), .sh (.lst (B.map .str)), x4, .sh (.lst (L.map .str)), .sh (.lst (R.map .str)), x7, x8, s9, x10, x11, x12, x13] = .nx [x0, x1, .sh (.lst (A.map .str)), .sh (.lst (B.map .str)), x4, .sh (.lst (L.map .str)), .sh (.lst (R.map .str)), x7, x8, s9', x10, x11, x12, x13]
  | [], s9, _ => ⟨s9, rfl⟩
  | x :: xs, s9, h => by
    obtain ⟨h1, h2, h3⟩ := h x (List.mem_cons_self ..)
    obtain ⟨s', ih⟩ := sd_loop1 x0 x1 x4 x7 x8 x10 x11 x12 x13 A B L R hl xs (.sh (.str x)) fun y hy => h y (List.mem_cons_of_mem _ hy)
    refine ⟨s', ?_⟩
    have pc : pCount (.lst (L.map .str ++ R.map .str)) [.str x] = .v (.int 1) := by
      rw [← List.map_append, p_cnt, h1]; rfl
    have ia := in_lstS x A
    have ir := in_lstS x R
    have ib := in_lstS x B
    have il := in_lstS x L
    rw [← ih, List.map_cons]
    by_cases qa : x ∈ A
    · have qr : x ∉ R := fun z => h2 ⟨qa, z⟩
      rw [decide_eq_true qa] at ia
      rw [decide_eq_false qr] at ir
      by_cases qb : x ∈ B
      · have ql : x ∉ L := fun z => h3 ⟨qb, z⟩
        rw [decide_eq_true qb] at ib
        rw [decide_eq_false ql] at il
        simp_arith [u__law_sides_1, hl, pc, ia, ir, ib, il, wipeD]
      · rw [decide_eq_false qb] at ib
        simp_arith [u__law_sides_1, hl, pc, ia, ir, ib, il]
    · rw [decide_eq_false qa] at ia
      by_cases qb : x ∈ B
      · have ql : x ∉ L := fun z => h3 ⟨qb, z⟩
        rw [decide_eq_true qb] at ib
        rw [decide_eq_false ql] at il
        simp_arith [u__law_sides_1, hl, pc, ia, ib, il]
      · rw [decide_eq_false qb] at ib
        simp_arith [u__law_sides_1, hl, pc, ia, ib]
theorem sd_loop2 (x0 x1 x2 x3 x4 x8 : Sl) (N L R : List Str) (hL : ∀ x ∈ L, PyData.strOk x = true) (hR : ∀ x ∈ R, PyData.strOk x = true) : ∀ (ls : List Line) (s9 s10 s11 s12 : Sl), (∀ l ∈ ls, l.2.length ≤ 1000) → (∀ l ∈ ls, l.1 ∈ N → ∀ a ∈ l.2 ++ [l.1], ∀ b ∈ l.2 ++ [l.1], ¬(a ∈ L ∧ b ∈ R)) →
    ∃ s9' s10' s11' s12', forL (gUn 2 (gsCons (gNm 9) (gsCons (gNm 10) gsNil))) l__law_sides_2 (ls.map lineD) [x0, x1, x2, x3, x4, .sh (.lst (L.map .str)), .sh (.lst (R.map .str)), .sh (.lst (N.map .str)), x8, s9, s10, s11, s12, .un] = .nx [x0, x1, x2, x3, x4, .sh (.lst (L.map .str)), .sh (.lst (R.map .str)), .sh (.lst (N.map .str)), x8, s9', s10', s11', s12', .un]
  | [], s9, s10, s11, s12, _, _ => ⟨s9, s10, s11, s12, rfl⟩
  | l :: ls, s9, s10, s11, s12, he, hc => by
    have l1000 := he l (List.mem_cons_self ..)
    have hc0 := hc l (List.mem_cons_self ..)
    have a1 : l.2.length + 1 ≤ 16777216 := by omega
    have a2 : l.2.length ≤ 16777216 := by omega
    have fm : (l.2 ++ [l.1]).map D.str = l.2.map .str ++ [.str l.1] := by rw [List.map_append]; rfl
    have lcF : ∀ (Z : List Str) (k : Nat) (hk : k = 5 ∧ Z = L ∨ k = 6 ∧ Z = R), lcL [13] (gNm 13) (tVal (eOp2 pIn (eVar 13) (eVar k))) (eVar 13) (l.2.map .str ++ [.str l.1]) [] [x0, x1, x2, x3, x4, .sh (.lst (L.map .str)), .sh (.lst (R.map .str)), .sh (.lst (N.map .str)), x8, .sh (.str l.1), .sh (.tup (l.2.map .str)), .sh (.lst (l.2.map .str ++ [.str l.1])), s12, .un] = .ok (.ow (.lst (((l.2 ++ [l.1]).filter fun x => decide (x ∈ Z)).map .str))) [x0, x1, x2, x3, x4, .sh (.lst (L.map .str)), .sh (.lst (R.map .str)), .sh (.lst (N.map .str)), x8, .sh (.str l.1), .sh (.tup (l.2.map .str)), .sh (.lst (l.2.map .str ++ [.str l.1])), s12, .un] := fun Z k hk => by
      rw [← fm, lc_filter D.str D.str (fun x => decide (x ∈ Z))]
      · rfl
      · intro x _ acc ds
        have hi := in_lstS x Z
        rcases hk with ⟨rfl, rfl⟩ | ⟨rfl, rfl⟩
        · by_cases q : x ∈ Z
          · simp_arith [hi, q]
          · simp_arith [hi, q]
        · by_cases q : x ∈ Z
          · simp_arith [hi, q]
          · simp_arith [hi, q]
    have lc1 := lcF L 5 (.inl ⟨rfl, rfl⟩)
    have lc2 := lcF R 6 (.inr ⟨rfl, rfl⟩)
    have hin := in_lstS l.1 N
    have n1 := ne_nil ((l.2 ++ [l.1]).filter fun x => decide (x ∈ L)) fun x hx => hL x (by simpa using (List.mem_filter.mp hx).2)
    have n2 := ne_nil ((l.2 ++ [l.1]).filter fun x => decide (x ∈ R)) fun x hx => hR x (by simpa using (List.mem_filter.mp hx).2)
    have cross : l.1 ∈ N → ((l.2 ++ [l.1]).filter fun x => decide (x ∈ L)) ≠ [] → ((l.2 ++ [l.1]).filter fun x => decide (x ∈ R)) = [] := fun hN hne => by
      obtain ⟨a, ha⟩ := List.exists_mem_of_ne_nil _ hne
      obtain ⟨ha1, ha2⟩ := List.mem_filter.mp ha
      refine List.filter_eq_nil_iff.mpr fun b hb hm => hc0 hN a ha1 b hb ⟨by simpa using ha2, by simpa using hm⟩
    generalize (l.2 ++ [l.1]).filter (fun x => decide (x ∈ L)) = F1 at *
    generalize (l.2 ++ [l.1]).filter (fun x => decide (x ∈ R)) = F2 at *
    obtain ⟨p, q, r, s, ih⟩ := sd_loop2 x0 x1 x2 x3 x4 x8 N L R hL hR ls (.sh (.str l.1)) (.sh (.tup (l.2.map .str))) (.sh (.lst (l.2.map .str ++ [.str l.1]))) (.sh (.tup [.lst (F1.map .str), .lst (F2.map .str)])) (fun y hy => he y (List.mem_cons_of_mem _ hy)) fun y hy => hc y (List.mem_cons_of_mem _ hy)
    refine ⟨p, q, r, s, ?_⟩
    rw [← ih, List.map_cons]
    unfold lineD
    have t0 : atI [D.lst (F1.map .str), D.lst (F2.map .str)] 0 = some (.lst (F1.map .str)) := rfl
    have t1 : atI [D.lst (F1.map .str), D.lst (F2.map .str)] 1 = some (.lst (F2.map .str)) := rfl
    by_cases hN : l.1 ∈ N
    · rw [decide_eq_true hN] at hin
      by_cases e1 : F1 = []
      · rw [decide_eq_true e1] at n1
        simp_arith [u__law_sides_2, a1, a2, lc1, lc2, hin, n1, t0, t1]
      · rw [decide_eq_false e1] at n1
        have e2 := cross hN e1
        rw [decide_eq_true e2] at n2
        simp_arith [u__law_sides_2, a1, a2, lc1, lc2, hin, n1, n2, t0, t1]
    · rw [decide_eq_false hN] at hin
      simp_arith [u__law_sides_2, a1, a2, lc1, lc2, hin, t0, t1]

/-! ## the questions drawn -/
theorem ixN_nat {n j : Nat} (h : j < n) : ixN n (j : Int) = some j := by
  unfold ixN
  rw [if_pos (by omega), if_pos (by omega)]
  simp
theorem quest_loop (x0 : Sl) (many : Nat) (hm : 1 ≤ many) (hm2 : many ≤ 1000) : ∀ (cs : List Int) (k : Nat) (found : List Int) (s3 s4 s5 : Sl), found.length = min k (many - 1) + 1 →
    ∃ (found' : List Int) (s3' s4' s5' : Sl), forL (gUn 2 (gsCons (gNm 3) (gsCons (gNm 4) gsNil))) l__law_questions_1 (((cs.map D.int).zipIdx k).map fun p => .tup [.int (p.2 : Nat), p.1]) [x0, .sh (.int (many : Int)), .ow (.lst (found.map .int)), s3, s4, s5] =
      .nx [x0, .sh (.int (many : Int)), .ow (.lst (found'.map .int)), s3', s4', s5'] ∧ found'.length ≤ many ∧ 1 ≤ found'.length
  | [], k, found, s3, s4, s5, h => ⟨found, s3, s4, s5, rfl, by omega, by omega⟩
  | c :: cs, k, found, s3, s4, s5, h => by
    rw [List.map_cons, List.zipIdx_cons, List.map_cons]
    by_cases q : (k : Int) < (many : Int) - 1
    · obtain ⟨f', a, b, d, ih, i1, i2⟩ := quest_loop x0 many hm hm2 cs (k + 1) (found ++ [c % 2147483647]) (.sh (.int (k : Int))) (.sh (.int c)) s5 (by rw [List.length_append, List.length_singleton]; omega)
      refine ⟨f', a, b, d, ?_, i1, i2⟩
      rw [← ih, List.map_append]
      have hl : found.length < 16777216 := by omega
      simp_arith [u__law_questions_1, q, hl]
    · have hlt : k % many < found.length := by
        have := Nat.mod_lt k (show 0 < many by omega)
        omega
      have m0 : (0 : Int) < (many : Int) := by omega
      have gk : found[k % many]? = some found[k % many] := List.getElem?_eq_getElem hlt
      obtain ⟨f', a, b, d, ih, i1, i2⟩ := quest_loop x0 many hm hm2 cs (k + 1) (found.set (k % many) ((found[k % many] * 48271 + c) % 2147483647)) (.sh (.int (k : Int))) (.sh (.int c)) (.sh (.int ((k % many : Nat) : Int))) (by rw [List.length_set]; omega)
      refine ⟨f', a, b, d, ?_, i1, i2⟩
      rw [← ih]
      have e1 : (k : Int) % (many : Int) = ((k % many : Nat) : Int) := by push_cast; rfl
      have e2 : ixN (found.map D.int).length ((k % many : Nat) : Int) = some (k % many) := ixN_nat (by rw [List.length_map]; exact hlt)
      rw [List.length_map] at e2
      simp_arith [u__law_questions_1, q, m0, e1, at_nat, List.getElem?_map, gk, e2, List.map_set]
theorem questions_ok (ns : List Int) (many : Nat) (hm : 1 ≤ many) (hm2 : many ≤ 1000) : ∃ found : List Int, m__law_questions [.scr ns, .int (many : Int)] = .ow (.lst (found.map .int)) ∧ found.length ≤ many := by
  obtain ⟨c, e⟩ := cell_ok ns 39 (by decide)
  obtain ⟨f', a, b, d, ih, i1, i2⟩ := quest_loop (.sh (.scr ns)) many hm hm2 (cutD ns (some 40) (some 63)) 0 [c % 2147483647] .un .un .un (by simp)
  refine ⟨f', ?_, i1⟩
  rw [show ((39 : Nat) : Int) = 39 from rfl] at e
  unfold m__law_questions b__law_questions
  have ee : enumD ((cutD ns (some 40) (some 63)).map D.int) = (((cutD ns (some 40) (some 63)).map D.int).zipIdx 0).map fun p => .tup [.int (p.2 : Nat), p.1] := rfl
  simp_arith [e, ee]
  rw [List.map_cons, List.map_nil] at ih
  simp_arith [ih]

/-! ## law 65 -/
def lstD (Ls : List (List Str)) : D := .lst (Ls.map fun l => .lst (l.map .str))
theorem ixN_lt {n r : Nat} (h : r < n) : ixN n (r : Int) = some r := by
  unfold ixN
  rw [if_pos (Int.natCast_nonneg r), if_pos (by omega)]
  rfl
theorem set_perm {x : Str} : ∀ (Ls : List (List Str)) (r : Nat) (l l' : List Str), Ls[r]? = some l → l'.Perm (x :: l) → (Ls.set r l').flatten.Perm (x :: Ls.flatten)
  | [], r, l, l', h, _ => by cases h
  | a :: Ls, 0, l, l', h, p => by
    cases h
    rw [List.set_cons_zero, List.flatten_cons, List.flatten_cons]
    exact p.append_right _
  | a :: Ls, r + 1, l, l', h, p => by
    rw [List.set_cons_succ, List.flatten_cons, List.flatten_cons]
    exact ((set_perm Ls r l l' h p).append_left a).trans List.perm_middle
theorem inner_at {Ls : List (List Str)} {r : Nat} {l : List Str} (h : Ls[r]? = some l) : inner (lstD Ls) (.int (r : Int)) = some (.lst (l.map .str)) := by
  unfold inner lstD
  dsimp only
  rw [at_nat, List.getElem?_map, h]
  rfl
theorem setIn_at {Ls : List (List Str)} {r : Nat} {l' : List Str} (h : r < Ls.length) : setIn (lstD Ls) (.int (r : Int)) (.lst (l'.map .str)) = lstD (Ls.set r l') := by
  unfold setIn lstD
  dsimp only
  rw [List.length_map, ixN_lt h]
  dsimp only
  rw [List.map_set]
theorem role_ok (c m : Int) : ∃ r : Nat, atI [D.int 0, .int 1, .int 2, .int 2, .int 3, .int 3, .int 2, .int 3, .int 0, .int 1] (m % (4 + 3 * (c / 5 % 3))) = some (.int (r : Int)) ∧ r < 4 := by
  have ht : c / 5 % 3 = 0 ∨ c / 5 % 3 = 1 ∨ c / 5 % 3 = 2 := by omega
  have hi : ∃ i : Nat, m % (4 + 3 * (c / 5 % 3)) = (i : Int) ∧ i < 10 := by
    rcases ht with e | e | e <;> rw [e]
    · exact ⟨(m % 4).toNat, by omega, by omega⟩
    · exact ⟨(m % 7).toNat, by omega, by omega⟩
    · exact ⟨(m % 10).toNat, by omega, by omega⟩
  obtain ⟨i, e, hi⟩ := hi
  rw [e, at_nat]
  have h : i = 0 ∨ i = 1 ∨ i = 2 ∨ i = 3 ∨ i = 4 ∨ i = 5 ∨ i = 6 ∨ i = 7 ∨ i = 8 ∨ i = 9 := by omega
  rcases h with e | e | e | e | e | e | e | e | e | e <;> subst e
  · exact ⟨0, rfl, by decide⟩
  · exact ⟨1, rfl, by decide⟩
  · exact ⟨2, rfl, by decide⟩
  · exact ⟨2, rfl, by decide⟩
  · exact ⟨3, rfl, by decide⟩
  · exact ⟨3, rfl, by decide⟩
  · exact ⟨2, rfl, by decide⟩
  · exact ⟨3, rfl, by decide⟩
  · exact ⟨0, rfl, by decide⟩
  · exact ⟨1, rfl, by decide⟩
abbrev rolesS : Sl := .ow (.lst [D.int 0, .int 1, .int 2, .int 2, .int 3, .int 3, .int 2, .int 3, .int 0, .int 1])
theorem lists_loop (c : Int) (names : List Str) (nd : names.Nodup) (hl : names.length ≤ 100) : ∀ (n k : Nat) (Ls : List (List Str)) (s4 s5 : Sl), k + n = names.length → Ls.length = 4 → Ls.flatten.Nodup → (∀ x ∈ Ls.flatten, x ∈ names.take k) →
    ∃ (Ls' : List (List Str)) (s4' s5' : Sl), (∀ v, for2L (gNm 4) l__law_lists_1 ((List.range' k n).map fun i : Nat => .int (i : Int)) (lstD Ls) [.sh (.int c), .sh (.lst (names.map .str)), .sh (.xn v), rolesS, s4, s5, .un, .un] = .nx (lstD Ls') [.sh (.int c), .sh (.lst (names.map .str)), .sh (.xn v), rolesS, s4', s5', .un, .un]) ∧ Ls'.length = 4 ∧ Ls'.flatten.Nodup ∧ ∀ x ∈ Ls'.flatten, x ∈ names
  | 0, k, Ls, s4, s5, _, h4, h5, h6 => ⟨Ls, s4, s5, fun _ => rfl, h4, h5, fun x hx => List.mem_of_mem_take (h6 x hx)⟩
  | n + 1, k, Ls, s4, s5, hk, h4, h5, h6 => by
    have g : names[k]? = some names[k] := List.getElem?_eq_getElem (by omega)
    generalize names[k] = x at g
    have ax : atI (names.map D.str) (k : Int) = some (.str x) := by rw [at_nat, List.getElem?_map, g]; rfl
    have ht : names.take (k + 1) = names.take k ++ [x] := by rw [List.take_add_one, g]; rfl
    have xn : x ∉ names.take k := take_new.mp nd k x g
    have b1 : -18446744073709551616 < (k : Int) := by omega
    have b2 : (k : Int) < 18446744073709551616 := by omega
    have m1 : (k : Int) * (k : Int) ≤ 100 * 100 := Int.mul_le_mul (by omega) (by omega) (by omega) (by decide)
    have m0 : 0 ≤ (k : Int) * (k : Int) := Int.mul_nonneg (by omega) (by omega)
    have m2 : (613 * (k : Int)) * (k : Int) = 613 * ((k : Int) * (k : Int)) := Int.mul_assoc ..
    have b3 : -18446744073709551616 < (48271 + 613 * (k : Int) * (k : Int)) := by omega
    have b4 : (48271 + 613 * (k : Int) * (k : Int)) < 18446744073709551616 := by omega
    obtain ⟨r, hr, hr4⟩ := role_ok c (c * (48271 + 613 * (k : Int) * (k : Int)) % 2147483647)
    have gl : Ls[r]? = some Ls[r] := List.getElem?_eq_getElem (by omega)
    generalize Ls[r] = l at gl
    have pm := set_perm (x := x) Ls r l (l ++ [x]) gl (List.perm_append_comm.trans (by rw [List.singleton_append]))
    have ll : l.length ≤ 100 := by
      have h1 : l.Sublist Ls.flatten := List.sublist_flatten_of_mem (List.mem_of_getElem? gl)
      have h2 := h1.length_le
      have h3 := nodup_sub h5 h6
      rw [List.length_take] at h3
      omega
    obtain ⟨Ls', a, b, e, r4, r5, r6⟩ := lists_loop c names nd hl n (k + 1) (Ls.set r (l ++ [x])) (.sh (.int (k : Int))) (.sh (.int (c * (48271 + 613 * (k : Int) * (k : Int)) % 2147483647))) (by omega) (by rw [List.length_set]; exact h4)
      (pm.nodup_iff.mpr (List.nodup_cons.mpr ⟨fun z => xn (h6 x z), h5⟩))
      (fun y hy => by
        rw [ht]
        rcases List.mem_cons.mp (pm.mem_iff.mp hy) with rfl | hy
        · exact List.mem_append_right _ (List.mem_singleton.mpr rfl)
        · exact List.mem_append_left _ (h6 y hy))
    refine ⟨Ls', a, b, fun v => ?_, r4, r5, r6⟩
    have hset : sSet 5 (eOp2 pMod (eOp2 pMul (eVar 0) (eOp2 pAdd (eC (.int 48271)) (eOp2 pMul (eOp2 pMul (eC (.int 613)) (eVar 4)) (eVar 4)))) (eC (.int 2147483647))) [.sh (.int c), .sh (.lst (names.map .str)), .sh (.xn v), rolesS, .sh (.int (k : Int)), s5, .un, .un] = .nx [.sh (.int c), .sh (.lst (names.map .str)), .sh (.xn v), rolesS, .sh (.int (k : Int)), .sh (.int (c * (48271 + 613 * (k : Int) * (k : Int)) % 2147483647)), .un, .un] := by
      simp_arith [b1, b2, b3, b4]
    have t3 : (0 : Int) < 4 + 3 * (c / 5 % 3) := by omega
    have t4 : -18446744073709551616 < c / 5 % 3 := by omega
    have t5 : c / 5 % 3 < 18446744073709551616 := by omega
    have hf1 : eOp2 pIx (eVar 3) (eOp2 pMod (eVar 5) (eOp2 pAdd (eC (.int 4)) (eOp2 pMul (eC (.int 3)) (eOp2 pMod (eOp2 pFdiv (eVar 0) (eC (.int 5))) (eC (.int 3)))))) [.sh (.int c), .sh (.lst (names.map .str)), .sh (.xn v), rolesS, .sh (.int (k : Int)), .sh (.int (c * (48271 + 613 * (k : Int) * (k : Int)) % 2147483647)), .un, .un] = .ok (.sh (.int (r : Int))) [.sh (.int c), .sh (.lst (names.map .str)), .sh (.xn v), rolesS, .sh (.int (k : Int)), .sh (.int (c * (48271 + 613 * (k : Int) * (k : Int)) % 2147483647)), .un, .un] := by
      simp_arith [t3, t4, t5, hr]
    have hfv : eOp2 pIx (eVar 1) (eVar 4) [.sh (.int c), .sh (.lst (names.map .str)), .sh (.xn v), rolesS, .sh (.int (k : Int)), .sh (.int (c * (48271 + 613 * (k : Int) * (k : Int)) % 2147483647)), .un, .un] = .ok (.sh (.str x)) [.sh (.int c), .sh (.lst (names.map .str)), .sh (.xn v), rolesS, .sh (.int (k : Int)), .sh (.int (c * (48271 + 613 * (k : Int) * (k : Int)) % 2147483647)), .un, .un] := by
      simp_arith [ax]
    have ha : mAppend (.lst (l.map .str)) [.str x] = some (.non, .lst ((l ++ [x]).map .str)) := by
      have l2 : l.length < 16777216 := by omega
      rw [List.map_append]
      simp_arith [l2]
    have st : l__law_lists_1 (lstD Ls) [.sh (.int c), .sh (.lst (names.map .str)), .sh (.xn v), rolesS, .sh (.int (k : Int)), s5, .un, .un] = .nx (lstD (Ls.set r (l ++ [x]))) [.sh (.int c), .sh (.lst (names.map .str)), .sh (.xn v), rolesS, .sh (.int (k : Int)), .sh (.int (c * (48271 + 613 * (k : Int) * (k : Int)) % 2147483647)), .un, .un] := by
      unfold l__law_lists_1
      rw [seq2_eq (lift2_eq hset rfl), mut2_eq hfv hf1 (inner_at gl) ha rfl rfl, setIn_at (by omega)]
    rw [List.range'_succ, List.map_cons, for2_cons (ρ1 := [.sh (.int c), .sh (.lst (names.map .str)), .sh (.xn v), rolesS, .sh (.int (k : Int)), s5, .un, .un]) rfl st, e]
theorem cutD_map {α β : Type} (f : α → β) (xs : List α) (lo hi : Option Int) : DL.cutD (xs.map f) lo hi = (DL.cutD xs lo hi).map f := by
  unfold DL.cutD
  rw [List.length_map, ← List.map_drop, ← List.map_take]
theorem cutD_sub {α : Type} (xs : List α) (lo hi : Option Int) : (DL.cutD xs lo hi).Sublist xs := by
  unfold DL.cutD
  exact (List.take_sublist _ _).trans (List.drop_sublist _ _)
/-- three lists of four, each shortened or turned about -/
theorem three_of {a b c d a' b' c' : List Str} (nd : [a, b, c, d].flatten.Nodup) (ha : a'.Nodup ∧ ∀ x ∈ a', x ∈ a) (hb : b'.Nodup ∧ ∀ x ∈ b', x ∈ b) (hc : c'.Nodup ∧ ∀ x ∈ c', x ∈ c) : (a' ++ b' ++ c').Nodup ∧ ∀ x ∈ a' ++ b' ++ c', x ∈ [a, b, c, d].flatten := by
  simp only [List.flatten_cons, List.flatten_nil, List.append_nil] at nd ⊢
  obtain ⟨na, n2, dab⟩ := List.nodup_append.mp nd
  obtain ⟨nb, n3, dbc⟩ := List.nodup_append.mp n2
  refine ⟨List.nodup_append.mpr ⟨List.nodup_append.mpr ⟨ha.1, hb.1, fun x hx y hy => dab x (ha.2 x hx) y (List.mem_append_left _ (hb.2 y hy))⟩, hc.1, fun x hx y hy => ?_⟩, fun x hx => ?_⟩
  · rcases List.mem_append.mp hx with hx | hx
    · exact dab x (ha.2 x hx) y (List.mem_append_right _ (List.mem_append_left _ (hc.2 y hy)))
    · exact dbc x (hb.2 x hx) y (List.mem_append_left _ (hc.2 y hy))
  · rcases List.mem_append.mp hx with hx | hx
    · rcases List.mem_append.mp hx with hx | hx
      · exact List.mem_append_left _ (ha.2 x hx)
      · exact List.mem_append_right _ (List.mem_append_left _ (hb.2 x hx))
    · exact List.mem_append_right _ (List.mem_append_right _ (List.mem_append_left _ (hc.2 x hx)))

theorem lists_ok65 (c : Int) (names : List Str) (nd : names.Nodup) (hl : names.length ≤ 100) : ∃ A B C : List Str, m__law_lists [.int c, .lst (names.map .str)] = .ow (lstD [A, B, C]) ∧ (A ++ B ++ C).Nodup ∧ ∀ x ∈ A ++ B ++ C, x ∈ names := by
  obtain ⟨Ls, s4, s5, e, h4, h5, h6⟩ := lists_loop c names nd hl names.length 0 [[], [], [], []] .un .un (by omega) rfl (by simp) (fun x hx => by simp at hx)
  match Ls, h4, h5, h6, e with
  | [a, b, cc, d], _, h5, h6, e =>
  rw [← List.range_eq_range', ← rangeD_eq] at e
  have fl : ∀ l ∈ [a, b, cc, d], l.length ≤ 100 := fun l hl2 => by
    have h1 : l.Sublist [a, b, cc, d].flatten := List.sublist_flatten_of_mem hl2
    have h2 := h1.length_le
    have h3 := nodup_sub h5 h6
    omega
  have sub : ∀ l ∈ [a, b, cc, d], l.Nodup := fun l hl2 => h5.sublist (List.sublist_flatten_of_mem hl2)
  have la := fl a (by simp)
  have lb := fl b (by simp)
  have lc := fl cc (by simp)
  have ld := fl d (by simp)
  have r1 : -4611686018427387904 ≤ (names.length : Int) := by omega
  have r2 : (names.length : Int) < 4611686018427387904 := by omega
  have hset : ∀ v, sSet 3 (eLst (aCons (eC (.int 0)) (aCons (eC (.int 1)) (aCons (eC (.int 2)) (aCons (eC (.int 2)) (aCons (eC (.int 3)) (aCons (eC (.int 3)) (aCons (eC (.int 2)) (aCons (eC (.int 3)) (aCons (eC (.int 0)) (aCons (eC (.int 1)) aNil))))))))))) [.sh (.int c), .sh (.lst (names.map .str)), .sh (.xn v), .un, .un, .un, .un, .un] = .nx [.sh (.int c), .sh (.lst (names.map .str)), .sh (.xn v), rolesS, .un, .un, .un, .un] := fun v => by simp_arith []
  have hit : ∀ v, iRange1 (aCons (eOpN pLen (aCons (eVar 1) aNil)) aNil) [.sh (.int c), .sh (.lst (names.map .str)), .sh (.xn v), rolesS, .un, .un, .un, .un] = .ok (rangeD 0 names.length) [.sh (.int c), .sh (.lst (names.map .str)), .sh (.xn v), rolesS, .un, .un, .un, .un] := fun v => by simp_arith [r1, r2, Int.toNat_natCast]
  have c1 : ∀ l : List Str, DL.cutD (l.map D.str) (some (-1)) none = (DL.cutD l (some (-1)) none).map .str := fun l => cutD_map _ _ _ _
  have la2 : a.length ≤ 16777216 := by omega
  have lb2 : b.length ≤ 16777216 := by omega
  have lc2 : cc.length ≤ 16777216 := by omega
  have ld2 : d.length ≤ 16777216 := by omega
  -- turned about
  have rev : ∀ (Zs : List (List Str)) (x3 x4 x5 : Sl), (∀ z ∈ Zs, z.length ≤ 16777216) → lcL [6] (gNm 6) tYesD (eLC [7] (iRevD (eVar 6)) (gNm 7) tYesD (eVar 7)) (Zs.map fun l => .lst (l.map .str)) [] [.sh (.int c), .sh (.lst (names.map .str)), .sh (lstD Zs), x3, x4, x5, .un, .un] = .ok (.ow (lstD (Zs.map List.reverse))) [.sh (.int c), .sh (.lst (names.map .str)), .sh (lstD Zs), x3, x4, x5, .un, .un] := fun Zs x3 x4 x5 hz => by
    rw [lc_map (fun l : List Str => D.lst (l.map .str)) (fun l => D.lst (l.reverse.map .str))]
    · unfold lstD
      rw [List.nil_append, List.map_map]
      rfl
    · intro z hzz acc ds
      have zl := hz z hzz
      have lc := lc_map (vs := [7]) (g := gNm 7) (tt := tYesD) (e := eVar 7) D.str D.str [.sh (.int c), .sh (.lst (names.map .str)), .sh (lstD Zs), x3, x4, x5, .sh (.lst (z.map .str)), .un] z.reverse [] (fun x _ acc ds => by simp_arith [])
      rw [List.map_reverse] at lc
      rw [List.map_reverse]
      simp_arith [zl, lc]
  have cut3 : ∀ p q r s : D, DL.cutD [p, q, r, s] none (some 3) = [p, q, r] := fun p q r s => by rw [cutN3]; rfl
  have hI : ∀ Zs, itemsD (lstD Zs) = some (Zs.map fun l => .lst (l.map .str)) := fun _ => rfl
  have l1 := cutD_sub a (some (-1)) none
  have l2 := cutD_sub b (some (-1)) none
  have lla : (DL.cutD a (some (-1)) none).length ≤ 16777216 := by have := l1.length_le; omega
  have llb : (DL.cutD b (some (-1)) none).length ≤ 16777216 := by have := l2.length_le; omega
  have n1 : (DL.cutD a (some (-1)) none).Nodup ∧ ∀ x ∈ DL.cutD a (some (-1)) none, x ∈ a := ⟨(sub a (by simp)).sublist l1, fun x hx => l1.subset hx⟩
  have n2 : (DL.cutD b (some (-1)) none).Nodup ∧ ∀ x ∈ DL.cutD b (some (-1)) none, x ∈ b := ⟨(sub b (by simp)).sublist l2, fun x hx => l2.subset hx⟩
  have na : a.Nodup ∧ ∀ x ∈ a, x ∈ a := ⟨sub a (by simp), fun x hx => hx⟩
  have nb : b.Nodup ∧ ∀ x ∈ b, x ∈ b := ⟨sub b (by simp), fun x hx => hx⟩
  have nc : cc.Nodup ∧ ∀ x ∈ cc, x ∈ cc := ⟨sub cc (by simp), fun x hx => hx⟩
  have rv : ∀ {l l' : List Str}, (l'.Nodup ∧ ∀ x ∈ l', x ∈ l) → l'.reverse.Nodup ∧ ∀ x ∈ l'.reverse, x ∈ l := fun h => ⟨(List.reverse_perm _).nodup_iff.mpr h.1, fun x hx => h.2 x (List.mem_reverse.mp hx)⟩
  have ca := c1 a
  have cb := c1 b
  generalize DL.cutD a (some (-1)) none = a1 at *
  generalize DL.cutD b (some (-1)) none = b1 at *
  -- the block
  have blk : ∀ (r : SR), (∀ ρ, ρ = [.sh (.int c), .sh (.lst (names.map .str)), .sh (lstD [a, b, cc, d]), rolesS, s4, s5, .un, .un] → (sSeq (sIf (tVal (eOp2 pGt (eOp2 pMod (eVar 0) (eC (.int 4))) (eC (.int 0)))) (sSet 2 (eLst (aCons (eSl pSl (eOp2 pIx (eVar 2) (eC (.int 0))) (oSome (eOp1 pNeg (eC (.int 1)))) oNone) (aCons (eSl pSl (eOp2 pIx (eVar 2) (eC (.int 1))) (oSome (eOp1 pNeg (eC (.int 1)))) oNone) (aCons (eOp2 pIx (eVar 2) (eC (.int 2))) (aCons (eOp2 pIx (eVar 2) (eC (.int 3))) aNil)))))) sNil)
      (sSeq (sIf (tVal (eOp2 pEq (eOp2 pMod (eOp2 pFdiv (eVar 0) (eC (.int 4))) (eC (.int 2))) (eC (.int 1)))) (sSet 2 (eLC [6] (iSeq (eVar 2)) (gNm 6) tYesD (eLC [7] (iRevD (eVar 6)) (gNm 7) tYesD (eVar 7)))) sNil)
      (sRet (eSl pSl (eVar 2) oNone (oSome (eC (.int 3))))))) ρ = r) → b__law_lists [.sh (.int c), .sh (.lst (names.map .str)), .un, .un, .un, .un, .un, .un] = r := fun r hr => by
    unfold b__law_lists
    refine enterL_eq (by show 2 < 8; decide) fun v => ?_
    show seq3 _ _ (lstD [[], [], [], []]) [.sh (.int c), .sh (.lst (names.map .str)), .sh (.xn v), .un, .un, .un, .un, .un] = r
    rw [seq3_eq (lift2_eq (hset v) rfl)]
    rw [seq3_eq (d' := lstD [a, b, cc, d]) (ρ' := [.sh (.int c), .sh (.lst (names.map .str)), .sh (.xn v), rolesS, s4, s5, .un, .un]) (by rw [for2_eq' (hit v) rfl]; exact e v)]
    exact hr _ rfl
  unfold lstD at *
  by_cases q1 : c % 4 > 0
  · by_cases q2 : c / 4 % 2 = 1
    · obtain ⟨f1, f2⟩ := three_of h5 (rv n1) (rv n2) (rv nc)
      refine ⟨a1.reverse, b1.reverse, cc.reverse, ?_, f1, fun x hx => h6 x (f2 x hx)⟩
      have rr := rev [a1, b1, cc, d] rolesS s4 s5 (fun z hz => by simp at hz; rcases hz with rfl | rfl | rfl | rfl <;> omega)
      simp only [List.map_cons, List.map_nil] at rr blk
      have hb := blk (.rt (.ow (.lst [.lst (a1.reverse.map .str), .lst (b1.reverse.map .str), .lst (cc.reverse.map .str)])) _) fun ρ hρ => by
        subst hρ
        simp_arith [-DL.v_lc1, q1, ca, cb, q2, rr, cut3]
        rfl
      unfold m__law_lists
      simp_arith [hb]
    · obtain ⟨f1, f2⟩ := three_of h5 n1 n2 nc
      refine ⟨a1, b1, cc, ?_, f1, fun x hx => h6 x (f2 x hx)⟩
      simp only [List.map_cons, List.map_nil] at blk
      have hb := blk (.rt (.ow (.lst [.lst (a1.map .str), .lst (b1.map .str), .lst (cc.map .str)])) _) fun ρ hρ => by
        subst hρ
        simp_arith [q1, ca, cb, q2, cut3]
        rfl
      unfold m__law_lists
      simp_arith [hb]
  · by_cases q2 : c / 4 % 2 = 1
    · obtain ⟨f1, f2⟩ := three_of h5 (rv na) (rv nb) (rv nc)
      refine ⟨a.reverse, b.reverse, cc.reverse, ?_, f1, fun x hx => h6 x (f2 x hx)⟩
      have rr := rev [a, b, cc, d] rolesS s4 s5 (fun z hz => by simp at hz; rcases hz with rfl | rfl | rfl | rfl <;> omega)
      simp only [List.map_cons, List.map_nil] at rr blk
      have hb := blk (.rt (.ow (.lst [.lst (a.reverse.map .str), .lst (b.reverse.map .str), .lst (cc.reverse.map .str)])) _) fun ρ hρ => by
        subst hρ
        simp_arith [-DL.v_lc1, q1, q2, rr, cut3]
        rfl
      unfold m__law_lists
      simp_arith [hb]
    · obtain ⟨f1, f2⟩ := three_of h5 na nb nc
      refine ⟨a, b, cc, ?_, f1, fun x hx => h6 x (f2 x hx)⟩
      simp only [List.map_cons, List.map_nil] at blk
      have hb := blk (.rt (.ow (.lst [.lst (a.map .str), .lst (b.map .str), .lst (cc.map .str)])) _) fun ρ hρ => by
        subst hρ
        simp_arith [q1, q2, cut3]
        rfl
      unfold m__law_lists
      simp_arith [hb]

theorem Rch_nil {R : Str → Str → Prop} {C : List Str} {y : Str} (h : Rch R [] C y) : False := by
  induction h with
  | base q => cases q
  | step _ _ _ ih => exact ih
theorem str_ok {x : Str} (h : wordS x) : PyData.strOk x = true := by
  rw [strOk_mem]
  intro c hc
  have := h.2.2 c hc
  omega
theorem lst_ne {Ls : List (List Str)} (h : ∀ x ∈ Ls.flatten, PyData.strOk x = true) : pNe (lstD Ls) (lstD Ls) = .v (.bl false) := by
  refine ne_self (n := 2) (.lst fun d hd => ?_) (by decide)
  obtain ⟨l, hl, rfl⟩ := List.mem_map.mp hd
  exact shd_strs 0 fun x hx => h x (List.mem_flatten.mpr ⟨l, hl, hx⟩)

/-! ## law 63 -/
theorem filter_two {α : Type} (p q r : α → Bool) : ∀ (l : List α), (∀ x ∈ l, r x = (p x || q x) ∧ (p x && q x) = false) → (l.filter p).length + (l.filter q).length = (l.filter r).length
  | [], _ => rfl
  | x :: l, h => by
    have ih := filter_two p q r l fun y hy => h y (List.mem_cons_of_mem _ hy)
    obtain ⟨e1, e2⟩ := h x (List.mem_cons_self ..)
    rw [List.filter_cons, List.filter_cons, List.filter_cons, e1]
    cases hp : p x <;> cases hq : q x <;> rw [hp, hq] at e2 <;> simp at e2 ⊢ <;> omega
theorem Rch.notin {R : Str → Str → Prop} {A C : List Str} (h : ∀ x ∈ A, x ∉ C) {x : Str} (r : Rch R A C x) : x ∉ C := by
  cases r with
  | base q => exact h x q
  | step _ _ n => exact n
/-- the two sides as told -/
abbrev leftS (ls : List Line) (A B C M : List Str) : List Str := (aboveS ls (A ++ B ++ C)).filter fun x => decide (x ∈ M)
abbrev rightS (ls : List Line) (A B C M : List Str) : List Str := (aboveS ls (A ++ B ++ C)).filter fun x => !decide (x ∈ M) && !decide (x ∈ C)
theorem law_sides_true {ls : List Line} (h : LnB ls) {A B C M : List Str} (hs : ∀ x ∈ A ++ B ++ C, x ∈ ls.map (·.1)) (nd : (A ++ B ++ C).Nodup) (sk : ∀ x ∈ ls.map (·.1), PyData.strOk x = true)
    (hM : ∀ x, x ∈ M ↔ Rch (Tie ls (aboveS ls (A ++ B ++ C))) A C x) (hb : ¬∃ y ∈ B, y ∈ M) :
    m__law_sides [.tup [.lst ((leftS ls A B C M).map .str), .lst ((rightS ls A B C M).map .str)], linesD ls, .lst (A.map .str), .lst (B.map .str), .lst (C.map .str)] = .sh (.bl true) := by
  have len := h.len
  have hl : (A ++ B ++ C).length ≤ 1000 := by
    have := nodup_sub nd hs
    rw [List.length_map] at this
    omega
  have hA : ∀ x ∈ A, x ∉ C := fun x hx hc => by
    have := (List.nodup_append.mp nd).2.2 x (List.mem_append_left _ hx) x hc
    exact this rfl
  have hMC : ∀ x ∈ M, x ∉ C := fun x hx => Rch.notin hA ((hM x).mp hx)
  have an := above_nd h.ok (A ++ B ++ C)
  have al := above_len ls (A ++ B ++ C)
  have ab := law_above_ok h hl
  have asub : ∀ x ∈ aboveS ls (A ++ B ++ C), x ∈ ls.map (·.1) := fun x hx => (List.mem_filter.mp hx).1
  have anA : ∀ x ∈ A, x ∈ M := fun x hx => (hM x).mpr (.base hx)
  have two : (leftS ls A B C M).length + (rightS ls A B C M).length = ((aboveS ls (A ++ B ++ C)).filter fun x => !decide (x ∈ C)).length := filter_two (fun x => decide (x ∈ M)) (fun x => !decide (x ∈ M) && !decide (x ∈ C)) (fun x => !decide (x ∈ C)) (aboveS ls (A ++ B ++ C)) fun x _ => by
    by_cases q : x ∈ M
    · simp [q, hMC x q]
    · by_cases q2 : x ∈ C <;> simp [q, q2]
  have hL : ∀ x ∈ leftS ls A B C M, PyData.strOk x = true := fun x hx => sk x (asub x (List.mem_filter.mp hx).1)
  have hR : ∀ x ∈ rightS ls A B C M, PyData.strOk x = true := fun x hx => sk x (asub x (List.mem_filter.mp hx).1)
  have lL : (leftS ls A B C M).length ≤ 1000 := by have := List.length_filter_le (fun x => decide (x ∈ M)) (aboveS ls (A ++ B ++ C)); show (List.filter _ _).length ≤ _; omega
  have lR : (rightS ls A B C M).length ≤ 1000 := by have := List.length_filter_le (fun x => !decide (x ∈ M) && !decide (x ∈ C)) (aboveS ls (A ++ B ++ C)); show (List.filter _ _).length ≤ _; omega
  have memL : ∀ x, x ∈ leftS ls A B C M ↔ x ∈ aboveS ls (A ++ B ++ C) ∧ x ∈ M := fun x => by simp [leftS]
  have memR : ∀ x, x ∈ rightS ls A B C M ↔ x ∈ aboveS ls (A ++ B ++ C) ∧ x ∉ M ∧ x ∉ C := fun x => by simp [rightS]
  have ndL : (leftS ls A B C M).Nodup := an.sublist (List.filter_sublist ..)
  have ndR : (rightS ls A B C M).Nodup := an.sublist (List.filter_sublist ..)
  obtain ⟨t9, e1⟩ := sd_loop1 (.sh (.tup [.lst ((leftS ls A B C M).map .str), .lst ((rightS ls A B C M).map .str)])) (.sh (linesD ls)) (.sh (.lst (C.map .str))) (.sh (.lst ((aboveS ls (A ++ B ++ C)).map .str))) (.sh (.lst (((aboveS ls (A ++ B ++ C)).filter fun x => !decide (x ∈ C)).map .str))) .un .un .un .un A B (leftS ls A B C M) (rightS ls A B C M) (by omega) ((aboveS ls (A ++ B ++ C)).filter fun x => !decide (x ∈ C)) .un fun x hx => by
    obtain ⟨x1, x2⟩ := List.mem_filter.mp hx
    have x2 : x ∉ C := by simpa using x2
    refine ⟨List.Nodup.count (List.nodup_append.mpr ⟨ndL, ndR, fun a ha b hb e => ?_⟩) |>.trans (if_pos ?_), fun ⟨a, b⟩ => ((memR x).mp b).2.1 (anA x a), fun ⟨a, b⟩ => hb ⟨x, a, ((memL x).mp b).2⟩⟩
    · subst e
      exact ((memR a).mp hb).2.1 ((memL a).mp ha).2
    · by_cases q : x ∈ M
      · exact List.mem_append_left _ ((memL x).mpr ⟨x1, q⟩)
      · exact List.mem_append_right _ ((memR x).mpr ⟨x1, q, x2⟩)
  obtain ⟨u9, u10, u11, u12, e2⟩ := sd_loop2 (.sh (.tup [.lst ((leftS ls A B C M).map .str), .lst ((rightS ls A B C M).map .str)])) (.sh (linesD ls)) (.sh (.lst (A.map .str))) (.sh (.lst (B.map .str))) (.sh (.lst (C.map .str))) (.sh (.lst (((aboveS ls (A ++ B ++ C)).filter fun x => !decide (x ∈ C)).map .str))) (aboveS ls (A ++ B ++ C)) (leftS ls A B C M) (rightS ls A B C M) hL hR ls t9 .un .un .un h.ok.el fun l hl2 hN a ha b hb2 ⟨q1, q2⟩ => by
    obtain ⟨_, a2⟩ := (memL a).mp q1
    obtain ⟨_, b2, b3⟩ := (memR b).mp q2
    by_cases z : a = b
    · subst z; exact b2 a2
    · exact b2 ((hM b).mpr (.step ((hM a).mp a2) ⟨z, l, hl2, hN, ha, hb2⟩ b3))
  have lc := lc_filter (vs := [9]) (g := gNm 9) (tt := tVal (eOp2 pNotIn (eVar 9) (eVar 4))) (e := eVar 9) D.str D.str (fun x => !decide (x ∈ C)) [.sh (.tup [.lst ((leftS ls A B C M).map .str), .lst ((rightS ls A B C M).map .str)]), .sh (linesD ls), .sh (.lst (A.map .str)), .sh (.lst (B.map .str)), .sh (.lst (C.map .str)), .sh (.lst ((leftS ls A B C M).map .str)), .sh (.lst ((rightS ls A B C M).map .str)), .sh (.lst ((aboveS ls (A ++ B ++ C)).map .str)), .un, .un, .un, .un, .un, .un] (aboveS ls (A ++ B ++ C)) [] (fun x _ acc ds => by
    have hj := in_lstS x C
    by_cases q2 : x ∈ C
    · simp_arith [hj, q2]
    · simp_arith [hj, q2])
  have l1 : A.length + B.length ≤ 16777216 := by rw [List.length_append, List.length_append] at hl; omega
  have l2 : A.length + B.length + C.length ≤ 16777216 := by rw [List.length_append, List.length_append] at hl; omega
  rw [List.map_append, List.map_append] at ab
  have hI : itemsD (linesD ls) = some (ls.map lineD) := rfl
  generalize leftS ls A B C M = L at *
  generalize rightS ls A B C M = R at *
  generalize aboveS ls (A ++ B ++ C) = N at *
  generalize (N.filter fun x => !decide (x ∈ C)) = Dd at *
  have lN : N.length ≤ 16777216 := by omega
  have lD : Dd.length ≤ 16777216 := by omega
  have eqn : (!decide ((L.length : Int) + (R.length : Int) = (Dd.length : Int))) = false := by
    rw [Bool.not_eq_false', decide_eq_true_iff]
    omega
  have lL2 : L.length ≤ 16777216 := by omega
  have lR2 : R.length ≤ 16777216 := by omega
  have c2 : (!decide (((2 : Nat) : Int) = 2)) = false := rfl
  have hK : isDK (some (linesD ls)) = false := rfl
  unfold m__law_sides b__law_sides
  simp_arith [c2, hK, l1, l2, ab, lc, lN, lD, e1, eqn, hI, e2, lL2, lR2]
/-! the names that are not below a name -/
def restS (ls : List Line) (n : Str) (el : List Str) : List Str := (ls.map (·.1)).filter fun x => !decide (x ∈ el) && !decide (n ∈ aboveS ls [x])
theorem rest_loop {ls : List Line} (h : LnB ls) (n : Str) (el : List Str) (x1 x7 : Sl) : ∀ (r : List Line) (acc : List Str) (s5 s6 : Sl), acc.length + r.length ≤ 1000 →
    ∃ s5' s6', forL (gUn 2 (gsCons (gNm 5) (gsCons (gNm 6) gsNil))) l__law_local_1 (r.map lineD) [.sh (linesD ls), x1, .sh (.str n), .sh (.tup (el.map .str)), .ow (.lst (acc.map .str)), s5, s6, x7] =
      .nx [.sh (linesD ls), x1, .sh (.str n), .sh (.tup (el.map .str)), .ow (.lst ((acc ++ (r.map (·.1)).filter fun x => !decide (x ∈ el) && !decide (n ∈ aboveS ls [x])).map .str)), s5', s6', x7]
  | [], acc, s5, s6, _ => ⟨s5, s6, by simp [forL]⟩
  | l :: r, acc, s5, s6, hl => by
    have hl0 : acc.length + (r.length + 1) ≤ 1000 := hl
    have hi := in_tupS l.1 el
    have ab := law_above_ok h (N := [l.1]) (by simp)
    have hj := in_lstS n (aboveS ls [l.1])
    rw [List.map_cons, List.map_nil] at ab
    have la : acc.length < 16777216 := by omega
    by_cases q : l.1 ∉ el ∧ n ∉ aboveS ls [l.1]
    · obtain ⟨q1, q2⟩ := q
      rw [decide_eq_false q1] at hi
      rw [decide_eq_false q2] at hj
      obtain ⟨a, b, ih⟩ := rest_loop h n el x1 x7 r (acc ++ [l.1]) (.sh (.str l.1)) (.sh (.tup (l.2.map .str))) (by rw [List.length_append, List.length_singleton]; omega)
      refine ⟨a, b, ?_⟩
      rw [List.append_assoc, List.singleton_append] at ih
      rw [List.map_cons, List.map_cons, List.filter_cons_of_pos (by simp [q1, q2]), ← ih, List.map_append]
      unfold lineD
      simp_arith [u__law_local_1, hi, ab, hj, la]
    · obtain ⟨a, b, ih⟩ := rest_loop h n el x1 x7 r acc (.sh (.str l.1)) (.sh (.tup (l.2.map .str))) (by omega)
      refine ⟨a, b, ?_⟩
      rw [List.map_cons, List.map_cons, List.filter_cons_of_neg (by
        intro z
        simp at z
        exact q z), ← ih]
      unfold lineD
      by_cases q1 : l.1 ∈ el
      · rw [decide_eq_true q1] at hi
        simp_arith [u__law_local_1, hi]
      · have q2 : n ∈ aboveS ls [l.1] := Classical.byContradiction fun z => q ⟨q1, z⟩
        rw [decide_eq_false q1] at hi
        rw [decide_eq_true q2] at hj
        simp_arith [u__law_local_1, hi, ab, hj]
theorem law_local_ok {ls : List Line} (h : LnB ls) (h1 : 1 ≤ ls.length) (sk : ∀ x ∈ ls.map (·.1), PyData.strOk x = true) (nel : ∀ l ∈ ls, l.2.Nodup) (c : Int) : m__law_local [linesD ls, .int c] = .sh (.bl true) := by
  obtain ⟨i, hi, hi2⟩ := mod_nat (c / 3) ls.length (by omega)
  have len := h.len
  have gl : ls[i]? = some ls[i] := List.getElem?_eq_getElem hi2
  have hm : ls[i] ∈ ls := List.getElem_mem _
  generalize ls[i] = l at gl hm
  obtain ⟨n, el⟩ := l
  have nn : n ∈ ls.map (·.1) := List.mem_map.mpr ⟨_, hm, rfl⟩
  have nde := nel _ hm
  have lel : el.length ≤ 10 := h.el _ hm
  have ela : ∀ z ∈ el, z ∈ ls.map (·.1) := fun z hz => (Up.one hm hz).names h.tp nn
  have nel2 : n ∉ el := fun z => by
    have := posL_lt h.ok.nd h.tp hm z
    omega
  obtain ⟨s5, s6, e⟩ := rest_loop h n el (.sh (.int c)) .un ls [] .un .un (by simp; omega)
  rw [List.nil_append, List.map_nil] at e
  have mR : ∀ x, x ∈ restS ls n el ↔ x ∈ ls.map (·.1) ∧ x ∉ el ∧ ¬Up ls n x := fun x => by
    unfold restS
    rw [List.mem_filter]
    constructor
    · rintro ⟨a, b⟩
      simp at b
      refine ⟨a, b.1, fun u => b.2 ?_⟩
      rw [mem_above h.ok.nd h.tp (by simpa using a)]
      exact ⟨x, by simp, u⟩
    · rintro ⟨a, b, d⟩
      refine ⟨a, ?_⟩
      simp only [Bool.and_eq_true, Bool.not_eq_true', decide_eq_false_iff_not]
      refine ⟨b, fun u => d ?_⟩
      rw [mem_above h.ok.nd h.tp (by simpa using a)] at u
      obtain ⟨y, hy, u⟩ := u
      rw [List.mem_singleton.mp hy] at u
      exact u
  have ndR : (restS ls n el).Nodup := h.ok.nd.sublist (List.filter_sublist ..)
  have lR : (restS ls n el).length ≤ 1000 := by
    have := List.length_filter_le (fun x => !decide (x ∈ el) && !decide (n ∈ aboveS ls [x])) (ls.map (·.1))
    rw [List.length_map] at this
    show (List.filter _ _).length ≤ _
    omega
  have nR : n ∉ restS ls n el := fun z => ((mR n).mp z).2.2 .refl
  have hr : ∀ y ∈ restS ls n el, y ≠ n ∧ y ∉ el := fun y hy => ⟨fun z => nR (z ▸ hy), ((mR y).mp hy).2.1⟩
  change forL _ _ _ _ = SR.nx [_, _, _, _, .ow (.lst ((restS ls n el).map .str)), _, _, _] at e
  have s1 : ∀ x ∈ [n] ++ restS ls n el ++ el, x ∈ ls.map (·.1) := fun x hx => by
    rcases List.mem_append.mp hx with hx | hx
    · rcases List.mem_append.mp hx with hx | hx
      · rw [List.mem_singleton.mp hx]; exact nn
      · exact ((mR x).mp hx).1
    · exact ela x hx
  have s2 : ∀ x ∈ restS ls n el ++ [n] ++ el, x ∈ ls.map (·.1) := fun x hx => s1 x (by simp at hx ⊢; rcases hx with hx | hx | hx <;> simp [hx])
  have b1 : ∀ y ∈ [n] ++ restS ls n el ++ el, y = n ∨ y ∈ el ∨ ¬Up ls n y := fun y hy => by
    rcases List.mem_append.mp hy with hy | hy
    · rcases List.mem_append.mp hy with hy | hy
      · exact .inl (List.mem_singleton.mp hy)
      · exact .inr (.inr ((mR y).mp hy).2.2)
    · exact .inr (.inl hy)
  have b2 : ∀ y ∈ restS ls n el ++ [n] ++ el, y = n ∨ y ∈ el ∨ ¬Up ls n y := fun y hy => b1 y (by simp at hy ⊢; rcases hy with hy | hy | hy <;> simp [hy])
  have d1 : ([n] ++ restS ls n el ++ el).Nodup := by
    refine List.nodup_append.mpr ⟨List.nodup_append.mpr ⟨by simp, ndR, fun a ha b hb z => ?_⟩, nde, fun a ha b hb z => ?_⟩
    · rw [List.mem_singleton.mp ha] at z; exact nR (z ▸ hb)
    · subst z
      rcases List.mem_append.mp ha with ha | ha
      · rw [List.mem_singleton.mp ha] at hb; exact nel2 hb
      · exact (hr a ha).2 hb
  have d2 : (restS ls n el ++ [n] ++ el).Nodup := (List.Perm.append_right el List.perm_append_comm).nodup_iff.mp d1
  obtain ⟨M1, hM1, c1⟩ := sides_ok h s1 d1
  obtain ⟨M2, hM2, c2⟩ := sides_ok h s2 d2
  have n1 : ¬∃ y ∈ restS ls n el, y ∈ M1 := fun ⟨y, hy, hm1⟩ => (hr y hy).1 (local_one h hm s1 b1 ((hM1 y).mp hm1))
  have n2 : ¬∃ y ∈ [n], y ∈ M2 := fun ⟨y, hy, hm2⟩ => (local_other h hm s2 b2 hr ((hM2 y).mp hm2)).1 (List.mem_singleton.mp hy)
  have c1 := (c1.resolve_left fun z => n1 z.1).2
  have c2 := (c2.resolve_left fun z => n2 z.1).2
  have t1 := law_sides_true h s1 d1 sk hM1 n1
  have t2 := law_sides_true h s2 d2 sk hM2 n2
  generalize (D.tup [.lst ((leftS ls [n] (restS ls n el) el M1).map .str), .lst ((rightS ls [n] (restS ls n el) el M1).map .str)]) = P1 at t1 c1
  generalize (D.tup [.lst ((leftS ls (restS ls n el) [n] el M2).map .str), .lst ((rightS ls (restS ls n el) [n] el M2).map .str)]) = P2 at t2 c2
  generalize restS ls n el = R at *
  rw [List.map_cons, List.map_nil] at c1 c2 t1 t2
  have ax : atI (ls.map lineD) (i : Int) = some (lineD (n, el)) := by rw [at_nat, List.getElem?_map, gl]; rfl
  have lp : (0 : Int) < (ls.length : Int) := by omega
  have le2 : el.length ≤ 16777216 := by omega
  have lR2 : R.length ≤ 16777216 := by omega
  have hix : ∀ z : Int, pIx (linesD ls) (.int z) = ofD (atI (ls.map lineD) z) := fun _ => rfl
  have pln : pLen [linesD ls] = .v (.int (ls.length : Int)) := by unfold linesD; rw [p_len2, List.length_map]
  have hK : isDK (some (linesD ls)) = false := rfl
  have hI : itemsD (linesD ls) = some (ls.map lineD) := rfl
  unfold m__law_local b__law_local
  unfold lineD at *
  by_cases q : c % 2 = 0
  · simp_arith [pln, lp, hi, hix, ax, hK, hI, e, le2, lR2, q, c1, t1]
  · simp_arith [pln, lp, hi, hix, ax, hK, hI, e, le2, lR2, q, c2, t2]
/-! ## the law -/
theorem sidesT_ok {ls : List Line} (h : LnB ls) {A B C : List Str} (hs : ∀ x ∈ A ++ B ++ C, x ∈ ls.map (·.1)) (nd : (A ++ B ++ C).Nodup) :
    ∃ M : List Str, (∀ x, x ∈ M ↔ Rch (Tie ls (aboveS ls (A ++ B ++ C))) A C x) ∧
      (mT_sides [linesD ls, .lst (A.map .str), .lst (B.map .str), .lst (C.map .str)] = .sh .non ∨
       ((¬∃ y ∈ B, y ∈ M) ∧ mT_sides [linesD ls, .lst (A.map .str), .lst (B.map .str), .lst (C.map .str)] = .tw [.ow (.lst ((leftS ls A B C M).map .str)), .ow (.lst ((rightS ls A B C M).map .str))])) := by
  have len := h.len
  have hl : (A ++ B ++ C).length ≤ 1000 := by
    have := nodup_sub nd hs
    rw [List.length_map] at this
    omega
  have lo := lists_ok h.ok hs nd hl
  have ab := above_ok h hs hl
  have an := above_nd h.ok (A ++ B ++ C)
  have al := above_len ls (A ++ B ++ C)
  have ac := above_closed h hs
  have asf : ∀ x ∈ A, x ∈ aboveS ls (A ++ B ++ C) := fun x hx => above_self h hs (by simp [hx])
  obtain ⟨m, e1, om, sp⟩ := ties_ok h.ok an (by omega) ac
  obtain ⟨M, e2, hM, lM⟩ := reached_ok om (by omega) (ones := A) (third := C) asf (by rw [List.length_append, List.length_append] at hl; omega)
  have l1 : A.length + B.length ≤ 16777216 := by rw [List.length_append, List.length_append] at hl; omega
  have l2 : A.length + B.length + C.length ≤ 16777216 := by rw [List.length_append, List.length_append] at hl; omega
  have l3 : A.length ≤ 16777216 := by omega
  have l4 : B.length ≤ 16777216 := by omega
  have l5 : C.length ≤ 16777216 := by omega
  refine ⟨M, fun x => (hM x).trans (Rch.congr sp), ?_⟩
  rw [List.map_append, List.map_append] at ab
  unfold leftS rightS
  generalize aboveS ls (A ++ B ++ C) = N at *
  have l6 : N.length ≤ 16777216 := by omega
  rcases sides_loop (.sh (linesD ls)) (.sh (.lst (A.map .str))) (.sh (.lst (B.map .str))) (.sh (.lst (C.map .str))) (.sh (.lst (N.map .str))) .un .un M B .un with ⟨hb, ρ', e3⟩ | ⟨hb, s6, e3⟩
  · refine .inl ?_
    unfold mT_sides bT_sides
    simp_arith [lo, l1, l2, l3, l4, l5, ab, e1, e2, e3]
  · refine .inr ⟨hb, ?_⟩
    have lc1 := lc_filter (vs := [6]) (g := gNm 6) (tt := tVal (eOp2 pIn (eVar 6) (eVar 5))) (e := eVar 6) D.str D.str (fun x => decide (x ∈ M)) [.sh (linesD ls), .sh (.lst (A.map .str)), .sh (.lst (B.map .str)), .sh (.lst (C.map .str)), .sh (.lst (N.map .str)), .ow (.dct (DL.encM M)), .un, .un, .un] N [] (fun x _ acc ds => by
      have hi := in_dctM M x
      by_cases q : x ∈ M
      · simp_arith [hi, q]
      · simp_arith [hi, q])
    have lc2 := lc_filter (vs := [6]) (g := gNm 6) (tt := tAndD (tVal (eOp2 pNotIn (eVar 6) (eVar 5))) (tVal (eOp2 pNotIn (eVar 6) (eVar 3)))) (e := eVar 6) D.str D.str (fun x => !decide (x ∈ M) && !decide (x ∈ C)) [.sh (linesD ls), .sh (.lst (A.map .str)), .sh (.lst (B.map .str)), .sh (.lst (C.map .str)), .sh (.lst (N.map .str)), .ow (.dct (DL.encM M)), .un, .ow (.lst ((N.filter fun x => decide (x ∈ M)).map .str)), .un] N [] (fun x _ acc ds => by
      have hi := in_dctM M x
      have hj := in_lstS x C
      by_cases q : x ∈ M
      · simp_arith [hi, q, Bool.false_and]
      · by_cases q2 : x ∈ C
        · simp_arith [hi, hj, q, q2, Bool.true_and]
        · simp_arith [hi, hj, q, q2, Bool.true_and])
    unfold mT_sides bT_sides
    simp_arith [lo, l1, l2, l3, l4, l5, ab, e1, e2, e3, l6, lc1, lc2]
theorem law63_turn {ls : List Line} (h : LnB ls) (h1 : 1 ≤ ls.length) (l10 : ls.length ≤ 10) (sk : ∀ x ∈ ls.map (·.1), PyData.strOk x = true) (nel : ∀ l ∈ ls, l.2.Nodup) (x0 : Sl) (c : Int) (s2 s4 s5 s6 s7 s8 s9 s10 : Sl) (h2 : s2 = .ow (.lst ((ls.map (·.1)).map .str)) ∨ s2 = .sh (.lst ((ls.map (·.1)).map .str))) :
    ∃ s4' s5' s6' s7' s8' s9', l_law_1 [x0, .sh (linesD ls), s2, .sh (.int c), s4, s5, s6, s7, s8, s9, s10] = .nx [x0, .sh (linesD ls), .sh (.lst ((ls.map (·.1)).map .str)), .sh (.int c), s4', s5', s6', s7', s8', s9', s10] := by
  have lnm : (ls.map (·.1)).length = ls.length := List.length_map ..
  obtain ⟨A, B, C, e3, nd, hs⟩ := lists_ok65 c (ls.map (·.1)) h.ok.nd (by omega)
  have loc := law_local_ok h h1 sk nel c
  obtain ⟨M, hM, hT⟩ := sidesT_ok h hs nd
  have hne : pNe (.lst [.lst (A.map .str), .lst (B.map .str), .lst (C.map .str)]) (.lst [.lst (A.map .str), .lst (B.map .str), .lst (C.map .str)]) = .v (.bl false) := lst_ne (Ls := [A, B, C]) fun x hx => sk x (hs x (by simpa using hx))
  have sl : (A ++ B ++ C).length ≤ 10 := by
    have := nodup_sub nd hs
    omega
  have l3 : A.length ≤ 16777216 := by simp at sl; omega
  have l4 : B.length ≤ 16777216 := by simp at sl; omega
  have l5 : C.length ≤ 16777216 := by simp at sl; omega
  unfold lstD at e3
  simp only [List.map_cons, List.map_nil] at e3
  have cut : ∀ p q r : D, atI [p, q, r] 0 = some p ∧ atI [p, q, r] 1 = some q ∧ atI [p, q, r] 2 = some r := fun p q r => ⟨rfl, rfl, rfl⟩
  have nn1 : pNotN .non .non = .v (.bl false) := rfl
  have nn2 : ∀ ds, pNotN (.tup ds) .non = .v (.bl true) := fun _ => rfl
  rcases hT with e | ⟨hb, e⟩
  · refine ⟨.sh (.lst (A.map .str)), .sh (.lst (B.map .str)), .sh (.lst (C.map .str)), .ow (.lst [.lst (A.map .str), .lst (B.map .str), .lst (C.map .str)]), .sh .non, s9, ?_⟩
    rcases h2 with rfl | rfl <;> (
    simp_arith [u_law_1, e3, l3, l4, l5, e]
    rw [blkE_eq (r := SR.nx [x0, .sh (linesD ls), .sh (.lst ((ls.map (·.1)).map .str)), .sh (.int c), .sh (.lst (A.map .str)), .sh (.lst (B.map .str)), .sh (.lst (C.map .str)), .ow (.lst [.lst (A.map .str), .lst (B.map .str), .lst (C.map .str)]), .sh .non, s9, s10]) fun v => by simp_arith [hne, loc, nn1]])
  · obtain ⟨M2, hM2, hS⟩ := sides_ok h hs nd
    have hb2 : ¬∃ y ∈ B, y ∈ M2 := fun ⟨y, hy, hm⟩ => hb ⟨y, hy, (hM y).mpr ((hM2 y).mp hm)⟩
    have e4 := (hS.resolve_left fun z => hb2 z.1).2
    have t1 := law_sides_true h hs nd sk hM hb
    have t2 := law_sides_true h hs nd sk hM2 hb2
    generalize leftS ls A B C M = L1 at *
    generalize rightS ls A B C M = R1 at *
    generalize (D.tup [.lst ((leftS ls A B C M2).map .str), .lst ((rightS ls A B C M2).map .str)]) = P2 at t2 e4
    have ne2 : pNe (.tup [.lst [], .lst []]) (.tup [.lst [], .lst []]) = .v (.bl false) := ne_self (n := 2) (.tup fun d hd => by simp at hd; subst hd; exact .lst fun d hd => by cases hd) (by decide)
    refine ⟨.sh (.lst (A.map .str)), .sh (.lst (B.map .str)), .sh (.lst (C.map .str)), .ow (.lst [.lst (A.map .str), .lst (B.map .str), .lst (C.map .str)]), .sh (.tup [.lst [], .lst []]), .sh P2, ?_⟩
    rcases h2 with rfl | rfl <;> (
    simp_arith [u_law_1, e3, l3, l4, l5, e]
    rw [blkE_eq (r := SR.nx [x0, .sh (linesD ls), .sh (.lst ((ls.map (·.1)).map .str)), .sh (.int c), .sh (.lst (A.map .str)), .sh (.lst (B.map .str)), .sh (.lst (C.map .str)), .ow (.lst [.lst (A.map .str), .lst (B.map .str), .lst (C.map .str)]), .sh (.tup [.lst [], .lst []]), .sh P2, s10]) fun v => by simp_arith [hne, loc, t1, e4, t2, ne2, l3, l4, l5, nn2]])
theorem law63_loop {ls : List Line} (h : LnB ls) (h1 : 1 ≤ ls.length) (l10 : ls.length ≤ 10) (sk : ∀ x ∈ ls.map (·.1), PyData.strOk x = true) (nel : ∀ l ∈ ls, l.2.Nodup) (x0 s10 : Sl) : ∀ (cs : List Int) (s2 s3 s4 s5 s6 s7 s8 s9 : Sl) (_ : s2 = .ow (.lst ((ls.map (·.1)).map .str)) ∨ s2 = .sh (.lst ((ls.map (·.1)).map .str))),
    ∃ s2' s3' s4' s5' s6' s7' s8' s9', forL (gNm 3) l_law_1 (cs.map .int) [x0, .sh (linesD ls), s2, s3, s4, s5, s6, s7, s8, s9, s10] = .nx [x0, .sh (linesD ls), s2', s3', s4', s5', s6', s7', s8', s9', s10]
  | [], s2, s3, s4, s5, s6, s7, s8, s9, _ => ⟨s2, s3, s4, s5, s6, s7, s8, s9, rfl⟩
  | c :: cs, s2, s3, s4, s5, s6, s7, s8, s9, h2 => by
    obtain ⟨t4, t5, t6, t7, t8, t9, e⟩ := law63_turn h h1 l10 sk nel x0 c s2 s4 s5 s6 s7 s8 s9 s10 h2
    obtain ⟨u2, u3, u4, u5, u6, u7, u8, u9, ih⟩ := law63_loop h h1 l10 sk nel x0 s10 cs _ (.sh (.int c)) t4 t5 t6 t7 t8 t9 (.inr rfl)
    refine ⟨u2, u3, u4, u5, u6, u7, u8, u9, ?_⟩
    rw [← ih, List.map_cons]
    simp_arith [e]
theorem holds : ∀ ns : List Int, ns.length ≤ 63 → m_law [.scr ns] = .sh (.bl true) := fun ns _ => by
  obtain ⟨ls, e1, h, n1, n10, nel, hw, hP⟩ := law_lines_ok ns 10 (by decide) (by decide)
  rw [show ((10 : Nat) : Int) = 10 from rfl] at e1
  obtain ⟨fs, e2, _⟩ := questions_ok ns 4 (by decide) (by decide)
  rw [show ((4 : Nat) : Int) = 4 from rfl] at e2
  have hm : (ls.map (·.1)).map D.str = ls.map fun l => D.str l.1 := by rw [List.map_map]; rfl
  have lc := lc_map (vs := [10]) (g := gNm 10) (tt := tYesD) (e := eOp2 pIx (eVar 10) (eC (.int 0))) lineD (fun l => D.str l.1) [.sh (.scr ns), .sh (linesD ls), .un, .un, .un, .un, .un, .un, .un, .un, .un] ls [] (fun e _ acc ds => by unfold lineD; simp_arith [])
  rw [← hm] at lc
  have ll : ls.length ≤ 16777216 := by omega
  have hI : itemsD (linesD ls) = some (ls.map lineD) := rfl
  obtain ⟨u2, u3, u4, u5, u6, u7, u8, u9, e⟩ := law63_loop h n1 n10 (fun x hx => str_ok (hw x hx)) nel (.sh (.scr ns)) .un fs _ .un .un .un .un .un .un .un (.inl rfl)
  unfold m_law b_law
  simp_arith [-DL.v_lc1, e1, hI, ll, lc, e2, e]

set_option maxHeartbeats 0
theorem std {K : PySem.W.Frag} {h : Heap} {mg : Str → Option Value} (X : K.In h) (G : h.Ns mainGlobals mg) (c : He.SaysD fas fns K) {x : Str} {st : Stmt} {ps : List Str} (i : Nat) (hd : fns[i]? = some ⟨(x, none), x, x, defArgs st, defBody st, defScope st, [], []⟩) (hg : fas[i]? = some (.glo x))
    (b : ∀ (kV doc pm : Value) (an : Option Addr) (cdv ct : Value) (us : List Value), us.length = ps.length → bindArgs (PySem.W.fnOf x x (defArgs st) (defBody st) (defScope st) .none kV doc pm an cdv ct) ⟨us, []⟩ = pure (ps.zip us)) : Std K mg x st ps := by
  obtain ⟨fd, F⟩ := c.def_ i hd
  exact ⟨⟨_, fd, F, He.glo_ok X G (c.fact i hg)⟩, b⟩
theorem facts {w : World} {K : PySem.W.Frag} {h : Heap} {mg : Str → Option Value} {f : Addr} (X : K.In h) (G : h.Ns mainGlobals mg) (hfa : mg ("law" : Str) = some (.ref f)) (c : He.SaysD fas fns K) (cx : ex K = true) (H : ∀ ns : List Int, ns.length ≤ 63 → m_law [.scr ns] = .sh (.bl true)) :
    ∃ fd : FuncData, (∀ (s : Shared) (v : Value), BindsTo s fd ⟨[v], []⟩ [("_law_script", v)]) ∧ ∀ base : Heap, K.In base → base.Ns mainGlobals mg → FnOk (PySem.Challenge.rw_oddsnet_k63_sides_walked).prog w K mg base CX0 6 f fd ["_law_script"] (spL K) := by
  have T : Txt K mg := ⟨He.free_ok X G (c.fact 17 (f := .free "list") rfl), He.free_ok X G (c.fact 18 (f := .free "len") rfl), He.free_ok X G (c.fact 19 (f := .free "range") rfl), He.free_ok X G (c.fact 20 (f := .free "reversed") rfl), He.free_ok X G (c.fact 21 (f := .free "int") rfl), He.free_ok X G (c.fact 22 (f := .free "max") rfl), He.free_ok X G (c.fact 23 (f := .free "tuple") rfl), He.free_ok X G (c.fact 24 (f := .free "enumerate") rfl), He.free_ok X G (c.fact 25 (f := .free "isinstance") rfl), ⟨_, He.glo_ok X G (c.fact 27 (f := .glo "NoName") rfl), He.exc_ok (c.fact 26 (f := .exc "NoName") rfl)⟩, ⟨_, He.glo_ok X G (c.fact 29 (f := .glo "Twice") rfl), He.exc_ok (c.fact 28 (f := .exc "Twice") rfl)⟩⟩
  obtain ⟨fd, F⟩ := c.def_ 16 (d := d_law) rfl
  have e := hfa.symm.trans (He.glo_ok X G (c.fact 16 (f := .glo "law") rfl))
  cases e
  have b := FunD.bindsA (ps := ["_law_script"]) F fun _ _ _ _ _ _ us hl => match us, hl with | [_], _ => rfl
  refine ⟨fd, fun s v => b s [v] rfl, fun base _ _ => ?_⟩
  have S_elders_in : Std K mg "elders_in" s_elders_in ["lines"] := std X G c 0 rfl rfl fun _ _ _ _ _ _ us hl => match us, hl with | [_], _ => rfl
  have C_elders_in := ok_elders_in (P := (PySem.Challenge.rw_oddsnet_k63_sides_walked).prog) (w := w) (base := base) T S_elders_in
  have S_look_for : Std K mg "look_for" s_look_for ["lines", "names"] := std X G c 1 rfl rfl fun _ _ _ _ _ _ us hl => match us, hl with | [_, _], _ => rfl
  have C_look_for := ok_look_for (P := (PySem.Challenge.rw_oddsnet_k63_sides_walked).prog) (w := w) (base := base) T S_look_for C_elders_in
  have S_look_at_lists : Std K mg "look_at_lists" s_look_at_lists ["lines", "ones", "others", "third"] := std X G c 2 rfl rfl fun _ _ _ _ _ _ us hl => match us, hl with | [_, _, _, _], _ => rfl
  have C_look_at_lists := ok_look_at_lists (P := (PySem.Challenge.rw_oddsnet_k63_sides_walked).prog) (w := w) (base := base) T S_look_at_lists C_look_for
  have S_above : Std K mg "above" s_above ["lines", "names"] := std X G c 3 rfl rfl fun _ _ _ _ _ _ us hl => match us, hl with | [_, _], _ => rfl
  have C_above := ok_above (P := (PySem.Challenge.rw_oddsnet_k63_sides_walked).prog) (w := w) (base := base) T S_above C_look_for
  have S_ties_among : Std K mg "ties_among" s_ties_among ["lines", "names"] := std X G c 4 rfl rfl fun _ _ _ _ _ _ us hl => match us, hl with | [_, _], _ => rfl
  have C_ties_among := ok_ties_among (P := (PySem.Challenge.rw_oddsnet_k63_sides_walked).prog) (w := w) (base := base) T S_ties_among
  have S_reached_from : Std K mg "reached_from" s_reached_from ["tied", "ones", "third"] := std X G c 5 rfl rfl fun _ _ _ _ _ _ us hl => match us, hl with | [_, _, _], _ => rfl
  have C_reached_from := ok_reached_from (P := (PySem.Challenge.rw_oddsnet_k63_sides_walked).prog) (w := w) (base := base) T S_reached_from
  have S_sides : Std K mg "sides" s_sides ["lines", "ones", "others", "third"] := std X G c 6 rfl rfl fun _ _ _ _ _ _ us hl => match us, hl with | [_, _, _, _], _ => rfl
  have C_sides := ok_sides (P := (PySem.Challenge.rw_oddsnet_k63_sides_walked).prog) (w := w) (base := base) T S_sides C_look_at_lists C_above C_ties_among C_reached_from
  have CT_sides := okT_sides (P := (PySem.Challenge.rw_oddsnet_k63_sides_walked).prog) (w := w) (base := base) T S_sides C_look_at_lists C_above C_ties_among C_reached_from
  have S__law_cell : Std K mg "_law_cell" s__law_cell ["_law_script", "_law_k"] := std X G c 7 rfl rfl fun _ _ _ _ _ _ us hl => match us, hl with | [_, _], _ => rfl
  have C__law_cell := ok__law_cell (P := (PySem.Challenge.rw_oddsnet_k63_sides_walked).prog) (w := w) (base := base) T S__law_cell
  have S__law_words : Std K mg "_law_words" s__law_words ["_law_cell_here", "_law_many"] := std X G c 8 rfl rfl fun _ _ _ _ _ _ us hl => match us, hl with | [_, _], _ => rfl
  have C__law_words := ok__law_words (P := (PySem.Challenge.rw_oddsnet_k63_sides_walked).prog) (w := w) (base := base) T S__law_words
  have S__law_lines : Std K mg "_law_lines" s__law_lines ["_law_script", "_law_most"] := std X G c 9 rfl rfl fun _ _ _ _ _ _ us hl => match us, hl with | [_, _], _ => rfl
  have C__law_lines := ok__law_lines (P := (PySem.Challenge.rw_oddsnet_k63_sides_walked).prog) (w := w) (base := base) T S__law_lines C__law_cell C__law_words
  have S__law_questions : Std K mg "_law_questions" s__law_questions ["_law_script", "_law_many"] := std X G c 10 rfl rfl fun _ _ _ _ _ _ us hl => match us, hl with | [_, _], _ => rfl
  have C__law_questions := ok__law_questions (P := (PySem.Challenge.rw_oddsnet_k63_sides_walked).prog) (w := w) (base := base) T S__law_questions C__law_cell
  have S__law_lists : Std K mg "_law_lists" s__law_lists ["_law_cell_here", "_law_names"] := std X G c 11 rfl rfl fun _ _ _ _ _ _ us hl => match us, hl with | [_, _], _ => rfl
  have C__law_lists := ok__law_lists (P := (PySem.Challenge.rw_oddsnet_k63_sides_walked).prog) (w := w) (base := base) T S__law_lists
  have S__law_elders : Std K mg "_law_elders" s__law_elders ["_law_lines_here"] := std X G c 12 rfl rfl fun _ _ _ _ _ _ us hl => match us, hl with | [_], _ => rfl
  have C__law_elders := ok__law_elders (P := (PySem.Challenge.rw_oddsnet_k63_sides_walked).prog) (w := w) (base := base) T S__law_elders
  have S__law_above : Std K mg "_law_above" s__law_above ["_law_lines_here", "_law_names"] := std X G c 13 rfl rfl fun _ _ _ _ _ _ us hl => match us, hl with | [_, _], _ => rfl
  have C__law_above := ok__law_above (P := (PySem.Challenge.rw_oddsnet_k63_sides_walked).prog) (w := w) (base := base) T S__law_above C__law_elders
  have S__law_sides : Std K mg "_law_sides" s__law_sides ["_law_found", "_law_lines_here", "_law_ones", "_law_others", "_law_third"] := std X G c 14 rfl rfl fun _ _ _ _ _ _ us hl => match us, hl with | [_, _, _, _, _], _ => rfl
  have C__law_sides := ok__law_sides (P := (PySem.Challenge.rw_oddsnet_k63_sides_walked).prog) (w := w) (base := base) T S__law_sides C__law_above
  have S__law_local : Std K mg "_law_local" s__law_local ["_law_lines_here", "_law_cell_here"] := std X G c 15 rfl rfl fun _ _ _ _ _ _ us hl => match us, hl with | [_, _], _ => rfl
  have C__law_local := ok__law_local (P := (PySem.Challenge.rw_oddsnet_k63_sides_walked).prog) (w := w) (base := base) T S__law_local C__law_above C_sides C__law_sides
  exact fn_law (ok_law (P := (PySem.Challenge.rw_oddsnet_k63_sides_walked).prog) (w := w) (base := base) T F C__law_lines C__law_local C__law_sides C_sides C__law_lists C__law_questions CT_sides) H
end Law
open PySem PySem.W PySem.Calls PyProof.Rows in
set_option maxRecDepth 100000 in
set_option maxHeartbeats 0 in
theorem PySem.Challenge.cw_oddsnet_k63_sides_walked_holds : PySem.Challenge.rw_oddsnet_k63_sides_walked.Holds := by
  w_on; o_law
  refine HandSHeadRun.head_any (r := OpenLaw.row PySem.Challenge.rw_oddsnet_k63_sides_walked) (q := view (OpenLaw.row PySem.Challenge.rw_oddsnet_k63_sides_walked).prog [22]) (H := Law.hk) (ob := Law.ob) (M := 40000) (loose := Law.loose) (d := HandSHeadRun.topDef (OpenLaw.row PySem.Challenge.rw_oddsnet_k63_sides_walked).prog 22) (kwd := []) Law.ob_eq
    (by kernel_rfl) (fun s => by kernel_rfl) Law.run (by kernel_rfl) (by kernel_rfl) (by kernel_rfl) (by rfl) (by first | assumption | decide +kernel) (by decide +kernel) ⟨rfl, rfl, rfl, rfl, rfl, by decide +kernel⟩ ?hw ?hc
  case hw => w_witness2
  case hc =>
    refine L2.walk_ofE (l := PySem.Challenge.rw_oddsnet_k63_sides_walked) (n := 63) (k := 6) (x := "_law_script") (CX := L2.CX0) rfl (by decide) (by kernel_rfl) ⟨rfl, by decide, by decide⟩ ?F (fun _ _ _ _ z => z)
    intro w mg fa h Y G hmg0
    obtain ⟨K, KX, c, cx⟩ := Y
    have hmg : mg ("law" : PySem.Str) = some (.ref fa) := by
      have e : (HandSHeadRun.topDef (OpenLaw.row PySem.Challenge.rw_oddsnet_k63_sides_walked).prog 22).name = ("law" : PySem.Str) := by kernel_rfl
      rw [← e]
      exact hmg0
    obtain ⟨fd, hb, hF⟩ := Law.facts (w := w) KX G hmg c cx Law.holds
    exact ⟨K, fd, DL.spL K, KX, hb, fun H a ns hl _ hS => ⟨a, ns, rfl, hS, hl, fun _ => rfl⟩, hF⟩
