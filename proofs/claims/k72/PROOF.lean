import PyProof.Rows.All
import Wide.All
import OpenK.AllK
import Wide.FinOn
import HandS.ForMost
import HandS.ForExc
import HandS.Wide
import HandS.More
import HandS.IsInst
import HandS.TupAny
import HandS.Zip
import HandS.TupLe
import HandS.Defaults
import HandS.Deep
import HandS.HeadEnd
import HandS.Head0
import HandS.Head1
import HandS.Head2
import HandS.HeadHook1
import HandS.HeadHook2
import KE.KStateDown
import PySem.Challenge.RW_oncedoor_k72_too_near
set_option Elab.async false
set_option linter.all false
set_option maxRecDepth 100000
set_option maxHeartbeats 1000000
namespace Dv
open PySem PySem.Spec PyProof.Rows L2

/-! values without immutable objects: a tuple is its items -/
inductive DV where
  | non | bl (b : Bool) | int (i : Int) | str (x : Str) | tup (ds : List DV) | ref (a : Addr) | scr (ns : List Int) | kt (ds : List DV)

/-- a list that never changes: known to the object, or the module's -/
def Scr (K : PySem.W.Frag) (H : Hp) (a : Addr) (ns : List Int) : Prop :=
  (∃ o, H a = some (.frz o (.lst (ns.map V.int)))) ∨
    ∃ (o : Obj) (its : Array Value) (n : Nat), K.lookup a = some o ∧ o.cls = .type "list" ∧ o.dict = none ∧ o.data = .seq its n ∧ its.size ≤ sizeLine ∧ Vals (ns.map V.int) its.toList
theorem Scr.seq {K : PySem.W.Frag} {H : Hp} {a : Addr} {ns : List Int} (h : Scr K H a ns) : SqL K H a (ns.map V.int) := by
  rcases h with ⟨o, h⟩ | h
  · exact .inl (.inr ⟨o, h⟩)
  · exact .inr h

/-- a tuple of the module's -/
def KTup (K : PySem.W.Frag) (a : Addr) (xs : List V) : Prop :=
  ∃ (o : Obj) (its : Array Value) (n : Nat), K.lookup a = some o ∧ o.cls = .type "tuple" ∧ o.data = .seq its n ∧ its.size ≤ sizeLine ∧ Vals xs its.toList
theorem KTup.seq {K : PySem.W.Frag} {H : Hp} {a : Addr} {xs : List V} (h : KTup K a xs) : SqT K H a xs := .inr h
/-- what never changes stays -/
structure Tp (H H' : Hp) : Prop where
  tups : ∀ b xs, H b = some (.tup xs) → H' b = some (.tup xs)
  frzs : ∀ b o u, H b = some (.frz o u) → H' b = some (.frz o u)
theorem Tp.refl {H : Hp} : Tp H H := ⟨fun _ _ h => h, fun _ _ _ h => h⟩
theorem Tp.trans {H H1 H2 : Hp} (a : Tp H H1) (b : Tp H1 H2) : Tp H H2 := ⟨fun c x h => b.tups c x (a.tups c x h), fun c o u h => b.frzs c o u (a.frzs c o u h)⟩
theorem Tp.new {H : Hp} {p : Addr} {o : HO} (h : H p = none) : Tp H (upd H p o) :=
  ⟨fun b xs e => by rw [upd_ne (ne_of_none e h)]; exact e, fun b x u e => by rw [upd_ne (ne_of_none e h)]; exact e⟩
theorem Tp.put {H : Hp} {a : Addr} {o : HO} (m : Mut (H a)) : Tp H (upd H a o) :=
  ⟨fun b xs e => by
    rw [upd_ne (fun z => by subst z; rw [e] at m; exact m)]; exact e,
   fun b x u e => by
    rw [upd_ne (fun z => by subst z; rw [e] at m; exact m)]; exact e⟩
theorem Tp.seq {K : PySem.W.Frag} {H H' : Hp} (t : Tp H H') {a : Addr} {xs : List V} (h : SqT K H a xs) : SqT K H' a xs := by
  rcases h with (h | ⟨o, h⟩) | h
  · exact .inl (.inl (t.tups _ _ h))
  · exact .inl (.inr ⟨o, t.frzs _ _ _ h⟩)
  · exact .inr h
theorem Tp.scr {K : PySem.W.Frag} {H H' : Hp} (t : Tp H H') {a : Addr} {ns : List Int} (h : Scr K H a ns) : Scr K H' a ns := by
  rcases h with ⟨o, h⟩ | h
  · exact .inl ⟨o, t.frzs _ _ _ h⟩
  · exact .inr h

mutual
inductive Rl (K : PySem.W.Frag) (H : Hp) : V → DV → Prop
  | non : Rl K H .non .non
  | bl (b : Bool) : Rl K H (.bl b) (.bl b)
  | int (i : Int) : Rl K H (.int i) (.int i)
  | str (x : Str) : Rl K H (.str x) (.str x)
  | tup {a : Addr} {xs : List V} {ds : List DV} : H a = some (.tup xs) → Rls K H xs ds → Rl K H (.ref a) (.tup ds)
  | ref (a : Addr) : Rl K H (.ref a) (.ref a)
  | scr {a : Addr} {ns : List Int} : Scr K H a ns → Rl K H (.ref a) (.scr ns)
  | kt {a : Addr} {xs : List V} {ds : List DV} : KTup K a xs → Rls K H xs ds → Rl K H (.ref a) (.kt ds)
inductive Rls (K : PySem.W.Frag) (H : Hp) : List V → List DV → Prop
  | nil : Rls K H [] []
  | cons {v : V} {d : DV} {vs : List V} {ds : List DV} : Rl K H v d → Rls K H vs ds → Rls K H (v :: vs) (d :: ds)
end
section
variable {K : PySem.W.Frag} {H H' : Hp}
mutual
theorem Rl.mono (t : Tp H H') : ∀ {v : V} {d : DV}, Rl K H v d → Rl K H' v d
  | _, _, .non => .non
  | _, _, .bl b => .bl b
  | _, _, .int i => .int i
  | _, _, .str x => .str x
  | _, _, .tup s r => .tup (t.tups _ _ s) (Rls.mono t r)
  | _, _, .kt s r => .kt s (Rls.mono t r)
  | _, _, .ref a => .ref a
  | _, _, .scr s => .scr (t.scr s)
theorem Rls.mono (t : Tp H H') : ∀ {vs : List V} {ds : List DV}, Rls K H vs ds → Rls K H' vs ds
  | _, _, .nil => .nil
  | _, _, .cons r s => .cons (Rl.mono t r) (Rls.mono t s)
end
theorem Rls.length : ∀ {vs : List V} {ds : List DV}, Rls K H vs ds → vs.length = ds.length
  | _, _, .nil => rfl
  | _, _, .cons _ s => by rw [List.length_cons, List.length_cons, Rls.length s]
theorem Rls.append : ∀ {vs ws : List V} {ds es : List DV}, Rls K H vs ds → Rls K H ws es → Rls K H (vs ++ ws) (ds ++ es)
  | _, _, _, _, .nil, r => r
  | _, _, _, _, .cons r s, q => .cons r (Rls.append s q)
theorem Rls.get : ∀ {vs : List V} {ds : List DV} {i : Nat} {d : DV}, Rls K H vs ds → ds[i]? = some d → ∃ v, vs[i]? = some v ∧ Rl K H v d
  | _, _, _, _, .nil, e => by simp at e
  | _, _, 0, _, .cons r _, e => by simp at e; subst e; exact ⟨_, rfl, r⟩
  | _, _, i + 1, d, .cons _ s, e => by
    obtain ⟨v, h1, h2⟩ := Rls.get (i := i) (d := d) s (by simpa using e)
    exact ⟨v, by simpa using h1, h2⟩
theorem Rls.get' : ∀ {vs : List V} {ds : List DV} {i : Nat} {v : V}, Rls K H vs ds → vs[i]? = some v → ∃ d, ds[i]? = some d ∧ Rl K H v d
  | _, _, _, _, .nil, e => by simp at e
  | _, _, 0, _, .cons r _, e => by simp at e; subst e; exact ⟨_, rfl, r⟩
  | _, _, i + 1, d, .cons _ s, e => by
    obtain ⟨v, h1, h2⟩ := Rls.get' (i := i) (v := d) s (by simpa using e)
    exact ⟨v, by simpa using h1, h2⟩
theorem Rls.set : ∀ {vs : List V} {ds : List DV} (i : Nat) {v : V} {d : DV}, Rls K H vs ds → Rl K H v d → Rls K H (vs.set i v) (ds.set i d)
  | _, _, _, _, _, .nil, _ => .nil
  | _, _, 0, _, _, .cons _ s, q => .cons q s
  | _, _, i + 1, _, _, .cons r s, q => .cons r (Rls.set i s q)
theorem Rls.take : ∀ {vs : List V} {ds : List DV} (n : Nat), Rls K H vs ds → Rls K H (vs.take n) (ds.take n)
  | _, _, 0, _ => .nil
  | _, _, _ + 1, .nil => .nil
  | _, _, n + 1, .cons r s => .cons r (Rls.take n s)
theorem Rls.drop : ∀ {vs : List V} {ds : List DV} (n : Nat), Rls K H vs ds → Rls K H (vs.drop n) (ds.drop n)
  | _, _, 0, r => r
  | _, _, _ + 1, .nil => .nil
  | _, _, n + 1, .cons _ s => Rls.drop n s
theorem Rls.eraseIdx : ∀ {vs : List V} {ds : List DV} (i : Nat), Rls K H vs ds → Rls K H (vs.eraseIdx i) (ds.eraseIdx i)
  | _, _, _, .nil => .nil
  | _, _, 0, .cons _ s => s
  | _, _, i + 1, .cons r s => .cons r (Rls.eraseIdx i s)
theorem Rls.dropLast {vs : List V} {ds : List DV} (h : Rls K H vs ds) : Rls K H vs.dropLast ds.dropLast := by
  rw [List.dropLast_eq_take, List.dropLast_eq_take, h.length]; exact h.take _
theorem Rls.reverse : ∀ {vs : List V} {ds : List DV}, Rls K H vs ds → Rls K H vs.reverse ds.reverse
  | _, _, .nil => .nil
  | _, _, .cons r s => by rw [List.reverse_cons, List.reverse_cons]; exact Rls.append (Rls.reverse s) (.cons r .nil)
theorem Rls.ints : ∀ {vs : List V} {ns : List Int}, Rls K H vs (ns.map DV.int) → vs = ns.map V.int
  | _, [], r => by cases r; rfl
  | _, n :: ns, r => by
    rw [List.map_cons] at r
    cases r with
    | cons r s => cases r; rw [Rls.ints s]; rfl
theorem Rls.strs : ∀ {vs : List V} {ns : List Str}, Rls K H vs (ns.map DV.str) → vs = ns.map V.str
  | _, [], r => by cases r; rfl
  | _, n :: ns, r => by
    rw [List.map_cons] at r
    cases r with
    | cons r s => cases r; rw [Rls.strs s]; rfl
theorem Rls.bls : ∀ {vs : List V} {ns : List Bool}, Rls K H vs (ns.map DV.bl) → vs = ns.map V.bl
  | _, [], r => by cases r; rfl
  | _, n :: ns, r => by
    rw [List.map_cons] at r
    cases r with
    | cons r s => cases r; rw [Rls.bls s]; rfl
theorem Rls.of_ints : ∀ (ns : List Int), Rls K H (ns.map V.int) (ns.map DV.int)
  | [] => .nil
  | n :: ns => .cons (.int n) (Rls.of_ints ns)
theorem Rls.of_strs : ∀ (ns : List Str), Rls K H (ns.map V.str) (ns.map DV.str)
  | [] => .nil
  | n :: ns => .cons (.str n) (Rls.of_strs ns)
end

/-! ### pairs: dicts' entries, attributes -/
def Rps {κ : Type} (K : PySem.W.Frag) (H : Hp) : List (κ × V) → List (κ × DV) → Prop
  | [], [] => True
  | p :: r, q :: s => p.1 = q.1 ∧ Rl K H p.2 q.2 ∧ Rps K H r s
  | _, _ => False
section
variable {K : PySem.W.Frag} {H H' : Hp} {κ : Type}
theorem Rps.mono (t : Tp H H') : ∀ {ps : List (κ × V)} {qs : List (κ × DV)}, Rps K H ps qs → Rps K H' ps qs
  | [], [], _ => trivial
  | _ :: _, _ :: _, h => ⟨h.1, h.2.1.mono t, Rps.mono t h.2.2⟩
  | [], _ :: _, h => h.elim
  | _ :: _, [], h => h.elim
theorem Rps.length : ∀ {ps : List (κ × V)} {qs : List (κ × DV)}, Rps K H ps qs → ps.length = qs.length
  | [], [], _ => rfl
  | _ :: _, _ :: _, h => by rw [List.length_cons, List.length_cons, Rps.length h.2.2]
  | [], _ :: _, h => h.elim
  | _ :: _, [], h => h.elim
theorem Rps.append : ∀ {ps ps2 : List (κ × V)} {qs qs2 : List (κ × DV)}, Rps K H ps qs → Rps K H ps2 qs2 → Rps K H (ps ++ ps2) (qs ++ qs2)
  | [], _, [], _, _, r => r
  | _ :: _, _, _ :: _, _, h, r => ⟨h.1, h.2.1, Rps.append h.2.2 r⟩
  | [], _, _ :: _, _, h, _ => h.elim
  | _ :: _, _, [], _, h, _ => h.elim
theorem Rps.get' : ∀ {ps : List (κ × V)} {qs : List (κ × DV)} {i : Nat} {p : κ × V}, Rps K H ps qs → ps[i]? = some p → ∃ d, qs[i]? = some (p.1, d) ∧ Rl K H p.2 d
  | [], [], _, _, _, e => by simp at e
  | p :: _, q :: _, 0, _, h, e => by
    simp at e; subst e
    exact ⟨q.2, by simp [h.1], h.2.1⟩
  | _ :: _, _ :: _, i + 1, p, h, e => by
    obtain ⟨d, h1, h2⟩ := Rps.get' (i := i) (p := p) h.2.2 (by simpa using e)
    exact ⟨d, by simpa using h1, h2⟩
  | [], _ :: _, _, _, h, _ => h.elim
  | _ :: _, [], _, _, h, _ => h.elim
theorem Rps.keys : ∀ {ps : List (κ × V)} {qs : List (κ × DV)}, Rps K H ps qs → ps.map (·.1) = qs.map (·.1)
  | [], [], _ => rfl
  | _ :: _, _ :: _, h => by rw [List.map_cons, List.map_cons, h.1, Rps.keys h.2.2]
  | [], _ :: _, h => h.elim
  | _ :: _, [], h => h.elim
variable [DecidableEq κ]
/-- a table's look-up, store, removal -/
def vD (kvs : List (κ × DV)) (k : κ) : Option DV := (kvs.find? fun kv => decide (kv.1 = k)).map (·.2)
def pD (kvs : List (κ × DV)) (k : κ) (v : DV) : List (κ × DV) :=
  if (kvs.any fun kv => decide (kv.1 = k)) = true then kvs.map (fun kv => if kv.1 = k then (kv.1, v) else kv) else kvs ++ [(k, v)]
def rD (kvs : List (κ × DV)) (k : κ) : List (κ × DV) := kvs.filter fun kv => decide (kv.1 ≠ k)
theorem Rps.val (k : κ) : ∀ {ps : List (κ × V)} {qs : List (κ × DV)}, Rps K H ps qs → (valV ps k = none ∧ vD qs k = none) ∨ ∃ v d, valV ps k = some v ∧ vD qs k = some d ∧ Rl K H v d
  | [], [], _ => .inl ⟨rfl, rfl⟩
  | p :: r, q :: s, h => by
    by_cases e : p.1 = k
    · refine .inr ⟨p.2, q.2, valV_pos e, ?_, h.2.1⟩
      unfold vD
      rw [List.find?_cons_of_pos (by simp [← h.1, e])]
      rfl
    · have e' : ¬ q.1 = k := by rw [← h.1]; exact e
      have e2 : vD (q :: s) k = vD s k := by
        unfold vD
        rw [List.find?_cons_of_neg (by simp [e'])]
      rw [valV_neg e, e2]
      exact Rps.val k h.2.2
  | [], _ :: _, h => h.elim
  | _ :: _, [], h => h.elim
theorem Rps.any (k : κ) : ∀ {ps : List (κ × V)} {qs : List (κ × DV)}, Rps K H ps qs → (ps.any fun kv => decide (kv.1 = k)) = (qs.any fun kv => decide (kv.1 = k))
  | [], [], _ => rfl
  | p :: r, q :: s, h => by rw [List.any_cons, List.any_cons, h.1, Rps.any k h.2.2]
  | [], _ :: _, h => h.elim
  | _ :: _, [], h => h.elim
theorem Rps.repl (k : κ) {v : V} {d : DV} (r : Rl K H v d) : ∀ {ps : List (κ × V)} {qs : List (κ × DV)}, Rps K H ps qs → Rps K H (ps.map fun kv => if kv.1 = k then (kv.1, v) else kv) (qs.map fun kv => if kv.1 = k then (kv.1, d) else kv)
  | [], [], _ => trivial
  | p :: _, q :: _, h => by
    refine ⟨?_, ?_, Rps.repl k r h.2.2⟩
    · dsimp only
      by_cases e : p.1 = k
      · rw [if_pos e, if_pos (h.1 ▸ e)]; exact h.1
      · rw [if_neg e, if_neg (h.1 ▸ e)]; exact h.1
    · dsimp only
      by_cases e : p.1 = k
      · rw [if_pos e, if_pos (h.1 ▸ e)]; exact r
      · rw [if_neg e, if_neg (h.1 ▸ e)]; exact h.2.1
  | [], _ :: _, h => h.elim
  | _ :: _, [], h => h.elim
theorem Rps.put (k : κ) {v : V} {d : DV} (r : Rl K H v d) {ps : List (κ × V)} {qs : List (κ × DV)} (h : Rps K H ps qs) : Rps K H (putK ps k v) (pD qs k d) := by
  unfold putK pD
  rw [h.any k]
  split
  · exact h.repl k r
  · exact h.append ⟨rfl, r, trivial⟩
theorem Rps.drop (k : κ) : ∀ {ps : List (κ × V)} {qs : List (κ × DV)}, Rps K H ps qs → Rps K H (dropK ps k) (rD qs k)
  | [], [], _ => trivial
  | p :: r, q :: s, h => by
    have ih := Rps.drop k h.2.2
    unfold dropK rD
    rw [List.filter_cons, List.filter_cons]
    by_cases e : p.1 = k
    · rw [if_neg (by simp [e]), if_neg (by simp [← h.1, e])]; exact ih
    · rw [if_pos (by simp [e]), if_pos (by simp [← h.1, e])]; exact ⟨h.1, h.2.1, ih⟩
  | [], _ :: _, h => h.elim
  | _ :: _, [], h => h.elim
end
section
variable {K : PySem.W.Frag} {H H' : Hp}
/-- attributes -/
def putD (f : Str) (v : DV) : List (Str × DV) → List (Str × DV)
  | [] => [(f, v)]
  | (g, x) :: r => if g = f then (g, v) :: r else (g, x) :: putD f v r
theorem Rps.putF (f : Str) {v : V} {d : DV} (r : Rl K H v d) : ∀ {ps : List (Str × V)} {qs : List (Str × DV)}, Rps K H ps qs → Rps K H (putF f v ps) (putD f d qs)
  | [], [], _ => ⟨rfl, r, trivial⟩
  | (g, x) :: _, (g', y) :: _, h => by
    have e : g = g' := h.1
    subst e
    unfold L2.putF putD
    by_cases q : g = f
    · rw [if_pos q, if_pos q]; exact ⟨rfl, r, h.2.2⟩
    · rw [if_neg q, if_neg q]; exact ⟨rfl, h.2.1, Rps.putF f r h.2.2⟩
  | [], _ :: _, h => h.elim
  | _ :: _, [], h => h.elim
theorem Rps.lookup (f : Str) : ∀ {ps : List (Str × V)} {qs : List (Str × DV)}, Rps K H ps qs → (ps.lookup f = none ∧ qs.lookup f = none) ∨ ∃ v d, ps.lookup f = some v ∧ qs.lookup f = some d ∧ Rl K H v d
  | [], [], _ => .inl ⟨rfl, rfl⟩
  | (g, x) :: r, (g', y) :: s, h => by
    have e : g = g' := h.1
    subst e
    rw [List.lookup_cons, List.lookup_cons]
    cases f == g with
    | true => exact .inr ⟨x, y, rfl, rfl, h.2.1⟩
    | false => exact Rps.lookup f h.2.2
  | [], _ :: _, h => h.elim
  | _ :: _, [], h => h.elim
end

/-! ### the store -/
/-- hidden objects: a predicate on the heap that leans on its own address and its own cells alone (and on what never changes) -/
structure BoxP where
  ok : Hp → Addr → (Addr → Prop) → Prop
  there : ∀ {H a own}, ok H a own → H a ≠ none
  stay : ∀ {H H' a own}, ok H a own → Tp H H' → (∀ b, (b = a ∨ own b) → H' b = H b) → ok H' a own
inductive MO where
  | lst (ds : List DV)
  | dK (kvs : List (Key × DV))
  | dT (kvs : List (List Key × DV))
  | ins (C : Addr) (fs : List (Str × DV))
  | lkK (o : Obj) (kvs : List (Key × DV))
  | lkT (o : Obj) (kvs : List (List Key × DV))
  | box (φ : BoxP)
abbrev Sr := Addr → Option MO
def up (S : Sr) (a : Addr) (o : MO) : Sr := fun b => if b = a then some o else S b
theorem up_same {S : Sr} {a : Addr} {o : MO} : up S a o a = some o := by unfold up; rw [if_pos rfl]
theorem up_ne {S : Sr} {a b : Addr} {o : MO} (h : b ≠ a) : up S a o b = S b := by unfold up; rw [if_neg h]
theorem up_up {S : Sr} {a : Addr} {o u : MO} : up (up S a o) a u = up S a u := by funext b; unfold up; split <;> rfl
theorem up_id {S : Sr} {a : Addr} {o : MO} (h : S a = some o) : up S a o = S := by
  funext b; unfold up; split
  · rename_i e; rw [e, h]
  · rfl
theorem up_comm {S : Sr} {a b : Addr} {o u : MO} (h : a ≠ b) : up (up S a o) b u = up (up S b u) a o := by
  funext c; unfold up
  by_cases e1 : c = b
  · rw [if_pos e1, if_neg (fun z => h (z.symm.trans e1)), if_pos e1]
  · rw [if_neg e1, if_neg e1]
theorem sne {S : Sr} {a b : Addr} {o : MO} (h : S a = some o) (h' : S b = none) : a ≠ b := by intro e; subst e; rw [h] at h'; cases h'
theorem sne2 {S : Sr} {a b : Addr} {o u : MO} (h : S a = some o) (h' : S b = some u) (d : o ≠ u) : a ≠ b := by
  intro e; subst e; rw [h] at h'; exact d (Option.some.inj h')
/-- of ours and not hidden -/
def MO.open : MO → Prop
  | .box _ => False
  | _ => True
def ObD (K : PySem.W.Frag) (H : Hp) (own : Addr → Prop) (a : Addr) : MO → Prop
  | .lst ds => ∃ xs, H a = some (.lst xs) ∧ Rls K H xs ds
  | .dK kvs => ∃ xs, H a = some (.dK xs) ∧ Rps K H xs kvs
  | .dT kvs => ∃ xs, H a = some (.dT xs) ∧ Rps K H xs kvs
  | .ins C fs => ∃ dx xs, H a = some (.ins C dx xs) ∧ Rps K H xs fs
  | .lkK o kvs => ∃ xs, H a = some (.frz o (.dK xs)) ∧ Rps K H xs kvs
  | .lkT o kvs => ∃ xs, H a = some (.frz o (.dT xs)) ∧ Rps K H xs kvs
  | .box φ => φ.ok H a own
structure SatW (K : PySem.W.Frag) (H : Hp) (S : Sr) (ow : Addr → Option Addr) : Prop where
  obj : ∀ a o, S a = some o → ObD K H (fun c => ow c = some a) a o
  hid : ∀ c a, ow c = some a → S c = none ∧ H c ≠ none ∧ ∃ φ, S a = some (.box φ)
def Sat (K : PySem.W.Frag) (H : Hp) (S : Sr) : Prop := ∃ ow, SatW K H S ow
section
variable {K : PySem.W.Frag} {H H' : Hp} {S : Sr} {ow : Addr → Option Addr} {own : Addr → Prop} {a x : Addr} {o : MO}
theorem ObD.there (h : ObD K H own a o) : H a ≠ none := by
  cases o with
  | lst ds => obtain ⟨_, e, _⟩ := h; rw [e]; simp
  | dK kvs => obtain ⟨_, e, _⟩ := h; rw [e]; simp
  | dT kvs => obtain ⟨_, e, _⟩ := h; rw [e]; simp
  | ins C fs => obtain ⟨_, _, e, _⟩ := h; rw [e]; simp
  | lkK o kvs => obtain ⟨_, e, _⟩ := h; rw [e]; simp
  | lkT o kvs => obtain ⟨_, e, _⟩ := h; rw [e]; simp
  | box φ => exact φ.there h
theorem ObD.stay (h : ObD K H own a o) (t : Tp H H') (k : ∀ b, (b = a ∨ own b) → H' b = H b) : ObD K H' own a o := by
  have ka := k a (.inl rfl)
  cases o with
  | lst ds => obtain ⟨xs, e, r⟩ := h; exact ⟨xs, by rw [ka]; exact e, r.mono t⟩
  | dK kvs => obtain ⟨xs, e, r⟩ := h; exact ⟨xs, by rw [ka]; exact e, r.mono t⟩
  | dT kvs => obtain ⟨xs, e, r⟩ := h; exact ⟨xs, by rw [ka]; exact e, r.mono t⟩
  | ins C fs => obtain ⟨dx, xs, e, r⟩ := h; exact ⟨dx, xs, by rw [ka]; exact e, r.mono t⟩
  | lkK o kvs => obtain ⟨xs, e, r⟩ := h; exact ⟨xs, by rw [ka]; exact e, r.mono t⟩
  | lkT o kvs => obtain ⟨xs, e, r⟩ := h; exact ⟨xs, by rw [ka]; exact e, r.mono t⟩
  | box φ => exact φ.stay h t k
theorem ObD.any (hm : o.open) (h : ObD K H own a o) (own' : Addr → Prop) : ObD K H own' a o := by
  cases o <;> first | exact h | exact hm.elim
theorem SatW.there (h : SatW K H S ow) (e : S a = some o) : H a ≠ none := (h.obj a o e).there
theorem SatW.stay (h : SatW K H S ow) (t : Tp H H') (k : ∀ b, S b ≠ none ∨ ow b ≠ none → H' b = H b) : SatW K H' S ow :=
  ⟨fun a o e => (h.obj a o e).stay t fun b hb => k b (hb.elim (fun z => .inl (by rw [z, e]; simp)) fun z => .inr (by rw [z]; simp)),
   fun c a e => ⟨(h.hid c a e).1, by rw [k c (.inr (by rw [e]; simp))]; exact (h.hid c a e).2.1, (h.hid c a e).2.2⟩⟩
/-- one place of the heap is written: a new one, or an open one of ours -/
theorem SatW.put (h : SatW K H S ow) (hx : H x = none ∨ ∃ u, S x = some u ∧ u.open) (t : Tp H H') (k : ∀ b, b ≠ x → H b ≠ none → H' b = H b) (hm : o.open) (new : ∀ own, ObD K H' own x o) : SatW K H' (up S x o) ow := by
  have nx : ∀ c b, ow c = some b → c ≠ x := fun c b e z => by
    subst z
    rcases hx with n | ⟨u, n, _⟩
    · exact (h.hid _ _ e).2.1 n
    · rw [(h.hid _ _ e).1] at n; cases n
  refine ⟨fun b u e => ?_, fun c b e => ?_⟩
  · by_cases q : b = x
    · subst q; rw [up_same] at e; cases e; exact new _
    · rw [up_ne q] at e
      refine (h.obj b u e).stay t fun c hc => ?_
      rcases hc with rfl | hc
      · exact k _ q (h.there e)
      · exact k c (nx c b hc) (h.hid c b hc).2.1
  · obtain ⟨h1, h2, φ, h3⟩ := h.hid c b e
    have q := nx c b e
    refine ⟨by rw [up_ne q]; exact h1, by rw [k c q h2]; exact h2, φ, ?_⟩
    rw [up_ne]
    · exact h3
    · intro z; subst z
      rcases hx with n | ⟨u, n, m⟩
      · exact h.there h3 n
      · rw [h3] at n; cases n; exact m
theorem Sat.put (h : Sat K H S) (hx : H x = none ∨ ∃ u, S x = some u ∧ u.open) (t : Tp H H') (k : ∀ b, b ≠ x → H b ≠ none → H' b = H b) (hm : o.open) (new : ∀ own, ObD K H' own x o) : Sat K H' (up S x o) :=
  let ⟨ow, w⟩ := h; ⟨ow, w.put hx t k hm new⟩
theorem Sat.free (h : Sat K H S) (e : H a = none) : S a = none := by
  obtain ⟨ow, w⟩ := h
  cases q : S a with
  | none => rfl
  | some o => exact absurd e (w.there q)
/-- a new untracked object -/
theorem Sat.ext (h : Sat K H S) {p : Addr} {u : HO} (e : H p = none) : Sat K (upd H p u) S := by
  obtain ⟨ow, w⟩ := h
  refine ⟨ow, w.stay (.new e) fun b hb => upd_ne fun z => ?_⟩
  subst z
  rcases hb with hb | hb
  · cases q : S b with
    | none => exact hb q
    | some o => exact w.there q e
  · cases q : ow b with
    | none => exact hb q
    | some c => exact (w.hid b c q).2.1 e
/-- a new object -/
theorem Sat.new (h : Sat K H S) {p : Addr} {u : HO} (e : H p = Option.none) (hm : o.open) (new : ∀ own, ObD K (upd H p u) own p o) : Sat K (upd H p u) (up S p o) :=
  h.put (.inl e) (.new e) (fun b hb _ => upd_ne hb) hm new
/-- a store to an open one -/
theorem Sat.set (h : Sat K H S) {u : HO} {o' : MO} (e : S a = some o') (ho : o'.open) (m : Mut (H a)) (hm : o.open) (new : ∀ own, ObD K (upd H a u) own a o) : Sat K (upd H a u) (up S a o) :=
  h.put (.inr ⟨o', e, ho⟩) (.put m) (fun b hb _ => upd_ne hb) hm new
theorem Sat.lst (h : Sat K H S) {ds : List DV} (e : S a = some (.lst ds)) : ∃ xs, H a = some (.lst xs) ∧ Rls K H xs ds := let ⟨_, w⟩ := h; w.obj a _ e
theorem Sat.dK (h : Sat K H S) {kvs : List (Key × DV)} (e : S a = some (.dK kvs)) : ∃ xs, H a = some (.dK xs) ∧ Rps K H xs kvs := let ⟨_, w⟩ := h; w.obj a _ e
theorem Sat.dT (h : Sat K H S) {kvs : List (List Key × DV)} (e : S a = some (.dT kvs)) : ∃ xs, H a = some (.dT xs) ∧ Rps K H xs kvs := let ⟨_, w⟩ := h; w.obj a _ e
theorem Sat.ins (h : Sat K H S) {C : Addr} {fs : List (Str × DV)} (e : S a = some (.ins C fs)) : ∃ dx xs, H a = some (.ins C dx xs) ∧ Rps K H xs fs := let ⟨_, w⟩ := h; w.obj a _ e
/-- less is told -/
def Sub (S' S : Sr) : Prop := ∀ a o, S' a = some o → S a = some o
theorem Sub.refl {S : Sr} : Sub S S := fun _ _ h => h
theorem Sub.trans {S1 S2 S3 : Sr} (h : Sub S1 S2) (h' : Sub S2 S3) : Sub S1 S3 := fun a o e => h' a o (h a o e)
theorem Sub.new {S : Sr} {p : Addr} {o : MO} (h : S p = Option.none) : Sub S (up S p o) := fun a u e => by rw [up_ne (sne e h)]; exact e
theorem Sub.up {S S' : Sr} {a : Addr} {o : MO} (h : Sub S' S) : Sub (up S' a o) (up S a o) := fun b u e => by
  by_cases q : b = a
  · subst q; rw [up_same] at e ⊢; exact e
  · rw [up_ne q] at e ⊢; exact h b u e
open Classical in
theorem Sat.sub (h : Sat K H S) {S' : Sr} (s : Sub S' S) : Sat K H S' := by
  obtain ⟨ow, w⟩ := h
  refine ⟨fun c => match ow c with
    | some b => if S' b = Option.none then Option.none else some b
    | Option.none => Option.none, fun b u e => ?_, fun c b e => ?_⟩
  · have e0 := w.obj b u (s b u e)
    have eq : (fun c => (match ow c with
      | some b => if S' b = Option.none then Option.none else some b
      | Option.none => Option.none) = some b) = fun c => ow c = some b := by
      funext c
      cases q : ow c with
      | none => simp
      | some d =>
        by_cases z : S' d = Option.none
        · simp only [z, if_true]
          apply propext
          constructor
          · intro y; cases y
          · intro y; cases y; rw [e] at z; cases z
        · simp only [if_neg z]
    rw [eq]
    exact e0
  · cases q : ow c with
    | none => rw [q] at e; cases e
    | some d =>
      rw [q] at e
      by_cases z : S' d = Option.none
      · simp only [z, if_true] at e; cases e
      · simp only [if_neg z] at e
        cases e
        obtain ⟨h1, h2, φ, h3⟩ := w.hid c b q
        refine ⟨?_, h2, φ, ?_⟩
        · cases y : S' c with
          | none => rfl
          | some u => rw [s c u y] at h1; cases h1
        · cases y : S' b with
          | none => exact absurd y z
          | some u =>
            have := s b u y
            rw [h3] at this
            exact this.symm
end
end Dv
set_option Elab.async false
set_option linter.all false
set_option maxRecDepth 100000
set_option maxHeartbeats 1000000
namespace Dv
open PySem PySem.Spec PyProof.Rows L2

/-! ### judgements over values and the store -/
abbrev DSt := List (Option DV)
abbrev DK := DV → Sr → Prop
abbrev DE := DSt → Sr → DK → Prop
abbrev DT := DSt → Sr → (Bool → Sr → Prop) → Prop
abbrev DA := DSt → Sr → (List DV → Sr → Prop) → Prop
structure DEnds where
  nx : DSt → Sr → Prop
  rt : DK
  bk : DSt → Sr → Prop := fun _ _ => False
  ct : DSt → Sr → Prop := fun _ _ => False
abbrev DS := DEnds → DSt → Sr → Prop
def slot : DSt → Nat → Option DV
  | [], _ => none
  | o :: _, 0 => o
  | _ :: r, i + 1 => slot r i
def setS : DSt → Nat → DV → DSt
  | [], _, _ => []
  | _ :: r, 0, d => some d :: r
  | o :: r, i + 1, d => o :: setS r i d
def noS : DSt → Nat → DSt
  | [], _ => []
  | _ :: r, 0 => none :: r
  | o :: r, i + 1 => o :: noS r i
def wipeS (σ : DSt) : List Nat → DSt
  | [] => σ
  | v :: vs => noS (wipeS σ vs) v
theorem slot_set : ∀ (σ : DSt) (i j : Nat) (d : DV), slot (setS σ i d) j = if j = i ∧ i < σ.length then some d else slot σ j
  | [], _, _, _ => by simp [setS, slot]
  | _ :: r, 0, 0, d => by simp [setS, slot]
  | _ :: r, 0, j + 1, d => by simp [setS, slot]
  | o :: r, i + 1, 0, d => by simp [setS, slot]
  | o :: r, i + 1, j + 1, d => by
    show slot (setS r i d) j = _
    rw [slot_set r i j d]
    simp [slot]
theorem len_set : ∀ (σ : DSt) (i : Nat) (d : DV), (setS σ i d).length = σ.length
  | [], _, _ => rfl
  | _ :: r, 0, d => rfl
  | o :: r, i + 1, d => by show (setS r i d).length + 1 = _; rw [len_set r i d]; rfl
theorem slot_no : ∀ (σ : DSt) (i j : Nat), slot (noS σ i) j = if j = i then none else slot σ j
  | [], _, _ => by simp [noS, slot]
  | _ :: r, 0, 0 => by simp [noS, slot]
  | _ :: r, 0, j + 1 => by simp [noS, slot]
  | o :: r, i + 1, 0 => by simp [noS, slot]
  | o :: r, i + 1, j + 1 => by
    show slot (noS r i) j = _
    rw [slot_no r i j]
    simp [slot]
theorem len_no : ∀ (σ : DSt) (i : Nat), (noS σ i).length = σ.length
  | [], _ => rfl
  | _ :: r, 0 => rfl
  | o :: r, i + 1 => by show (noS r i).length + 1 = _; rw [len_no r i]; rfl
/-- slots of both kinds -/
def RS (K : PySem.W.Frag) (H : Hp) (σ : L2.St) (τ : DSt) : Prop := σ.length = τ.length ∧ ∀ i d, slot τ i = some d → ∃ v, σ[i]? = some (some v) ∧ Rl K H v d
section
variable {K : PySem.W.Frag} {H H' : Hp} {σ : L2.St} {τ : DSt}
theorem RS.mono (t : Tp H H') (h : RS K H σ τ) : RS K H' σ τ := ⟨h.1, fun i d e => let ⟨v, a, b⟩ := h.2 i d e; ⟨v, a, b.mono t⟩⟩
theorem RS.set (h : RS K H σ τ) (i : Nat) {v : V} {d : DV} (r : Rl K H v d) : RS K H (σ.set i (some v)) (setS τ i d) := by
  refine ⟨by rw [List.length_set, len_set]; exact h.1, fun j d' e => ?_⟩
  rw [slot_set] at e
  by_cases q : j = i ∧ i < τ.length
  · rw [if_pos q] at e
    cases e
    obtain ⟨rfl, q⟩ := q
    exact ⟨v, List.getElem?_set_self (by rw [h.1]; exact q), r⟩
  · rw [if_neg q] at e
    obtain ⟨w, e1, r1⟩ := h.2 j d' e
    refine ⟨w, ?_, r1⟩
    rw [List.getElem?_set_ne]
    · exact e1
    · rintro rfl
      refine q ⟨rfl, ?_⟩
      rw [← h.1]
      exact (List.getElem?_eq_some_iff.mp e1).1
theorem RS.no (h : RS K H σ τ) (i : Nat) : RS K H (σ.set i none) (noS τ i) := by
  refine ⟨by rw [List.length_set, len_no]; exact h.1, fun j d' e => ?_⟩
  rw [slot_no] at e
  by_cases q : j = i
  · rw [if_pos q] at e; cases e
  · rw [if_neg q] at e
    obtain ⟨w, e1, r1⟩ := h.2 j d' e
    exact ⟨w, by rw [List.getElem?_set_ne (Ne.symm q)]; exact e1, r1⟩
theorem RS.wipe (h : RS K H σ τ) : ∀ vs : List Nat, RS K H (wipe σ vs) (wipeS τ vs)
  | [] => h
  | v :: vs => (RS.wipe h vs).no v
end
def startS (N : List Str) (ds : List DV) : DSt := ds.map some ++ List.replicate (N.length - ds.length) none
theorem slot_app : ∀ (ds : List DV) (n i : Nat) (d : DV), slot (ds.map some ++ List.replicate n none) i = some d → ds[i]? = some d
  | [], 0, i, d, e => by simp [slot] at e
  | [], n + 1, 0, d, e => by simp [List.replicate_succ, slot] at e
  | [], n + 1, i + 1, d, e => by
    rw [List.map_nil, List.nil_append, List.replicate_succ] at e
    have := slot_app [] n i d (by simpa [slot] using e)
    simp at this
  | x :: ds, n, 0, d, e => by simpa [slot] using e
  | x :: ds, n, i + 1, d, e => by
    have := slot_app ds n i d (by simpa [slot] using e)
    simpa using this
theorem RS.start {K : PySem.W.Frag} {H : Hp} {N : List Str} {vs : List V} {ds : List DV} (r : Rls K H vs ds) : RS K H (start N vs) (startS N ds) := by
  refine ⟨by unfold L2.start startS; simp [r.length], fun i d e => ?_⟩
  have h := slot_app ds _ i d e
  obtain ⟨v, e1, r1⟩ := r.get h
  refine ⟨v, ?_, r1⟩
  unfold L2.start
  have hl := (List.getElem?_eq_some_iff.mp e1).1
  rw [List.getElem?_append_left (by simpa using hl), List.getElem?_map, e1]
  rfl

/-- what is wanted behind, by values -/
def Cont (K : PySem.W.Frag) (H : Hp) (Q : DK) (R : VK) : Prop := ∀ v H' d S', Tp H H' → Rl K H' v d → Sat K H' S' → Q d S' → R v H'
theorem Cont.later {K : PySem.W.Frag} {H H1 : Hp} {Q : DK} {R : VK} (c : Cont K H Q R) (t : Tp H H1) : Cont K H1 Q R := fun v H' d S' t' r s q => c v H' d S' (t.trans t') r s q
theorem Cont.here {K : PySem.W.Frag} {H : Hp} {Q : DK} {R : VK} (c : Cont K H Q R) {v : V} {d : DV} {S : Sr} (r : Rl K H v d) (s : Sat K H S) (q : Q d S) : R v H := c v H d S .refl r s q
def LE (K : PySem.W.Frag) (H0 : Hp) (te : TE) (t : DE) : Prop := ∀ σ τ H S (Q : DK) (R : VK), Tp H0 H → RS K H σ τ → Sat K H S → Cont K H Q R → t τ S Q → te σ H R
def ContT (K : PySem.W.Frag) (H : Hp) (Q : Bool → Sr → Prop) (R : Bool → Hp → Prop) : Prop := ∀ b H' S', Tp H H' → Sat K H' S' → Q b S' → R b H'
def LT (K : PySem.W.Frag) (H0 : Hp) (tt : TT) (t : DT) : Prop := ∀ σ τ H S (Q : Bool → Sr → Prop) (R : Bool → Hp → Prop), Tp H0 H → RS K H σ τ → Sat K H S → ContT K H Q R → t τ S Q → tt σ H R
def ContA (K : PySem.W.Frag) (H : Hp) (Q : List DV → Sr → Prop) (R : List V → Hp → Prop) : Prop := ∀ vs H' ds S', Tp H H' → Rls K H' vs ds → Sat K H' S' → Q ds S' → R vs H'
def LA (K : PySem.W.Frag) (H0 : Hp) (ta : TA) (t : DA) : Prop := ∀ σ τ H S (Q : List DV → Sr → Prop) (R : List V → Hp → Prop), Tp H0 H → RS K H σ τ → Sat K H S → ContA K H Q R → t τ S Q → ta σ H R
structure ContS (K : PySem.W.Frag) (H : Hp) (D' : DEnds) (D : Ends) : Prop where
  nx : ∀ σ τ H' S', Tp H H' → RS K H' σ τ → Sat K H' S' → D'.nx τ S' → D.nx σ H'
  rt : Cont K H D'.rt D.rt
  bk : ∀ σ τ H' S', Tp H H' → RS K H' σ τ → Sat K H' S' → D'.bk τ S' → D.bk σ H'
  ct : ∀ σ τ H' S', Tp H H' → RS K H' σ τ → Sat K H' S' → D'.ct τ S' → D.ct σ H'
theorem ContS.later {K : PySem.W.Frag} {H H1 : Hp} {D' : DEnds} {D : Ends} (c : ContS K H D' D) (t : Tp H H1) : ContS K H1 D' D :=
  ⟨fun σ τ H' S' t' => c.nx σ τ H' S' (t.trans t'), c.rt.later t, fun σ τ H' S' t' => c.bk σ τ H' S' (t.trans t'), fun σ τ H' S' t' => c.ct σ τ H' S' (t.trans t')⟩
def LS (K : PySem.W.Frag) (H0 : Hp) (ts : TS) (t : DS) : Prop := ∀ σ τ H S (D' : DEnds) (D : Ends), Tp H0 H → RS K H σ τ → Sat K H S → ContS K H D' D → t D' τ S → ts D σ H

structure De (X : Cx) (H0 : Hp) (e : Expr) (t : DE) : Prop where
  ex : ∃ te, PE X e te ∧ LE X.K H0 te t
structure Dt (X : Cx) (H0 : Hp) (e : Expr) (t : DT) : Prop where
  ex : ∃ tt, PT X e tt ∧ LT X.K H0 tt t
structure Dw (X : Cx) (H0 : Hp) (e : Expr) (t : DT) : Prop where
  ex : ∃ tt, PW X e tt ∧ LT X.K H0 tt t
structure Da (X : Cx) (H0 : Hp) (es : List Expr) (t : DA) : Prop where
  ex : ∃ ta, PA X es ta ∧ LA X.K H0 ta t
structure Ds (X : Cx) (H0 : Hp) (st : Stmt) (t : DS) : Prop where
  ex : ∃ ts, PS X st ts ∧ LS X.K H0 ts t
structure Dss (X : Cx) (H0 : Hp) (sts : List Stmt) (t : DS) : Prop where
  ex : ∃ ts, PSs X sts ts ∧ LS X.K H0 ts t

/-! ### two ways -/
def br (b : Bool) (A B : Prop) : Prop := match b with
  | true => A
  | false => B
theorem br_b {b : Bool} {A B : Prop} (h1 : b = true → A) (h2 : b = false → B) : br b A B := by
  cases b
  · exact h2 rfl
  · exact h1 rfl
theorem br_dec {c A B : Prop} [Decidable c] (h1 : c → A) (h2 : ¬ c → B) : br (decide c) A B := br_b (fun h => h1 (of_decide_eq_true h)) fun h => h2 (of_decide_eq_false h)
theorem br_ndec {c A B : Prop} [Decidable c] (h1 : ¬ c → A) (h2 : c → B) : br (!decide c) A B := by
  by_cases h : c
  · rw [decide_eq_true h]; exact h2 h
  · rw [decide_eq_false h]; exact h1 h
theorem br_t {b : Bool} {A B : Prop} (h : b = true) (a : A) : br b A B := by rw [h]; exact a
theorem br_f {b : Bool} {A B : Prop} (h : b = false) (a : B) : br b A B := by rw [h]; exact a
theorem br_n {b : Bool} {A B : Prop} (h : br b B A) : br (!b) A B := by cases b <;> exact h
/-! ### operations by values -/
abbrev DR2 := DV → DV → Sr → DK → Prop
def LR2 (K : PySem.W.Frag) (H0 : Hp) (rv : R2) (r : DR2) : Prop := ∀ v u x y H S (Q : DK) (R : VK), Tp H0 H → Rl K H v x → Rl K H u y → Sat K H S → Cont K H Q R → r x y S Q → rv v u H R
theorem LR2.or {K : PySem.W.Frag} {H0 : Hp} {rv rv' : R2} {r r' : DR2} (h : LR2 K H0 rv r) (h' : LR2 K H0 rv' r') :
    LR2 K H0 (fun x y H Q => rv x y H Q ∨ rv' x y H Q) (fun x y S Q => r x y S Q ∨ r' x y S Q) :=
  fun v u x y H S Q R t a b s c z => z.elim (fun z => .inl (h v u x y H S Q R t a b s c z)) fun z => .inr (h' v u x y H S Q R t a b s c z)
structure DOp (X : Cx) (H0 : Hp) (f : Value → Value → Sem Value) (r : DR2) : Prop where
  ex : ∃ rv, OpR X f rv ∧ LR2 X.K H0 rv r
def dOp (r : DR2) (ta tb : DE) : DE := fun σ S Q => ta σ S fun x S1 => tb σ S1 fun y S2 => r x y S2 Q
theorem LE.op {K : PySem.W.Frag} {H0 : Hp} {rv : R2} {r : DR2} {ta tb : TE} {ta' tb' : DE} (hr : LR2 K H0 rv r) (ha : LE K H0 ta ta') (hb : LE K H0 tb tb') : LE K H0 (tOp rv ta tb) (dOp r ta' tb') := by
  intro σ τ H S Q R t0 rs st c h
  refine ha σ τ H S _ _ t0 rs st ?_ h
  intro v H1 x S1 t1 r1 st1 h1
  refine hb σ τ H1 S1 _ _ (t0.trans t1) (rs.mono t1) st1 ?_ h1
  intro u H2 y S2 t2 r2 st2 h2
  exact hr v u x y H2 S2 Q R ((t0.trans t1).trans t2) (r1.mono t2) r2 st2 (c.later (t1.trans t2)) h2
section
variable {X : Cx} {H0 : Hp} {a b c e : Expr} {ta tb tc t : DE} {pos : Pos}
/-! names, constants -/
def dVar (i : Nat) : DE := fun σ S Q => match slot σ i with
  | some d => Q d S
  | none => False
def dCon (d : DV) : DE := fun _ S Q => Q d S
theorem de_var {i : Nat} {x : Str} (hN : X.N[i]? = some x := by rfl) (hv : Vis X.env.scope x := by first | exact Or.inl rfl | exact Or.inr (Or.inl rfl) | exact Or.inr (Or.inr rfl)) (hd : (x == ("__debug__" : Str)) = false := by decide)
    (hcd : (x == ("__classdict__" : Str)) = false := by decide) : De X H0 (.Name x pos) (dVar i) := by
  refine ⟨tVar i, pe_var hN hv hd hcd, fun σ τ H S Q R _ rs st c h => ?_⟩
  unfold dVar at h
  cases q : slot τ i with
  | none => rw [q] at h; exact h.elim
  | some d =>
    rw [q] at h
    obtain ⟨v, e1, r⟩ := rs.2 i d q
    exact ⟨v, e1, c.here r st h⟩
theorem de_int {i j} : De X H0 (.Constant (.int i) j pos) (dCon (.int i)) := ⟨_, pe_int, fun _ _ _ _ _ _ _ _ st c h => c.here (.int i) st h⟩
theorem de_bl {b j} : De X H0 (.Constant (.bool b) j pos) (dCon (.bl b)) := ⟨_, pe_bl, fun _ _ _ _ _ _ _ _ st c h => c.here (.bl b) st h⟩
theorem de_non {j} : De X H0 (.Constant .none j pos) (dCon .non) := ⟨_, pe_non, fun _ _ _ _ _ _ _ _ st c h => c.here .non st h⟩
theorem de_str {x j} : De X H0 (.Constant (.str x) j pos) (dCon (.str x)) := ⟨_, pe_str, fun _ _ _ _ _ _ _ _ st c h => c.here (.str x) st h⟩
theorem de_op {op : Operator} {r : DR2} (ho : DOp X H0 (binaryOp op) r) (ha : De X H0 a ta) (hb : De X H0 b tb) : De X H0 (.BinOp a op b pos) (dOp r ta tb) := by
  obtain ⟨rv, h1, h2⟩ := ho.ex
  obtain ⟨ta', a1, a2⟩ := ha.ex
  obtain ⟨tb', b1, b2⟩ := hb.ex
  exact ⟨_, pe_op h1 a1 b1, LE.op h2 a2 b2⟩
theorem de_cmp {op : CmpOp} {r : DR2} (ho : DOp X H0 (compareOp op) r) (ha : De X H0 a ta) (hb : De X H0 b tb) (hm : behindInMarks op b = false := by first | exact nobehind _ (by decide) (by decide) | rfl) : De X H0 (.Compare a [op] [b] pos) (dOp r ta tb) := by
  obtain ⟨rv, h1, h2⟩ := ho.ex
  obtain ⟨ta', a1, a2⟩ := ha.ex
  obtain ⟨tb', b1, b2⟩ := hb.ex
  exact ⟨_, pe_cmpR h1 a1 b1 hm, LE.op h2 a2 b2⟩
/-- a value as a test: it is a truth -/
def dTest (t : DE) : DT := fun σ S Q => t σ S fun x S1 => match x with
  | .bl k => Q k S1
  | _ => False
theorem LT.test {K : PySem.W.Frag} {te : TE} {t : DE} (h : LE K H0 te t) : LT K H0 (tB te) (dTest t) := by
  intro σ τ H S Q R t0 rs st c hh
  refine h σ τ H S _ _ t0 rs st ?_ hh
  intro v H1 x S1 t1 r1 st1 h1
  cases r1 with
  | bl k => exact ⟨k, rfl, c k H1 S1 t1 st1 h1⟩
  | _ => exact h1.elim
theorem dt_cmp {op : CmpOp} {r : DR2} (ho : DOp X H0 (compareOp op) r) (ha : De X H0 a ta) (hb : De X H0 b tb) (hm : behindInMarks op b = false := by first | exact nobehind _ (by decide) (by decide) | rfl) : Dt X H0 (.Compare a [op] [b] pos) (dTest (dOp r ta tb)) := by
  obtain ⟨rv, h1, h2⟩ := ho.ex
  obtain ⟨ta', a1, a2⟩ := ha.ex
  obtain ⟨tb', b1, b2⟩ := hb.ex
  exact ⟨_, pt_cmpR h1 a1 b1 hm, LT.test (LE.op h2 a2 b2)⟩
theorem dt_val (h : De X H0 e t) (he : ∀ whole, isTrue e X.env whole = (do let v ← whole; standAt e.pos; holding [v] (truthy v)) := by intro _; rfl) : Dt X H0 e (dTest t) := by
  obtain ⟨te, h1, h2⟩ := h.ex
  exact ⟨_, pt_val h1 he, LT.test h2⟩
/-- a chain -/
def dChain (r r' : DR2) (ta tb tc : DE) : DE := fun σ S Q => ta σ S fun x S1 => tb σ S1 fun y S2 => r x y S2 fun z S3 => match z with
  | .bl k => br k (tc σ S3 fun w' S4 => r' y w' S4 Q) (Q (.bl false) S3)
  | _ => False
theorem LE.chain {K : PySem.W.Frag} {rv rv' : R2} {r r' : DR2} {ta tb tc : TE} {ta' tb' tc' : DE} (hr : LR2 K H0 rv r) (hr' : LR2 K H0 rv' r') (ha : LE K H0 ta ta') (hb : LE K H0 tb tb') (hc : LE K H0 tc tc') : LE K H0 (tChain rv rv' ta tb tc) (dChain r r' ta' tb' tc') := by
  intro σ τ H S Q R t0 rs st c h
  refine ha σ τ H S _ _ t0 rs st ?_ h
  intro v H1 x S1 t1 r1 st1 h1
  refine hb σ τ H1 S1 _ _ (t0.trans t1) (rs.mono t1) st1 ?_ h1
  intro u H2 y S2 t2 r2 st2 h2
  refine hr v u x y H2 S2 _ _ ((t0.trans t1).trans t2) (r1.mono t2) r2 st2 ?_ h2
  intro z H3 k S3 t3 r3 st3 h3
  cases r3 with
  | bl k =>
    refine ⟨k, rfl, ?_⟩
    cases k with
    | true =>
      rw [if_pos rfl]
      refine hc σ τ H3 S3 _ _ (((t0.trans t1).trans t2).trans t3) (rs.mono ((t1.trans t2).trans t3)) st3 ?_ h3
      intro w4 H4 w' S4 t4 r4 st4 h4
      exact hr' u w4 y w' H4 S4 Q R ((((t0.trans t1).trans t2).trans t3).trans t4) (r2.mono (t3.trans t4)) r4 st4 (c.later (((t1.trans t2).trans t3).trans t4)) h4
    | false =>
      rw [if_neg Bool.false_ne_true]
      exact c _ _ _ _ ((t1.trans t2).trans t3) (.bl false) st3 h3
  | _ => exact h3.elim
theorem de_chain {op op' : CmpOp} {r r' : DR2} (ho : DOp X H0 (compareOp op) r) (ho' : DOp X H0 (compareOp op') r') (ha : De X H0 a ta) (hb : De X H0 b tb) (hc : De X H0 c tc)
    (hm : lastMarks [op, op'] [b, c] = false := by with_unfolding_all rfl) : De X H0 (.Compare a [op, op'] [b, c] pos) (dChain r r' ta tb tc) := by
  obtain ⟨rv, h1, h2⟩ := ho.ex
  obtain ⟨rv', h1', h2'⟩ := ho'.ex
  obtain ⟨ta', a1, a2⟩ := ha.ex
  obtain ⟨tb', b1, b2⟩ := hb.ex
  obtain ⟨tc', c1, c2⟩ := hc.ex
  exact ⟨_, pe_chain h1 h1' a1 b1 c1 hm, LE.chain h2 h2' a2 b2 c2⟩
theorem dt_chain {op op' : CmpOp} {r r' : DR2} (ho : DOp X H0 (compareOp op) r) (ho' : DOp X H0 (compareOp op') r') (ha : De X H0 a ta) (hb : De X H0 b tb) (hc : De X H0 c tc)
    (hm : lastMarks [op, op'] [b, c] = false := by with_unfolding_all rfl) : Dt X H0 (.Compare a [op, op'] [b, c] pos) (dTest (dChain r r' ta tb tc)) := by
  obtain ⟨rv, h1, h2⟩ := ho.ex
  obtain ⟨rv', h1', h2'⟩ := ho'.ex
  obtain ⟨ta', a1, a2⟩ := ha.ex
  obtain ⟨tb', b1, b2⟩ := hb.ex
  obtain ⟨tc', c1, c2⟩ := hc.ex
  exact ⟨_, pt_chain h1 h1' a1 b1 c1 hm, LT.test (LE.chain h2 h2' a2 b2 c2)⟩
/-! and, or, not, if-expressions -/
variable {tA tB' : DT} {rest : List Expr}
def dAnd (t u : DT) : DT := fun σ S Q => t σ S fun k S1 => br k (u σ S1 Q) (Q false S1)
def dOr (t u : DT) : DT := fun σ S Q => t σ S fun k S1 => br k (Q true S1) (u σ S1 Q)
def dNot (t : DT) : DT := fun σ S Q => t σ S fun k S1 => Q (!k) S1
theorem dw_and1 (ha : Dt X H0 a tA) : Dw X H0 (.BoolOp .And [a] pos) tA := let ⟨_, h1, h2⟩ := ha.ex; ⟨_, pw_and1 h1, h2⟩
theorem dw_or1 (ha : Dt X H0 a tA) : Dw X H0 (.BoolOp .Or [a] pos) tA := let ⟨_, h1, h2⟩ := ha.ex; ⟨_, pw_or1 h1, h2⟩
theorem dw_and (ha : Dt X H0 a tA) (hb : Dw X H0 (.BoolOp .And (b :: rest) pos) tB') : Dw X H0 (.BoolOp .And (a :: b :: rest) pos) (dAnd tA tB') := by
  obtain ⟨ta', a1, a2⟩ := ha.ex
  obtain ⟨tb', b1, b2⟩ := hb.ex
  refine ⟨_, pw_and a1 b1, fun σ τ H S Q R t0 rs st c h => a2 σ τ H S _ _ t0 rs st ?_ h⟩
  intro k H1 S1 t1 st1 h1
  cases k with
  | true => rw [if_pos rfl]; exact b2 σ τ H1 S1 Q R (t0.trans t1) (rs.mono t1) st1 (fun b H' S' t' => c b H' S' (t1.trans t')) h1
  | false => rw [if_neg Bool.false_ne_true]; exact c false H1 S1 t1 st1 h1
theorem dw_or (ha : Dt X H0 a tA) (hb : Dw X H0 (.BoolOp .Or (b :: rest) pos) tB') : Dw X H0 (.BoolOp .Or (a :: b :: rest) pos) (dOr tA tB') := by
  obtain ⟨ta', a1, a2⟩ := ha.ex
  obtain ⟨tb', b1, b2⟩ := hb.ex
  refine ⟨_, pw_or a1 b1, fun σ τ H S Q R t0 rs st c h => a2 σ τ H S _ _ t0 rs st ?_ h⟩
  intro k H1 S1 t1 st1 h1
  cases k with
  | false => rw [if_neg Bool.false_ne_true]; exact b2 σ τ H1 S1 Q R (t0.trans t1) (rs.mono t1) st1 (fun b H' S' t' => c b H' S' (t1.trans t')) h1
  | true => rw [if_pos rfl]; exact c true H1 S1 t1 st1 h1
theorem Dw.dt (h : Dw X H0 e tA) : Dt X H0 e tA := let ⟨_, h1, h2⟩ := h.ex; ⟨_, h1.pt, h2⟩
theorem dt_not (ha : Dt X H0 a tA) : Dt X H0 (.UnaryOp .Not a pos) (dNot tA) := by
  obtain ⟨ta', a1, a2⟩ := ha.ex
  exact ⟨_, pt_not a1, fun σ τ H S Q R t0 rs st c h => a2 σ τ H S _ _ t0 rs st (fun k H1 S1 t1 st1 h1 => c (!k) H1 S1 t1 st1 h1) h⟩
/-- .. as values that are truths -/
def dAndV (ta tb : DE) : DE := fun σ S Q => ta σ S fun x S1 => match x with
  | .bl k => br k (tb σ S1 Q) (Q (.bl false) S1)
  | _ => False
def dOrV (ta tb : DE) : DE := fun σ S Q => ta σ S fun x S1 => match x with
  | .bl k => br k (Q (.bl true) S1) (tb σ S1 Q)
  | _ => False
def dNotV (ta : DE) : DE := fun σ S Q => ta σ S fun x S1 => match x with
  | .bl k => Q (.bl (!k)) S1
  | _ => False
theorem de_one {op} (h : De X H0 a ta) : De X H0 (.BoolOp op [a] pos) ta := let ⟨_, h1, h2⟩ := h.ex; ⟨_, pe_one h1, h2⟩
theorem de_and (ha : De X H0 a ta) (hb : De X H0 (.BoolOp .And (b :: rest) pos) tb) : De X H0 (.BoolOp .And (a :: b :: rest) pos) (dAndV ta tb) := by
  obtain ⟨ta', a1, a2⟩ := ha.ex
  obtain ⟨tb', b1, b2⟩ := hb.ex
  refine ⟨_, pe_and a1 b1, fun σ τ H S Q R t0 rs st c h => a2 σ τ H S _ _ t0 rs st ?_ h⟩
  intro v H1 x S1 t1 r1 st1 h1
  cases r1 with
  | bl k =>
    refine ⟨k, rfl, ?_⟩
    cases k with
    | true => rw [if_pos rfl]; exact b2 σ τ H1 S1 Q R (t0.trans t1) (rs.mono t1) st1 (c.later t1) h1
    | false => rw [if_neg Bool.false_ne_true]; exact c _ _ _ _ t1 (.bl false) st1 h1
  | _ => exact h1.elim
theorem de_or (ha : De X H0 a ta) (hb : De X H0 (.BoolOp .Or (b :: rest) pos) tb) : De X H0 (.BoolOp .Or (a :: b :: rest) pos) (dOrV ta tb) := by
  obtain ⟨ta', a1, a2⟩ := ha.ex
  obtain ⟨tb', b1, b2⟩ := hb.ex
  refine ⟨_, pe_or a1 b1, fun σ τ H S Q R t0 rs st c h => a2 σ τ H S _ _ t0 rs st ?_ h⟩
  intro v H1 x S1 t1 r1 st1 h1
  cases r1 with
  | bl k =>
    refine ⟨k, rfl, ?_⟩
    cases k with
    | false => rw [if_neg Bool.false_ne_true]; exact b2 σ τ H1 S1 Q R (t0.trans t1) (rs.mono t1) st1 (c.later t1) h1
    | true => rw [if_pos rfl]; exact c _ _ _ _ t1 (.bl true) st1 h1
  | _ => exact h1.elim
theorem de_not (ha : De X H0 a ta) : De X H0 (.UnaryOp .Not a pos) (dNotV ta) := by
  obtain ⟨ta', a1, a2⟩ := ha.ex
  refine ⟨_, pe_not a1, fun σ τ H S Q R t0 rs st c h => a2 σ τ H S _ _ t0 rs st ?_ h⟩
  intro v H1 x S1 t1 r1 st1 h1
  cases r1 with
  | bl k => exact ⟨k, rfl, c _ _ _ _ t1 (.bl _) st1 h1⟩
  | _ => exact h1.elim
def dIfE (t : DT) (ta tb : DE) : DE := fun σ S Q => t σ S fun k S1 => br k (ta σ S1 Q) (tb σ S1 Q)
theorem de_ifExp {q : Expr} (hq : Dt X H0 q tA) (ha : De X H0 a ta) (hb : De X H0 b tb) : De X H0 (.IfExp q a b pos) (dIfE tA ta tb) := by
  obtain ⟨tq', q1, q2⟩ := hq.ex
  obtain ⟨ta', a1, a2⟩ := ha.ex
  obtain ⟨tb', b1, b2⟩ := hb.ex
  refine ⟨_, pe_ifExp q1 a1 b1, fun σ τ H S Q R t0 rs st c h => q2 σ τ H S _ _ t0 rs st ?_ h⟩
  intro k H1 S1 t1 st1 h1
  cases k with
  | true => rw [if_pos rfl]; exact a2 σ τ H1 S1 Q R (t0.trans t1) (rs.mono t1) st1 (c.later t1) h1
  | false => rw [if_neg Bool.false_ne_true]; exact b2 σ τ H1 S1 Q R (t0.trans t1) (rs.mono t1) st1 (c.later t1) h1
/-! a unary operation -/
def LU (K : PySem.W.Frag) (H0 : Hp) (rv : V → Hp → VK → Prop) (r : DV → Sr → DK → Prop) : Prop := ∀ v x H S (Q : DK) (R : VK), Tp H0 H → Rl K H v x → Sat K H S → Cont K H Q R → r x S Q → rv v H R
def dUn (r : DV → Sr → DK → Prop) (ta : DE) : DE := fun σ S Q => ta σ S fun x S1 => r x S1 Q
theorem LE.un {K : PySem.W.Frag} {rv : V → Hp → VK → Prop} {r : DV → Sr → DK → Prop} {ta : TE} {ta' : DE} (hr : LU K H0 rv r) (ha : LE K H0 ta ta') : LE K H0 (tUn rv ta) (dUn r ta') := by
  intro σ τ H S Q R t0 rs st c h
  refine ha σ τ H S _ _ t0 rs st ?_ h
  intro v H1 x S1 t1 r1 st1 h1
  exact hr v x H1 S1 Q R (t0.trans t1) r1 st1 (c.later t1) h1
def uNeg : DV → Sr → DK → Prop
  | .int i, S, Q => Q (.int (-i)) S
  | _, _, _ => False
theorem de_neg (ha : De X H0 a ta) : De X H0 (.UnaryOp .USub a pos) (dUn uNeg ta) := by
  obtain ⟨ta', a1, a2⟩ := ha.ex
  refine ⟨_, pe_un un_neg a1, LE.un (fun v x H S Q R _ r st c h => ?_) a2⟩
  cases r with
  | int i => exact ⟨i, rfl, c.here (.int _) st h⟩
  | _ => exact h.elim
/-! argument lists, tuples, lists -/
def dNil : DA := fun _ S Q => Q [] S
def dCons (ta : DE) (tr : DA) : DA := fun σ S Q => ta σ S fun x S1 => tr σ S1 fun xs S2 => Q (x :: xs) S2
theorem da_nil : Da X H0 [] dNil := ⟨_, pa_nil, fun _ _ H _ _ _ _ _ st c h => c [] H [] _ .refl .nil st h⟩
theorem da_cons {es : List Expr} {tr : DA} (ha : De X H0 e t) (hr : Da X H0 es tr) (hs : starEach (e :: es) X.env = (false, eval e X.env) :: starEach es X.env := by rfl) : Da X H0 (e :: es) (dCons t tr) := by
  obtain ⟨ta', a1, a2⟩ := ha.ex
  obtain ⟨tb', b1, b2⟩ := hr.ex
  refine ⟨_, pa_cons a1 b1 hs, fun σ τ H S Q R t0 rs st c h => a2 σ τ H S _ _ t0 rs st ?_ h⟩
  intro v H1 x S1 t1 r1 st1 h1
  refine b2 σ τ H1 S1 _ _ (t0.trans t1) (rs.mono t1) st1 ?_ h1
  intro vs H2 xs S2 t2 r2 st2 h2
  exact c _ _ _ _ (t1.trans t2) (.cons (r1.mono t2) r2) st2 h2
def dTup (t : DA) : DE := fun σ S Q => t σ S fun xs S1 => xs.length ≤ 1000 ∧ Q (.tup xs) S1
def dLst (t : DA) : DE := fun σ S Q => t σ S fun xs S1 => xs.length ≤ 1000 ∧ ∀ p, S1 p = none → Q (.ref p) (up S1 p (.lst xs))
theorem le1000 {n : Nat} (h : n ≤ 1000) : n ≤ sizeLine := Nat.le_of_lt (small1000 h)
theorem newTup {K : PySem.W.Frag} {H : Hp} {p : Addr} {vs : List V} {ds : List DV} (n : H p = none) (r : Rls K H vs ds) : Rl K (upd H p (.tup vs)) (.ref p) (.tup ds) := .tup upd_same (r.mono (.new n))
theorem newLst {K : PySem.W.Frag} {H : Hp} {S : Sr} {p : Addr} {vs : List V} {ds : List DV} (n : H p = none) (st : Sat K H S) (r : Rls K H vs ds) : Sat K (upd H p (.lst vs)) (up S p (.lst ds)) := st.new n trivial fun _ => ⟨vs, upd_same, r.mono (.new n)⟩
theorem de_tup {es : List Expr} {tr : DA} {x1} (h : Da X H0 es tr) : De X H0 (.Tuple es x1 pos) (dTup tr) := by
  obtain ⟨ta', a1, a2⟩ := h.ex
  refine ⟨_, pe_tup a1, fun σ τ H S Q R t0 rs st c h => a2 σ τ H S _ _ t0 rs st ?_ h⟩
  intro vs H1 xs S1 t1 r1 st1 h1
  refine ⟨by rw [r1.length]; exact le1000 h1.1, fun p hp => ?_⟩
  exact c _ _ _ _ (t1.trans (.new hp)) (newTup hp r1) (st1.ext hp) h1.2
theorem de_lst {es : List Expr} {tr : DA} (h : Da X H0 es tr) : De X H0 (.List es pos) (dLst tr) := by
  obtain ⟨ta', a1, a2⟩ := h.ex
  refine ⟨_, pe_lst a1, fun σ τ H S Q R t0 rs st c h => a2 σ τ H S _ _ t0 rs st ?_ h⟩
  intro vs H1 xs S1 t1 r1 st1 h1
  refine ⟨by rw [r1.length]; exact le1000 h1.1, fun p hp => ?_⟩
  exact c _ _ _ _ (t1.trans (.new hp)) (.ref p) (newLst hp st1 r1) (h1.2 p (st1.free hp))
end
end Dv
set_option Elab.async false
set_option linter.all false
set_option maxRecDepth 100000
set_option maxHeartbeats 1000000
namespace Dv
open PySem PySem.Spec PyProof.Rows L2

/-! ### arithmetic -/
section
variable {X : Cx} {H0 : Hp}
def rAdd : DR2
  | .int i, .int j, S, Q => Q (.int (i + j)) S
  | .str i, .str j, S, Q => i.length + j.length ≤ sizeLine ∧ Q (.str (i ++ j)) S
  | .tup xs, .tup ys, S, Q => xs.length + ys.length ≤ 1000 ∧ Q (.tup (xs ++ ys)) S
  | .ref a, .ref b, S, Q => ∃ xs ys, S a = some (.lst xs) ∧ S b = some (.lst ys) ∧ xs.length + ys.length ≤ sizeLine ∧ ∀ p, S p = none → Q (.ref p) (up S p (.lst (xs ++ ys)))
  | _, _, _, _ => False
theorem o_add : DOp X H0 (binaryOp .Add) rAdd := by
  refine ⟨_, ((op_add.or op_add_str).or (op_catA.or op_cat)), fun v u x y H S Q R t0 a b st c h => ?_⟩
  cases a with
  | int i =>
    cases b with
    | int j => exact .inl (.inl ⟨i, j, rfl, rfl, c.here (.int _) st h⟩)
    | _ => exact h.elim
  | str i =>
    cases b with
    | str j => exact .inl (.inr ⟨i, j, rfl, rfl, h.1, c.here (.str _) st h.2⟩)
    | _ => exact h.elim
  | tup s r =>
    cases b with
    | tup s' r' =>
      obtain ⟨h2, h3⟩ := h
      refine .inr (.inl ⟨_, _, _, _, rfl, rfl, .of s, .of s', by rw [r.length, r'.length]; exact le1000 h2, fun e => ?_, fun e1 e => ?_, fun e1 e p hp => ?_⟩)
      · subst e; cases r; exact c.here (.tup s' r') st h3
      · subst e; cases r'; rw [List.append_nil] at h3; exact c.here (.tup s r) st h3
      · exact c _ _ _ _ (.new hp) (newTup hp (r.append r')) (st.ext hp) h3
    | _ => exact h.elim
  | ref a =>
    cases b with
    | ref b =>
      obtain ⟨xs, ys, e1, e2, h2, h3⟩ := h
      obtain ⟨vs, f1, r1⟩ := st.lst e1
      obtain ⟨ws, f2, r2⟩ := st.lst e2
      refine .inr (.inr ⟨a, b, vs, ws, rfl, rfl, f1, f2, by rw [r1.length, r2.length]; exact h2, fun p hp => ?_⟩)
      exact c _ _ _ _ (.new hp) (.ref p) (newLst hp st (r1.append r2)) (h3 p (st.free hp))
    | _ => exact h.elim
  | _ => cases b <;> exact h.elim
def rInt (C : Int → Int → Prop) (g : Int → Int → DV) : DR2
  | .int i, .int j, S, Q => C i j ∧ Q (g i j) S
  | _, _, _, _ => False
theorem o_int {f : Value → Value → Sem Value} {C : Int → Int → Prop} {g : Int → Int → V} {g' : Int → Int → DV} (h : OpR X f (rI C g)) (hg : ∀ K H i j, Rl K H (g i j) (g' i j)) : DOp X H0 f (rInt C g') := by
  refine ⟨_, h, fun v u x y H S Q R t0 a b st c h => ?_⟩
  cases a with
  | int i =>
    cases b with
    | int j => exact ⟨i, j, rfl, rfl, h.1, c.here (hg _ _ i j) st h.2⟩
    | _ => exact h.elim
  | _ => cases b <;> exact h.elim
def rInt0 (g : Int → Int → DV) : DR2
  | .int i, .int j, S, Q => Q (g i j) S
  | _, _, _, _ => False
theorem o_int0 {f : Value → Value → Sem Value} {g : Int → Int → V} {g' : Int → Int → DV} (h : OpR X f (rI0 g)) (hg : ∀ K H i j, Rl K H (g i j) (g' i j)) : DOp X H0 f (rInt0 g') := by
  refine ⟨_, h, fun v u x y H S Q R t0 a b st c h => ?_⟩
  cases a with
  | int i =>
    cases b with
    | int j => exact ⟨i, j, rfl, rfl, c.here (hg _ _ i j) st h⟩
    | _ => exact h.elim
  | _ => cases b <;> exact h.elim
theorem o_sub : DOp X H0 (binaryOp .Sub) (rInt0 fun i j => .int (i - j)) := o_int0 op_sub fun _ _ _ _ => .int _
theorem o_mul : DOp X H0 (binaryOp .Mult) (rInt CMul fun i j => .int (i * j)) := o_int op_mul fun _ _ _ _ => .int _
theorem o_mod : DOp X H0 (binaryOp .Mod) (rInt (fun _ j => 0 < j) fun i j => .int (i % j)) := o_int op_mod fun _ _ _ _ => .int _
theorem o_fdiv : DOp X H0 (binaryOp .FloorDiv) (rInt CDivW fun i j => .int (i / j)) := o_int op_fdivW fun _ _ _ _ => .int _
theorem o_pow : DOp X H0 (binaryOp .Pow) (rInt CPow fun i j => .int (i ^ j.toNat)) := o_int op_pow fun _ _ _ _ => .int _
/-! ### comparisons -/
/-! data of a value: lists are of the store -/
mutual
inductive Py (S : Sr) : DV → PyData → Prop
  | non : Py S .non .none
  | bl (b : Bool) : Py S (.bl b) (.bool b)
  | int (i : Int) : Py S (.int i) (.int i)
  | str (x : Str) : Py S (.str x) (.str x)
  | tup {ds : List DV} {ps : List PyData} : Pys S ds ps → Py S (.tup ds) (.tuple ps)
  | lst {a : Addr} {ds : List DV} {ps : List PyData} : S a = some (.lst ds) → Pys S ds ps → Py S (.ref a) (.list ps)
inductive Pys (S : Sr) : List DV → List PyData → Prop
  | nil : Pys S [] []
  | cons {d : DV} {ds : List DV} {p : PyData} {ps : List PyData} : Py S d p → Pys S ds ps → Pys S (d :: ds) (p :: ps)
end
mutual
theorem Py.dp {K : PySem.W.Frag} {H : Hp} {S : Sr} (st : Sat K H S) : ∀ {p : PyData} {d : DV} {v : V}, Py S d p → Rl K H v d → Dp K H v p
  | _, _, _, .non, r => by cases r; exact .non
  | _, _, _, .bl b, r => by cases r; exact .bl b
  | _, _, _, .int i, r => by cases r; exact .int i
  | _, _, _, .str x, r => by cases r; exact .str x
  | _, _, _, .tup q, r => by
    cases r with
    | tup s rs => exact .tup (.of s) (Pys.dp st q rs)
  | _, _, _, .lst e q, r => by
    cases r with
    | ref a =>
      obtain ⟨vs, f, rs⟩ := st.lst e
      exact .lst (.of f) (Pys.dp st q rs)
theorem Pys.dp {K : PySem.W.Frag} {H : Hp} {S : Sr} (st : Sat K H S) : ∀ {ps : List PyData} {ds : List DV} {vs : List V}, Pys S ds ps → Rls K H vs ds → DpAll K H vs ps
  | _, _, _, .nil, r => by cases r; exact .nil
  | _, _, _, .cons p q, r => by
    cases r with
    | cons r rs => exact .cons (Py.dp st p r) (Pys.dp st q rs)
end
/-- scalars, by themselves -/
def eqS : DV → DV → Option Bool
  | .non, .non => some true
  | .non, .int _ => some false | .int _, .non => some false
  | .non, .bl _ => some false | .bl _, .non => some false
  | .non, .str _ => some false | .str _, .non => some false
  | .int i, .int j => some (i == j)
  | .bl i, .bl j => some (i == j)
  | .str i, .str j => some (i == j)
  | .int _, .str _ => some false | .str _, .int _ => some false
  | .bl _, .str _ => some false | .str _, .bl _ => some false
  | _, _ => none
theorem eqS_scal {K : PySem.W.Frag} {H : Hp} {v u : V} {x y : DV} {b : Bool} (a : Rl K H v x) (c : Rl K H u y) (e : eqS x y = some b) : scal v u = true ∧ decide (v = u) = b := by
  cases a <;> cases c <;> first
    | (cases e; done)
    | (injection e with e; subst e; refine ⟨rfl, ?_⟩; first | rfl | exact dec_int | exact dec_bl | exact dec_str | (apply decide_eq_false; intro z; cases z) )
/-- x == y is b -/
def EqD (S : Sr) (x y : DV) (b : Bool) : Prop := eqS x y = some b ∨ ∃ p q, Py S x p ∧ Py S y q ∧ SeqAt.shaped p = true ∧ SeqAt.shaped q = true ∧ PyData.eqv p q = b
def rEqD : DR2 := fun x y S Q => ∃ b, EqD S x y b ∧ Q (.bl b) S
def rNeD : DR2 := fun x y S Q => ∃ b, EqD S x y b ∧ Q (.bl (!b)) S
theorem o_eq (hu : X.A.units + 64 < cLine) : DOp X H0 (compareOp .Eq) rEqD := by
  refine ⟨_, (op_eq.or (op_eqD hu)), fun v u x y H S Q R t0 a b st c h => ?_⟩
  obtain ⟨k, h, q⟩ := h
  rcases h with e | ⟨p, r, h1, h2, h3, h4, rfl⟩
  · obtain ⟨e1, e2⟩ := eqS_scal a b e
    refine .inl ⟨e1, ?_⟩
    rw [e2]
    exact c.here (.bl k) st q
  · exact .inr ⟨p, r, h1.dp st a, h2.dp st b, h3, h4, c.here (.bl _) st q⟩
theorem o_ne (hu : X.A.units + 64 < cLine) : DOp X H0 (compareOp .NotEq) rNeD := by
  refine ⟨_, (op_ne.or (op_neD hu)), fun v u x y H S Q R t0 a b st c h => ?_⟩
  obtain ⟨k, h, q⟩ := h
  rcases h with e | ⟨p, r, h1, h2, h3, h4, rfl⟩
  · obtain ⟨e1, e2⟩ := eqS_scal a b e
    refine .inl ⟨e1, ?_⟩
    rw [e2]
    exact c.here (.bl _) st q
  · exact .inr ⟨p, r, h1.dp st a, h2.dp st b, h3, h4, c.here (.bl _) st q⟩
theorem o_ltI : DOp X H0 (compareOp .Lt) (rInt0 fun i j => .bl (decide (i < j))) := o_int0 op_lt fun _ _ _ _ => .bl _
theorem o_le : DOp X H0 (compareOp .LtE) (rInt0 fun i j => .bl (decide (i ≤ j))) := o_int0 op_le fun _ _ _ _ => .bl _
theorem o_gt : DOp X H0 (compareOp .Gt) (rInt0 fun i j => .bl (decide (j < i))) := o_int0 op_gt fun _ _ _ _ => .bl _
theorem o_ge : DOp X H0 (compareOp .GtE) (rInt0 fun i j => .bl (decide (j ≤ i))) := o_int0 op_ge fun _ _ _ _ => .bl _
/-- < of ints, of tuples of ints -/
def rLt2 : DR2
  | .int i, .int j, S, Q => Q (.bl (decide (i < j))) S
  | .tup xs, .tup ys, S, Q => ∃ ns ms : List Int, xs = ns.map DV.int ∧ ys = ms.map DV.int ∧ Q (.bl (HT.lexLt ns ms)) S
  | .str i, .str j, S, Q => Q (.bl (decide (i.cps.toList < j.cps.toList))) S
  | _, _, _, _ => False
theorem o_lt (hu : X.A.units < cLine) : DOp X H0 (compareOp .Lt) rLt2 := by
  refine ⟨_, ((op_lt.or op_lt_str).or (op_ltT hu)), fun v u x y H S Q R t0 a b st c h => ?_⟩
  cases a with
  | int i =>
    cases b with
    | int j => exact .inl (.inl ⟨i, j, rfl, rfl, c.here (.bl _) st h⟩)
    | _ => exact h.elim
  | str i =>
    cases b with
    | str j => exact .inl (.inr ⟨i, j, rfl, rfl, c.here (.bl _) st h⟩)
    | _ => exact h.elim
  | tup s r =>
    cases b with
    | tup s' r' =>
      obtain ⟨ns, ms, rfl, rfl, q⟩ := h
      rw [r.ints] at s
      rw [r'.ints] at s'
      exact .inr ⟨_, _, ns, ms, rfl, rfl, .of s, .of s', c.here (.bl _) st q⟩
    | _ => exact h.elim
  | _ => cases b <;> exact h.elim
/-- is None -/
def isNon : DV → Bool
  | .non => true
  | _ => false
theorem isNon_iff {K : PySem.W.Frag} {H : Hp} {v : V} {x : DV} (r : Rl K H v x) : decide (v = .non) = isNon x := by
  cases r <;> first | rfl | (apply decide_eq_false; intro z; cases z)
def rIsN : DR2
  | x, .non, S, Q => Q (.bl (isNon x)) S
  | _, _, _, _ => False
def rNotN : DR2
  | x, .non, S, Q => Q (.bl (!isNon x)) S
  | _, _, _, _ => False
theorem o_is : DOp X H0 (compareOp .Is) rIsN := by
  refine ⟨_, op_isN, fun v u x y H S Q R t0 a b st c h => ?_⟩
  cases b with
  | non =>
    refine ⟨rfl, ?_⟩
    rw [isNon_iff a]
    exact c.here (.bl _) st h
  | _ => exact h.elim
theorem o_isnot : DOp X H0 (compareOp .IsNot) rNotN := by
  refine ⟨_, op_notN, fun v u x y H S Q R t0 a b st c h => ?_⟩
  cases b with
  | non =>
    refine ⟨rfl, ?_⟩
    rw [isNon_iff a]
    exact c.here (.bl _) st h
  | _ => exact h.elim
/-! in: flat items of a tuple, a list; a sign of a text -/
def flatD : DV → Bool
  | .non => true
  | .bl _ => true
  | .int _ => true
  | .str _ => true
  | _ => false
def eqF : DV → DV → Bool
  | .non, .non => true
  | .bl a, .bl b => a == b
  | .bl a, .int b => (if a then 1 else 0) == b
  | .int a, .bl b => a == (if b then 1 else 0)
  | .int a, .int b => a == b
  | .str a, .str b => a == b
  | _, _ => false
def inF (x : DV) (xs : List DV) : Bool := xs.any fun y => eqF y x
theorem flat_of {K : PySem.W.Frag} {H : Hp} {v : V} {x : DV} (r : Rl K H v x) (f : flatD x = true) : flatV v = true := by cases r <;> first | rfl | cases f
theorem eqF_of {K : PySem.W.Frag} {H : Hp} {v u : V} {x y : DV} (r : Rl K H v x) (s : Rl K H u y) (f : flatD x = true) (g : flatD y = true) : eqV v u = eqF x y := by
  cases r <;> cases s <;> first | rfl | cases f | cases g
theorem flats_of {K : PySem.W.Frag} {H : Hp} : ∀ {vs : List V} {xs : List DV}, Rls K H vs xs → xs.all flatD = true → vs.all flatV = true
  | _, _, .nil, _ => rfl
  | _, _, .cons r s, f => by
    rw [List.all_cons, Bool.and_eq_true] at f
    rw [List.all_cons, flat_of r f.1, flats_of s f.2]; rfl
theorem inF_of {K : PySem.W.Frag} {H : Hp} {v : V} {x : DV} (q : Rl K H v x) (g : flatD x = true) : ∀ {vs : List V} {xs : List DV}, Rls K H vs xs → xs.all flatD = true → inV v vs = inF x xs
  | _, _, .nil, _ => rfl
  | _, _, .cons r s, f => by
    rw [List.all_cons, Bool.and_eq_true] at f
    unfold inV inF
    rw [List.any_cons, List.any_cons, eqF_of r q f.1 g]
    have := inF_of q g s f.2
    unfold inV inF at this
    rw [this]
/-- x in y is b: flat items of a tuple, a list; a text in a text -/
def InQ (S : Sr) (x y : DV) (b : Bool) : Prop := match y with
  | .tup ys => flatD x = true ∧ ys.all flatD = true ∧ inF x ys = b
  | .kt ys => flatD x = true ∧ ys.all flatD = true ∧ inF x ys = b
  | .ref a => ∃ ys, S a = some (.lst ys) ∧ flatD x = true ∧ ys.all flatD = true ∧ inF x ys = b
  | .str j => ∃ i, x = .str i ∧ (!(Builtin.Str.occurrences j i 0 j.length 1).isEmpty) = b
  | _ => False
def rInS : DR2 := fun x y S Q => ∃ b, InQ S x y b ∧ Q (.bl b) S
def rNinS : DR2 := fun x y S Q => ∃ b, InQ S x y b ∧ Q (.bl (!b)) S
theorem o_in : DOp X H0 (compareOp .In) rInS := by
  refine ⟨_, (op_in_str.or op_in_seq), fun v u x y H S Q R t0 a b st c h => ?_⟩
  obtain ⟨k, h, q⟩ := h
  cases b with
  | tup s r =>
    obtain ⟨h1, h2, rfl⟩ := h
    refine .inr ⟨_, _, rfl, .inr (.of s), flat_of a h1, flats_of r h2, ?_⟩
    rw [inF_of a h1 r h2]
    exact c.here (.bl _) st q
  | kt s r =>
    obtain ⟨h1, h2, rfl⟩ := h
    refine .inr ⟨_, _, rfl, .inr s.seq, flat_of a h1, flats_of r h2, ?_⟩
    rw [inF_of a h1 r h2]
    exact c.here (.bl _) st q
  | ref p =>
    obtain ⟨ys, e, h1, h2, rfl⟩ := h
    obtain ⟨vs, f, r⟩ := st.lst e
    refine .inr ⟨_, _, rfl, .inl (.of f), flat_of a h1, flats_of r h2, ?_⟩
    rw [inF_of a h1 r h2]
    exact c.here (.bl _) st q
  | str j =>
    obtain ⟨i, rfl, rfl⟩ := h
    cases a
    exact .inl ⟨i, j, rfl, rfl, c.here (.bl _) st q⟩
  | _ => exact h.elim
theorem o_notin : DOp X H0 (compareOp .NotIn) rNinS := by
  refine ⟨_, (op_notin_str.or op_notIn_seq), fun v u x y H S Q R t0 a b st c h => ?_⟩
  obtain ⟨k, h, q⟩ := h
  cases b with
  | tup s r =>
    obtain ⟨h1, h2, rfl⟩ := h
    refine .inr ⟨_, _, rfl, .inr (.of s), flat_of a h1, flats_of r h2, ?_⟩
    rw [inF_of a h1 r h2]
    exact c.here (.bl _) st q
  | kt s r =>
    obtain ⟨h1, h2, rfl⟩ := h
    refine .inr ⟨_, _, rfl, .inr s.seq, flat_of a h1, flats_of r h2, ?_⟩
    rw [inF_of a h1 r h2]
    exact c.here (.bl _) st q
  | ref p =>
    obtain ⟨ys, e, h1, h2, rfl⟩ := h
    obtain ⟨vs, f, r⟩ := st.lst e
    refine .inr ⟨_, _, rfl, .inl (.of f), flat_of a h1, flats_of r h2, ?_⟩
    rw [inF_of a h1 r h2]
    exact c.here (.bl _) st q
  | str j =>
    obtain ⟨i, rfl, rfl⟩ := h
    cases a
    exact .inl ⟨i, j, rfl, rfl, c.here (.bl _) st q⟩
  | _ => exact h.elim
/-! in, of dicts -/
def keyD : Key → DV
  | .inl i => .int i
  | .inr x => .str x
theorem key_rl {K : PySem.W.Frag} {H : Hp} {v : V} {k : Key} (r : Rl K H v (keyD k)) : v = kV k := by cases k <;> cases r <;> rfl
theorem keys_rl {K : PySem.W.Frag} {H : Hp} : ∀ {vs : List V} {ks : List Key}, Rls K H vs (ks.map keyD) → vs = ks.map kV
  | _, [], r => by cases r; rfl
  | _, k :: ks, r => by
    rw [List.map_cons] at r
    cases r with
    | cons r s => rw [key_rl r, keys_rl s]; rfl
theorem rl_key {K : PySem.W.Frag} {H : Hp} (k : Key) : Rl K H (kV k) (keyD k) := by cases k <;> constructor
theorem rls_keys {K : PySem.W.Frag} {H : Hp} : ∀ ks : List Key, Rls K H (ks.map kV) (ks.map keyD)
  | [] => .nil
  | k :: ks => .cons (rl_key k) (rls_keys ks)
/-- what the dict at a holds at the key y -/
def dGet (S : Sr) (a : Addr) (y : DV) (r : Option DV) : Prop :=
  (∃ kvs k, (S a = some (.dK kvs) ∨ ∃ o, S a = some (.lkK o kvs)) ∧ y = keyD k ∧ r = vD kvs k) ∨
  (∃ kvs ks, (S a = some (.dT kvs) ∨ ∃ o, S a = some (.lkT o kvs)) ∧ y = .tup (ks.map keyD) ∧ r = vD kvs ks)
end
end Dv
set_option Elab.async false
set_option linter.all false
set_option maxRecDepth 100000
set_option maxHeartbeats 1000000
namespace Dv
open PySem PySem.Spec PyProof.Rows L2

section
variable {X : Cx} {H0 : Hp}
theorem dGet.v {K : PySem.W.Frag} {H : Hp} {S : Sr} (st : SatW K H S ow) {a : Addr} {y : DV} {r : Option DV} {u : V} (g : dGet S a y r) (ry : Rl K H u y) :
    (r = none ∧ DGet H a u none) ∨ ∃ v d, r = some d ∧ DGet H a u (some v) ∧ Rl K H v d := by
  rcases g with ⟨kvs, k, e, rfl, rfl⟩ | ⟨kvs, ks, e, rfl, rfl⟩
  · have : ∃ xs, Rd H a (.dK xs) ∧ Rps K H xs kvs := by
      rcases e with e | ⟨o, e⟩
      · obtain ⟨xs, f, rr⟩ := st.obj a _ e; exact ⟨xs, .inl f, rr⟩
      · obtain ⟨xs, f, rr⟩ := st.obj a _ e; exact ⟨xs, .inr ⟨_, f⟩, rr⟩
    obtain ⟨xs, f, rr⟩ := this
    rw [key_rl ry]
    rcases rr.val k with ⟨e1, e2⟩ | ⟨v, d, e1, e2, r1⟩
    · exact .inl ⟨e2, .inl ⟨xs, k, f, rfl, e1.symm⟩⟩
    · exact .inr ⟨v, d, e2, .inl ⟨xs, k, f, rfl, e1.symm⟩, r1⟩
  · have : ∃ xs, Rd H a (.dT xs) ∧ Rps K H xs kvs := by
      rcases e with e | ⟨o, e⟩
      · obtain ⟨xs, f, rr⟩ := st.obj a _ e; exact ⟨xs, .inl f, rr⟩
      · obtain ⟨xs, f, rr⟩ := st.obj a _ e; exact ⟨xs, .inr ⟨_, f⟩, rr⟩
    obtain ⟨xs, f, rr⟩ := this
    cases ry with
    | tup s rs =>
      have es := keys_rl rs
      subst es
      rcases rr.val ks with ⟨e1, e2⟩ | ⟨v, d, e1, e2, r1⟩
      · exact .inl ⟨e2, .inr ⟨xs, ks, _, f, rfl, s, e1.symm⟩⟩
      · exact .inr ⟨v, d, e2, .inr ⟨xs, ks, _, f, rfl, s, e1.symm⟩, r1⟩
/-! ### d[k], k in d, by values -/
theorem ix_dict (hu : X.A.units + 1 < cLine) : IxR X (fun x y H Q => ∃ a v, x = .ref a ∧ DGet H a y (some v) ∧ Q v H) := by
  intro value slice pins s σ H x y v u Q I rx ry h hs
  obtain ⟨a, z, rfl, g, q⟩ := h
  obtain rfl : v = Value.ref a := rx
  exact tail_any (dict_typeIs I g) PySem.F.slot_dict_getitem.lookup (d_getItem hu I g ry fun w' s3 I3 rw' => ⟨z, H, I3, rw', q⟩) hs
theorem op_din (hu : X.A.units + 1 < cLine) : OpR X (compareOp .In) (fun y x H Q => ∃ a o, x = .ref a ∧ DGet H a y o ∧ Q (.bl o.isSome) H) := by
  intro pins s σ H x y v u Q I rx ry h
  obtain ⟨a, o, rfl, g, q⟩ := h
  obtain rfl : u = Value.ref a := ry
  exact d_in hu I g rx fun s3 I3 => ⟨.bl o.isSome, H, I3, rfl, q⟩
theorem op_dnin (hu : X.A.units + 1 < cLine) : OpR X (compareOp .NotIn) (fun y x H Q => ∃ a o, x = .ref a ∧ DGet H a y o ∧ Q (.bl (!o.isSome)) H) := by
  intro pins s σ H x y v u Q I rx ry h
  obtain ⟨a, o, rfl, g, q⟩ := h
  obtain rfl : u = Value.ref a := ry
  exact d_notIn hu I g rx fun s3 I3 => ⟨.bl (!o.isSome), H, I3, rfl, q⟩
/-- in, dicts too -/
def InD (S : Sr) (x y : DV) (b : Bool) : Prop := (∃ a o, y = .ref a ∧ dGet S a x o ∧ o.isSome = b) ∨ InQ S x y b
def rInD : DR2 := fun x y S Q => ∃ b, InD S x y b ∧ Q (.bl b) S
def rNinD : DR2 := fun x y S Q => ∃ b, InD S x y b ∧ Q (.bl (!b)) S
theorem o_inD (hu : X.A.units + 1 < cLine) : DOp X H0 (compareOp .In) rInD := by
  obtain ⟨rv, h1, h2⟩ := (o_in (X := X) (H0 := H0)).ex
  refine ⟨_, (op_din hu).or h1, fun v u x y H S Q R t0 a b st c h => ?_⟩
  obtain ⟨k, h, q⟩ := h
  rcases h with ⟨p, o, rfl, g, rfl⟩ | h
  · cases b
    obtain ⟨ow, st'⟩ := id st
    rcases g.v st' a with ⟨rfl, g'⟩ | ⟨w, d, rfl, g', _⟩
    · exact .inl ⟨p, _, rfl, g', c.here (.bl _) st q⟩
    · exact .inl ⟨p, _, rfl, g', c.here (.bl _) st q⟩
  · exact .inr (h2 v u x y H S Q R t0 a b st c ⟨k, h, q⟩)
theorem o_notinD (hu : X.A.units + 1 < cLine) : DOp X H0 (compareOp .NotIn) rNinD := by
  obtain ⟨rv, h1, h2⟩ := (o_notin (X := X) (H0 := H0)).ex
  refine ⟨_, (op_dnin hu).or h1, fun v u x y H S Q R t0 a b st c h => ?_⟩
  obtain ⟨k, h, q⟩ := h
  rcases h with ⟨p, o, rfl, g, rfl⟩ | h
  · cases b
    obtain ⟨ow, st'⟩ := id st
    rcases g.v st' a with ⟨rfl, g'⟩ | ⟨w, d, rfl, g', _⟩
    · exact .inl ⟨p, _, rfl, g', c.here (.bl _) st q⟩
    · exact .inl ⟨p, _, rfl, g', c.here (.bl _) st q⟩
  · exact .inr (h2 v u x y H S Q R t0 a b st c ⟨k, h, q⟩)
/-! ### subscripts -/
/-- what stands at a place: of a tuple, a text, a list, a dict -/
def ixP (S : Sr) (x y z : DV) : Prop := match x with
  | .tup xs => ∃ i, y = .int i ∧ atI xs i = some z
  | .kt xs => ∃ i, y = .int i ∧ atI xs i = some z
  | .str t => ∃ i c, y = .int i ∧ t.length ≤ sizeLine ∧ atI t.cps.toList i = some c ∧ z = .str ⟨#[c]⟩
  | .ref a => (∃ xs i, y = .int i ∧ S a = some (.lst xs) ∧ atI xs i = some z) ∨ dGet S a y (some z)
  | _ => False
def rIx2 : DR2 := fun x y S Q => ∃ z, ixP S x y z ∧ Q z S
theorem atI_rls {K : PySem.W.Frag} {H : Hp} {vs : List V} {ds : List DV} (r : Rls K H vs ds) {i : Int} {d : DV} (h : atI ds i = some d) : ∃ v, atI vs i = some v ∧ Rl K H v d := by
  unfold atI at h ⊢
  rw [r.length]
  cases q : ixN ds.length i with
  | none => rw [q] at h; cases h
  | some j =>
    rw [q] at h
    exact r.get h
theorem lr_ix {K : PySem.W.Frag} : LR2 K H0 (fun x y H Q => rIx K x y H Q ∨ ∃ a v, x = .ref a ∧ DGet H a y (some v) ∧ Q v H) rIx2 := by
  intro v u x y H S Q R t0 a b st c h
  obtain ⟨z, h, q⟩ := h
  cases a with
  | tup s r =>
    obtain ⟨i, rfl, e⟩ := h
    cases b
    obtain ⟨w, e', rw'⟩ := atI_rls r e
    exact .inl (.inr (.inl ⟨_, _, i, w, rfl, rfl, .of s, e', c.here rw' st q⟩))
  | kt s r =>
    obtain ⟨i, rfl, e⟩ := h
    cases b
    obtain ⟨w, e', rw'⟩ := atI_rls r e
    exact .inl (.inr (.inl ⟨_, _, i, w, rfl, rfl, s.seq, e', c.here rw' st q⟩))
  | str t =>
    obtain ⟨i, k, rfl, hz, e, rfl⟩ := h
    cases b
    exact .inl (.inr (.inr ⟨t, i, k, rfl, rfl, hz, e, c.here (.str _) st q⟩))
  | ref p =>
    rcases h with ⟨xs, i, rfl, e, h⟩ | g
    · cases b
      obtain ⟨vs, f, r⟩ := st.lst e
      obtain ⟨w, e', rw'⟩ := atI_rls r h
      exact .inl (.inl ⟨_, _, i, w, rfl, rfl, .of f, e', c.here rw' st q⟩)
    · obtain ⟨ow, st'⟩ := id st
      rcases g.v st' b with ⟨z, _⟩ | ⟨w, d, e, g', r⟩
      · cases z
      · cases e
        exact .inr ⟨p, w, rfl, g', c.here r st q⟩
  | _ => exact h.elim
variable {a b c e o i : Expr} {ta tb tc t : DE} {pos : Pos}
theorem de_ix (hu : X.A.units + 1 < cLine) (ha : De X H0 a ta) (hb : De X H0 b tb) (hs : PlainIx b := by intro _ _; rfl) : De X H0 (.Subscript a b pos) (dOp rIx2 ta tb) := by
  obtain ⟨ta', a1, a2⟩ := ha.ex
  obtain ⟨tb', b1, b2⟩ := hb.ex
  exact ⟨_, pe_ix (ix_seq.or (ix_dict hu)) a1 b1 hs, LE.op lr_ix a2 b2⟩
/-! ### slices -/
structure Do (X : Cx) (H0 : Hp) (e : Option Expr) (t : DSt → Sr → (Option Int → Sr → Prop) → Prop) : Prop where
  ex : ∃ to, PO X e to ∧ ∀ σ τ H S (Q : Option Int → Sr → Prop) (R : Option Int → Hp → Prop), Tp H0 H → RS X.K H σ τ → Sat X.K H S → (∀ o H' S', Tp H H' → Sat X.K H' S' → Q o S' → R o H') → t τ S Q → to σ H R
def dNo : DSt → Sr → (Option Int → Sr → Prop) → Prop := fun _ S Q => Q none S
def dPart (t : DE) : DSt → Sr → (Option Int → Sr → Prop) → Prop := fun σ S Q => t σ S fun x S1 => match x with
  | .int i => Q (some i) S1
  | _ => False
theorem do_none : Do X H0 none dNo := ⟨_, po_none, fun _ _ H S _ _ _ _ st c h => c none H S .refl st h⟩
theorem do_some (h : De X H0 e t) : Do X H0 (some e) (dPart t) := by
  obtain ⟨te, h1, h2⟩ := h.ex
  refine ⟨_, po_some h1, fun σ τ H S Q R t0 rs st c hh => h2 σ τ H S _ _ t0 rs st ?_ hh⟩
  intro v H1 x S1 t1 r1 st1 q
  cases r1 with
  | int i => exact ⟨i, rfl, c _ _ _ t1 st1 q⟩
  | _ => exact q.elim
def cutD (xs : List DV) (lo hi : Option Int) : List DV := (xs.drop (HT.sIx xs.length 0 lo)).take (HT.sIx xs.length xs.length hi - HT.sIx xs.length 0 lo)
theorem cut_rls {K : PySem.W.Frag} {H : Hp} {vs : List V} {ds : List DV} (r : Rls K H vs ds) (lo hi : Option Int) : Rls K H (cutV vs lo hi) (cutD ds lo hi) := by
  unfold cutV cutD
  rw [r.length]
  exact (r.drop _).take _
/-- a part of a tuple, a text, a list (a new one) -/
def rSl2 (x : DV) (lo hi : Option Int) (S : Sr) (Q : DK) : Prop := match x with
  | .tup xs => Q (.tup (cutD xs lo hi)) S
  | .str z => z.length ≤ sizeLine ∧ Q (.str (cutS z lo hi)) S
  | .ref a => ∃ xs, S a = some (.lst xs) ∧ ∀ p, S p = none → Q (.ref p) (up S p (.lst (cutD xs lo hi)))
  | .scr ns => ∀ p, S p = none → Q (.ref p) (up S p (.lst (cutD (ns.map DV.int) lo hi)))
  | _ => False
theorem le_sl {K : PySem.W.Frag} {te : TE} {td : DE} {tl th : TO} {tl' th' : DSt → Sr → (Option Int → Sr → Prop) → Prop} (h1 : LE K H0 te td)
    (h2 : ∀ σ τ H S (Q : Option Int → Sr → Prop) (R : Option Int → Hp → Prop), Tp H0 H → RS K H σ τ → Sat K H S → (∀ o H' S', Tp H H' → Sat K H' S' → Q o S' → R o H') → tl' τ S Q → tl σ H R)
    (h3 : ∀ σ τ H S (Q : Option Int → Sr → Prop) (R : Option Int → Hp → Prop), Tp H0 H → RS K H σ τ → Sat K H S → (∀ o H' S', Tp H H' → Sat K H' S' → Q o S' → R o H') → th' τ S Q → th σ H R) :
    LE K H0 (tSl (fun x lo hi H Q => rSlA K x lo hi H Q ∨ rSlS x lo hi H Q ∨ rSlL K x lo hi H Q) te tl th) (fun σ S Q => td σ S fun x S1 => tl' σ S1 fun l S2 => th' σ S2 fun u S3 => rSl2 x l u S3 Q) := by
  intro σ τ H S Q R t0 rs st c h
  refine h1 σ τ H S _ _ t0 rs st ?_ h
  intro v H1 x S1 t1 r1 st1 q1
  refine h2 σ τ H1 S1 _ _ (t0.trans t1) (rs.mono t1) st1 ?_ q1
  intro l H2 S2 t2 st2 q2
  refine h3 σ τ H2 S2 _ _ ((t0.trans t1).trans t2) (rs.mono (t1.trans t2)) st2 ?_ q2
  intro u H3 S3 t3 st3 q3
  have r3 := r1.mono (t2.trans t3)
  have c3 := c.later ((t1.trans t2).trans t3)
  cases r3 with
  | tup s r =>
    refine .inl ⟨_, _, rfl, .of s, fun e => ?_, fun e p hp => ?_⟩
    · have q3' : Q (.tup (cutD _ l u)) S3 := q3
      unfold cutD at q3'
      rw [← r.length, e.1, e.2, List.drop_zero, Nat.sub_zero, r.length, List.take_length] at q3'
      exact c3.here (.tup s r) st3 q3'
    · exact c3 _ _ _ _ (.new hp) (newTup hp (cut_rls r l u)) (st3.ext hp) q3
  | str z => exact .inr (.inl ⟨z, rfl, q3.1, c3.here (.str _) st3 q3.2⟩)
  | ref a =>
    obtain ⟨xs, e, q⟩ := q3
    obtain ⟨vs, f, r⟩ := st3.lst e
    exact .inr (.inr ⟨a, vs, rfl, .of f, fun p hp => c3 _ _ _ _ (.new hp) (.ref p) (newLst hp st3 (cut_rls r l u)) (q p (st3.free hp))⟩)
  | scr s =>
    refine .inr (.inr ⟨_, _, rfl, s.seq, fun p hp => c3 _ _ _ _ (.new hp) (.ref p) (newLst hp st3 ?_) (q3 p (st3.free hp))⟩)
    exact cut_rls (Rls.of_ints _) l u
  | _ => exact q3.elim
def dSl (ta : DE) (tl th : DSt → Sr → (Option Int → Sr → Prop) → Prop) : DE := fun σ S Q => ta σ S fun x S1 => tl σ S1 fun l S2 => th σ S2 fun u S3 => rSl2 x l u S3 Q
theorem de_slice {lo hi : Option Expr} {p2 : Pos} {tl th : DSt → Sr → (Option Int → Sr → Prop) → Prop} (ha : De X H0 a ta) (hl : Do X H0 lo tl) (hh : Do X H0 hi th) :
    De X H0 (.Subscript a (.Slice lo hi none p2) pos) (dSl ta tl th) := by
  obtain ⟨ta', a1, a2⟩ := ha.ex
  obtain ⟨tl', b1, b2⟩ := hl.ex
  obtain ⟨th', c1, c2⟩ := hh.ex
  exact ⟨_, pe_slice (sl_tupA.or (sl_str.or sl_list)) a1 b1 c1, le_sl a2 b2 c2⟩
/-! ### calls of built-ins, by values -/
abbrev DRl := List DV → Sr → DK → Prop
def LRl (K : PySem.W.Frag) (H0 : Hp) (rv : List V → Hp → VK → Prop) (r : DRl) : Prop := ∀ vs ds H S (Q : DK) (R : VK), Tp H0 H → Rls K H vs ds → Sat K H S → Cont K H Q R → r ds S Q → rv vs H R
theorem LRl.or {K : PySem.W.Frag} {rv rv' : List V → Hp → VK → Prop} {r r' : DRl} (h : LRl K H0 rv r) (h' : LRl K H0 rv' r') :
    LRl K H0 (fun x H Q => rv x H Q ∨ rv' x H Q) (fun x S Q => r x S Q ∨ r' x S Q) :=
  fun vs ds H S Q R t a s c z => z.elim (fun z => .inl (h vs ds H S Q R t a s c z)) fun z => .inr (h' vs ds H S Q R t a s c z)
structure DCb (X : Cx) (H0 : Hp) (f : Value) (r : DRl) : Prop where
  ex : ∃ rv, CallR X f rv ∧ LRl X.K H0 rv r
theorem DCb.or {f : Value} {r r' : DRl} (h : DCb X H0 f r) (h' : DCb X H0 f r') : DCb X H0 f (fun x S Q => r x S Q ∨ r' x S Q) := by
  obtain ⟨rv, a, b⟩ := h.ex
  obtain ⟨rv', a', b'⟩ := h'.ex
  exact ⟨_, a.or a', b.or b'⟩
def dCb (r : DRl) (t : DA) : DE := fun σ S Q => t σ S fun xs S1 => r xs S1 Q
theorem LE.cb {K : PySem.W.Frag} {rv : List V → Hp → VK → Prop} {r : DRl} {ta : TA} {tr : DA} (h : LRl K H0 rv r) (ha : LA K H0 ta tr) : LE K H0 (tCB rv ta) (dCb r tr) := by
  intro σ τ H S Q R t0 rs st c hh
  refine ha σ τ H S _ _ t0 rs st ?_ hh
  intro vs H1 xs S1 t1 r1 st1 h1
  exact h vs xs H1 S1 Q R (t0.trans t1) r1 st1 (c.later t1) h1
variable {es : List Expr} {tr : DA} {x : Str} {id T : String} {p : Pos}
theorem de_callB {r : DRl} (hc : DCb X H0 (.builtin id) r) (ha : Da X H0 (e :: es) tr) (hg : Gl X x) (hm : X.mg x = none) (hv : bootBuiltins x = some (.builtin id)) (hn : x ≠ "__name__" := by decide) (hdb : (x == ("__debug__" : Str)) = false := by decide)
    (he : starEach (e :: es) X.env = (false, eval e X.env) :: starEach es X.env := by rfl) (hpl : (backTo pos (starEach es X.env)).any (·.1) = false := by rfl) : De X H0 (.Call (.Name x p) (e :: es) [] pos) (dCb r tr) := by
  obtain ⟨rv, a1, a2⟩ := hc.ex
  obtain ⟨ta', b1, b2⟩ := ha.ex
  exact ⟨_, pe_callB a1 hg hm hv b1 hn hdb he hpl, LE.cb a2 b2⟩
theorem de_callTy {r : DRl} (hc : DCb X H0 (.type T) r) (ha : Da X H0 (e :: es) tr) (hg : Gl X x) (hm : X.mg x = none) (hv : bootBuiltins x = some (.type T)) (hn : x ≠ "__name__" := by decide) (hdb : (x == ("__debug__" : Str)) = false := by decide)
    (he : starEach (e :: es) X.env = (false, eval e X.env) :: starEach es X.env := by rfl) (hpl : (backTo pos (starEach es X.env)).any (·.1) = false := by rfl) : De X H0 (.Call (.Name x p) (e :: es) [] pos) (dCb r tr) := by
  obtain ⟨rv, a1, a2⟩ := hc.ex
  obtain ⟨ta', b1, b2⟩ := ha.ex
  exact ⟨_, pe_callTy a1 hg hm hv b1 hn hdb he hpl, LE.cb a2 b2⟩
/-- len -/
def lenP (S : Sr) (x : DV) (n : Int) : Prop := match x with
  | .tup xs => n = xs.length
  | .str z => z.length ≤ sizeLine ∧ n = z.length
  | .ref a => (∃ xs, S a = some (.lst xs) ∧ n = xs.length) ∨ (∃ kvs, S a = some (.dK kvs) ∧ n = kvs.length)
  | .scr ns => n = ns.length
  | _ => False
def rLen2 : DRl
  | [x], S, Q => ∃ n, lenP S x n ∧ Q (.int n) S
  | _, _, _ => False
theorem b_len : DCb X H0 (.builtin "len") rLen2 := by
  refine ⟨_, (call_len_seq.or call_len_str).or call_lenD, fun vs ds H S Q R t0 a st c h => ?_⟩
  cases a with
  | cons r rr =>
    cases rr with
    | nil =>
      obtain ⟨n, h, q⟩ := h
      cases r with
      | tup s r => cases h; rw [← r.length] at q; exact .inl (.inl ⟨_, _, rfl, .inr (.of s), c.here (.int _) st q⟩)
      | str z => obtain ⟨hz, rfl⟩ := h; exact .inl (.inr ⟨z, rfl, hz, c.here (.int _) st q⟩)
      | ref a =>
        rcases h with ⟨xs, e, rfl⟩ | ⟨kvs, e, rfl⟩
        · obtain ⟨ws, f, r⟩ := st.lst e
          rw [← r.length] at q
          exact .inl (.inl ⟨_, _, rfl, .inl (.of f), c.here (.int _) st q⟩)
        · obtain ⟨ws, f, r⟩ := st.dK e
          rw [← r.length] at q
          exact .inr ⟨_, _, rfl, f, c.here (.int _) st q⟩
      | scr s =>
        cases h
        refine .inl (.inl ⟨_, _, rfl, .inl s.seq, ?_⟩)
        rw [List.length_map]
        exact c.here (.int _) st q
      | _ => exact h.elim
    | cons _ _ => exact h.elim
  | nil => exact h.elim
/-- the items of a list (of the store, or the script) -/
def lstOf (S : Sr) (x : DV) (xs : List DV) : Prop := match x with
  | .ref a => S a = some (.lst xs)
  | .scr ns => xs = ns.map DV.int
  | _ => False
theorem lstOf.sq {K : PySem.W.Frag} {H : Hp} {S : Sr} {v : V} {x : DV} {xs : List DV} (h : lstOf S x xs) (st : Sat K H S) (r : Rl K H v x) : ∃ a vs, v = .ref a ∧ SqL K H a vs ∧ Rls K H vs xs := by
  cases r with
  | ref a =>
    obtain ⟨vs, f, r⟩ := st.lst h
    exact ⟨a, vs, rfl, .of f, r⟩
  | scr s =>
    cases h
    exact ⟨_, _, rfl, s.seq, Rls.of_ints _⟩
  | _ => exact h.elim
def rSum2 : DRl
  | [x], S, Q => ∃ ns : List Int, lstOf S x (ns.map DV.int) ∧ Q (.int ns.sum) S
  | _, _, _ => False
theorem b_sum (hc : X.calm = true := by rfl) : DCb X H0 (.builtin "sum") rSum2 := by
  refine ⟨_, cr_sum hc, fun vs ds H S Q R t0 a st c h => ?_⟩
  cases a with
  | cons r rr =>
    cases rr with
    | nil =>
      obtain ⟨ns, h, q⟩ := h
      obtain ⟨a, ws, rfl, sq, rs⟩ := h.sq st r
      rw [rs.ints] at sq
      exact ⟨a, ns, rfl, sq, c.here (.int _) st q⟩
    | cons _ _ => exact h.elim
  | nil => exact h.elim
/-- max, min: of two ints, of a list of ints -/
def rMax2 : DRl
  | [.int i, .int j], S, Q => Q (.int (if j > i then j else i)) S
  | [x], S, Q => ∃ ns : List Int, lstOf S x (ns.map DV.int) ∧ 0 < ns.length ∧ ∀ m, m ∈ ns → (∀ y, y ∈ ns → y ≤ m) → Q (.int m) S
  | _, _, _ => False
theorem b_max (hc : X.calm = true := by rfl) : DCb X H0 (.builtin "max") rMax2 := by
  refine ⟨_, (call_max2 hc).or (cr_max hc), fun vs ds H S Q R t0 a st c h => ?_⟩
  cases a with
  | @cons _ d _ _ r rr =>
    cases rr with
    | nil =>
      have h' : ∃ ns : List Int, lstOf S d (ns.map DV.int) ∧ 0 < ns.length ∧ ∀ m, m ∈ ns → (∀ y, y ∈ ns → y ≤ m) → Q (.int m) S := by
        cases r <;> exact h
      obtain ⟨ns, h, h0, q⟩ := h'
      obtain ⟨a, ws, rfl, sq, rs⟩ := h.sq st r
      rw [rs.ints] at sq
      exact .inr ⟨a, ns, rfl, sq, h0, fun m h1 h2 => c.here (.int _) st (q m h1 h2)⟩
    | cons r' rr =>
      cases rr with
      | nil =>
        cases r with
        | int i =>
          cases r' with
          | int j => exact .inl ⟨i, j, rfl, c.here (.int _) st h⟩
          | _ => exact h.elim
        | _ => exact h.elim
      | cons _ _ => cases r <;> first | exact h.elim | (cases r' <;> exact h.elim)
  | nil => exact h.elim
def rMin2 : DRl
  | [.int i, .int j], S, Q => Q (.int (if j < i then j else i)) S
  | _, _, _ => False
theorem b_min (hc : X.calm = true := by rfl) : DCb X H0 (.builtin "min") rMin2 := by
  refine ⟨_, call_min2 hc, fun vs ds H S Q R t0 a st c h => ?_⟩
  cases a with
  | cons r rr =>
    cases rr with
    | nil => cases r <;> exact h.elim
    | cons r' rr =>
      cases rr with
      | nil =>
        cases r with
        | int i =>
          cases r' with
          | int j => exact ⟨i, j, rfl, c.here (.int _) st h⟩
          | _ => exact h.elim
        | _ => exact h.elim
      | cons _ _ => cases r <;> first | exact h.elim | (cases r' <;> exact h.elim)
  | nil => exact h.elim
def rAbs2 : DRl
  | [.int i], S, Q => Q (.int (if i < 0 then -i else i)) S
  | _, _, _ => False
theorem b_abs : DCb X H0 (.builtin "abs") rAbs2 := by
  refine ⟨_, call_abs, fun vs ds H S Q R t0 a st c h => ?_⟩
  cases a with
  | cons r rr =>
    cases rr with
    | nil =>
      cases r with
      | int i => exact ⟨i, rfl, c.here (.int _) st h⟩
      | _ => exact h.elim
    | cons _ _ => cases r <;> exact h.elim
  | nil => exact h.elim
/-- int of an int, a truth, a text -/
def rInt2 : DRl
  | [.int i], S, Q => Q (.int i) S
  | [.bl k], S, Q => Q (.int (if k then 1 else 0)) S
  | [.str a], S, Q => ∃ n, PySem.intText? a = some n ∧ a.length ≤ 640 ∧ Q (.int n) S
  | _, _, _ => False
theorem b_int : DCb X H0 (.type "int") rInt2 := by
  refine ⟨_, call_int1.or call_int_str, fun vs ds H S Q R t0 a st c h => ?_⟩
  cases a with
  | cons r rr =>
    cases rr with
    | nil =>
      cases r with
      | int i => exact .inl (.inl ⟨i, rfl, c.here (.int _) st h⟩)
      | bl k => exact .inl (.inr ⟨k, rfl, c.here (.int _) st h⟩)
      | str a => obtain ⟨n, h1, h2, h3⟩ := h; exact .inr ⟨a, n, rfl, h1, h2, c.here (.int _) st h3⟩
      | _ => exact h.elim
    | cons _ _ => cases r <;> exact h.elim
  | nil => exact h.elim
/-- list(x): a list's copy, a tuple's items -/
def rList2 : DRl
  | [.tup xs], S, Q => ∀ p, S p = none → Q (.ref p) (up S p (.lst xs))
  | [x], S, Q => ∃ xs, lstOf S x xs ∧ ∀ p, S p = none → Q (.ref p) (up S p (.lst xs))
  | _, _, _ => False
theorem b_list : DCb X H0 (.type "list") rList2 := by
  refine ⟨_, call_list_of, fun vs ds H S Q R t0 a st c h => ?_⟩
  cases a with
  | cons r rr =>
    cases rr with
    | nil =>
      have fin : ∀ {x : DV} {v : V}, Rl X.K H v x → (∃ xs, lstOf S x xs ∧ ∀ p, S p = none → Q (.ref p) (up S p (.lst xs))) → ∃ p ys, [v] = [.ref p] ∧ (SqL X.K H p ys ∨ SqT X.K H p ys) ∧ ∀ l, H l = none → R (.ref l) (upd H l (.lst ys)) := by
        intro x v r h
        obtain ⟨xs, h, q⟩ := h
        obtain ⟨a, ws, rfl, sq, rs⟩ := h.sq st r
        exact ⟨a, ws, rfl, .inl sq, fun l hl => c _ _ _ _ (.new hl) (.ref l) (newLst hl st rs) (q l (st.free hl))⟩
      cases r with
      | tup s r => exact ⟨_, _, rfl, .inr (.of s), fun l hl => c _ _ _ _ (.new hl) (.ref l) (newLst hl st r) (h l (st.free hl))⟩
      | ref a => exact fin (.ref a) h
      | scr s => exact fin (.scr s) h
      | non => exact fin .non h
      | bl b => exact fin (.bl b) h
      | int i => exact fin (.int i) h
      | str z => exact fin (.str z) h
      | kt s r => exact fin (.kt s r) h
    | cons _ _ => cases r <;> exact h.elim
  | nil => exact h.elim
/-- sorted: a list of texts, of ints (fewer than 64) -/
def rSorted2 : DRl
  | [x], S, Q => (∃ ss : List Str, lstOf S x (ss.map DV.str) ∧ ss.length < 64 ∧ ∀ (ys : List Str) p, ys.Perm ss → sortedS ys = true → S p = none → Q (.ref p) (up S p (.lst (ys.map DV.str)))) ∨
      (∃ ns : List Int, lstOf S x (ns.map DV.int) ∧ ns.length < 64 ∧ ∀ (ms : List Int) p, ms.Perm ns → ms.Pairwise (· ≤ ·) → S p = none → Q (.ref p) (up S p (.lst (ms.map DV.int))))
  | _, _, _ => False
theorem b_sorted : DCb X H0 (.builtin "sorted") rSorted2 := by
  refine ⟨_, cr_sortedS.or cr_sorted, fun vs ds H S Q R t0 a st c h => ?_⟩
  cases a with
  | cons r rr =>
    cases rr with
    | nil =>
      rcases h with ⟨ss, h, hl, q⟩ | ⟨ns, h, hl, q⟩
      · obtain ⟨a, ws, rfl, sq, rs⟩ := h.sq st r
        rw [rs.strs] at sq
        exact .inl ⟨a, ss, rfl, sq, hl, fun ys p h1 h2 hp => c _ _ _ _ (.new hp) (.ref p) (newLst hp st (Rls.of_strs ys)) (q ys p h1 h2 (st.free hp))⟩
      · obtain ⟨a, ws, rfl, sq, rs⟩ := h.sq st r
        rw [rs.ints] at sq
        exact .inr ⟨a, ns, rfl, sq, hl, fun ys p h1 h2 hp => c _ _ _ _ (.new hp) (.ref p) (newLst hp st (Rls.of_ints ys)) (q ys p h1 h2 (st.free hp))⟩
    | cons _ _ => exact h.elim
  | nil => exact h.elim
/-! isinstance(x, T), T a built-in class -/
def isTy (S : Sr) (T : String) (x : DV) (b : Bool) : Prop := match x with
  | .non => kitB "NoneType" T = some b
  | .bl _ => kitB "bool" T = some b
  | .int _ => kitB "int" T = some b
  | .str _ => kitB "str" T = some b
  | .tup _ => kitB "tuple" T = some b
  | .ref a => (∃ xs, S a = some (.lst xs)) ∧ kitB "list" T = some b
  | _ => False
def rIsi2 (T : String) (t : DE) : DE := fun σ S Q => t σ S fun x S1 => ∃ b, isTy S1 T x b ∧ Q (.bl b) S1
theorem de_isi {y : Str} {p2 : Pos} {T : String} (ha : De X H0 e t) (hg : Gl X x) (hm : X.mg x = none) (hv : bootBuiltins x = some (.builtin "isinstance")) (hg2 : Gl X y) (hm2 : X.mg y = none) (hv2 : bootBuiltins y = some (.type T))
    (hn : x ≠ "__name__" := by decide) (hdb : (x == ("__debug__" : Str)) = false := by decide) (hn2 : y ≠ "__name__" := by decide) (hdb2 : (y == ("__debug__" : Str)) = false := by decide)
    (he : starEach (e :: [.Name y p2]) X.env = (false, eval e X.env) :: starEach [.Name y p2] X.env := by rfl) (hpl : (backTo pos (starEach [.Name y p2] X.env)).any (·.1) = false := by rfl) : De X H0 (.Call (.Name x p) [e, .Name y p2] [] pos) (rIsi2 T t) := by
  obtain ⟨te, a1, a2⟩ := ha.ex
  refine ⟨_, pe_callB call_isi hg hm hv (pa_cons a1 (pa_cons (pe_bltn (v := .ty T) hg2 hm2 hv2 rfl hn2 hdb2) pa_nil) he) hn hdb he hpl, fun σ τ H S Q R t0 rs st c h => a2 σ τ H S _ _ t0 rs st ?_ h⟩
  intro v H1 d S1 t1 r1 st1 h1
  obtain ⟨b, h1, q⟩ := h1
  have q' : R (.bl b) H1 := c _ _ _ _ t1 (.bl b) st1 q
  cases r1 with
  | non => exact ⟨_, _, _, _, b, rfl, .ty T, .base .non, kit_ty h1, q'⟩
  | bl k => exact ⟨_, _, _, _, b, rfl, .ty T, .base (.bl k), kit_ty h1, q'⟩
  | int i => exact ⟨_, _, _, _, b, rfl, .ty T, .base (.int i), kit_ty h1, q'⟩
  | str z => exact ⟨_, _, _, _, b, rfl, .ty T, .base (.str z), kit_ty h1, q'⟩
  | tup s r => exact ⟨_, _, _, _, b, rfl, .ty T, .base (.tup s), kit_ty h1, q'⟩
  | ref a =>
    obtain ⟨⟨xs, e⟩, h1⟩ := h1
    obtain ⟨ws, f, _⟩ := st1.lst e
    exact ⟨_, _, _, _, b, rfl, .ty T, .base (.lst f), kit_ty h1, q'⟩
  | _ => exact h1.elim
end
end Dv
set_option Elab.async false
set_option linter.all false
set_option maxRecDepth 100000
set_option maxHeartbeats 1000000
namespace Dv
open PySem PySem.Spec PyProof.Rows L2

section
variable {X : Cx} {H0 : Hp} {a b c e o f : Expr} {ta tb tc t to : DE} {pos : Pos} {es : List Expr} {tr : DA}
/-! ### methods of built-in types, by values -/
abbrev DRm := DV → List DV → Sr → DK → Prop
def LRm (K : PySem.W.Frag) (H0 : Hp) (rv : V → List V → Hp → VK → Prop) (r : DRm) : Prop := ∀ v vs d ds H S (Q : DK) (R : VK), Tp H0 H → Rl K H v d → Rls K H vs ds → Sat K H S → Cont K H Q R → r d ds S Q → rv v vs H R
structure DMt (X : Cx) (H0 : Hp) (id : String) (r : DRm) : Prop where
  ex : ∃ rv, MtR X id rv ∧ LRm X.K H0 rv r
theorem DMt.or {id : String} {r r' : DRm} (h : DMt X H0 id r) (h' : DMt X H0 id r') : DMt X H0 id (fun x xs S Q => r x xs S Q ∨ r' x xs S Q) := by
  obtain ⟨rv, a, b⟩ := h.ex
  obtain ⟨rv', a', b'⟩ := h'.ex
  refine ⟨_, a.or a', fun v vs d ds H S Q R t0 p q st c h => ?_⟩
  exact h.elim (fun z => .inl (b v vs d ds H S Q R t0 p q st c z)) fun z => .inr (b' v vs d ds H S Q R t0 p q st c z)
/-- of that built-in type -/
def tyD (T : String) (x : DV) (S : Sr) : Prop := match x with
  | .str _ => T = "str"
  | .ref a => (T = "list" ∧ ∃ ds, S a = some (.lst ds)) ∨ (T = "dict" ∧ ((∃ kvs, S a = some (.dK kvs)) ∨ ∃ kvs, S a = some (.dT kvs)))
  | _ => False
theorem tyD.v {K : PySem.W.Frag} {H : Hp} {S : Sr} {T : String} {x : DV} {v : V} (h : tyD T x S) (st : Sat K H S) (r : Rl K H v x) : tyV K T v H := by
  cases r with
  | str z => exact h
  | ref a =>
    rcases h with ⟨e, ds, h⟩ | ⟨e, ⟨kvs, h⟩ | ⟨kvs, h⟩⟩
    · obtain ⟨xs, f, _⟩ := st.lst h; exact .inl ⟨e, xs, .of f⟩
    · obtain ⟨xs, f, _⟩ := st.dK h; exact .inr (.inr (.inl ⟨e, .inl ⟨xs, f⟩⟩))
    · obtain ⟨xs, f, _⟩ := st.dT h; exact .inr (.inr (.inl ⟨e, .inr ⟨xs, f⟩⟩))
  | _ => exact h.elim
def dBM (T : String) (r : DRm) (to : DE) (tr : DA) : DE := fun σ S Q => to σ S fun x S1 => tyD T x S1 ∧ tr σ S1 fun xs S2 => r x xs S2 Q
theorem LE.bm {K : PySem.W.Frag} {T : String} {rv : V → List V → Hp → VK → Prop} {r : DRm} {te : TE} {td : DE} {ta : TA} {td2 : DA} (h : LRm K H0 rv r) (h1 : LE K H0 te td) (h2 : LA K H0 ta td2) : LE K H0 (tBM K T rv te ta) (dBM T r td td2) := by
  intro σ τ H S Q R t0 rs st c hh
  refine h1 σ τ H S _ _ t0 rs st ?_ hh
  intro v H1 x S1 t1 r1 st1 q1
  refine ⟨q1.1.v st1 r1, ?_⟩
  refine h2 σ τ H1 S1 _ _ (t0.trans t1) (rs.mono t1) st1 ?_ q1.2
  intro vs H2 xs S2 t2 r2 st2 q2
  exact h v vs x xs H2 S2 Q R ((t0.trans t1).trans t2) (r1.mono t2) r2 st2 (c.later (t1.trans t2)) q2
theorem de_bm {T id : String} {name : Str} {apos cpos : Pos} {r : DRm} (hm : DMt X H0 id r) (ho : De X H0 o to) (ha : Da X H0 (e :: es) tr) (pa : PlainAttrs T) (slot : Slot T name id) (hty : typeOf (.builtin id) = pure (.type "method_descriptor"))
    (hbase : attributeBase o name X.env (eval o X.env) = eval o X.env := by rfl)
    (hfew : ((backTo cpos (starEach (e :: es) X.env)).all (fun x => !x.1) && (backToKw cpos (keywordEach [] X.env)).all (fun x => x.1.isSome) && decide ((e :: es).length + ([] : List Keyword).length + (if ([] : List Keyword).isEmpty then 0 else 1) < 30)) = true := by rfl)
    (hline : (apos.endLine == cpos.line) = true := by rfl) (hs : starEach (e :: es) X.env = (false, eval e X.env) :: starEach es X.env := by rfl) (hplain : (backTo cpos (starEach es X.env)).any (·.1) = false := by rfl) :
    De X H0 (.Call (.Attribute o name apos) (e :: es) [] cpos) (dBM T r to tr) := by
  obtain ⟨rv, m1, m2⟩ := hm.ex
  obtain ⟨to', o1, o2⟩ := ho.ex
  obtain ⟨ta', a1, a2⟩ := ha.ex
  exact ⟨_, pe_bm pa slot hty m1 o1 a1 hbase hfew hline hs hplain, LE.bm m2 o2 a2⟩
theorem de_bm0 {T id : String} {name : Str} {apos cpos : Pos} {r : DRm} (hm : DMt X H0 id r) (ho : De X H0 o to) (pa : PlainAttrs T) (slot : Slot T name id) (hty : typeOf (.builtin id) = pure (.type "method_descriptor"))
    (hbase : attributeBase o name X.env (eval o X.env) = eval o X.env := by rfl) (hline : (apos.endLine == cpos.line) = true := by rfl) :
    De X H0 (.Call (.Attribute o name apos) [] [] cpos) (dBM T r to dNil) := by
  obtain ⟨rv, m1, m2⟩ := hm.ex
  obtain ⟨to', o1, o2⟩ := ho.ex
  refine ⟨_, pe_bm0 pa slot hty m1 o1 hbase hline, fun σ τ H S Q R t0 rs st c hh => ?_⟩
  refine o2 σ τ H S _ _ t0 rs st ?_ hh
  intro v H1 x S1 t1 r1 st1 q1
  exact ⟨q1.1.v st1 r1, m2 v [] x [] H1 S1 Q R (t0.trans t1) r1 .nil st1 (c.later t1) q1.2⟩
/-! lists -/
def rApp : DRm
  | .ref a, [y], S, Q => ∃ ds, S a = some (.lst ds) ∧ ds.length < sizeLine ∧ Q .non (up S a (.lst (ds ++ [y])))
  | _, _, _, _ => False
theorem mutL {H : Hp} {a : Addr} {xs : List V} (h : H a = some (.lst xs)) : Mut (H a) := by rw [h]; trivial
theorem setLst {K : PySem.W.Frag} {H : Hp} {S : Sr} {a : Addr} {xs ys : List V} {ds es : List DV} (st : Sat K H S) (e : S a = some (.lst ds)) (f : H a = some (.lst xs)) (r : Rls K H ys es) : Tp H (upd H a (.lst ys)) ∧ Sat K (upd H a (.lst ys)) (up S a (.lst es)) :=
  ⟨.put (mutL f), st.set e trivial (mutL f) trivial fun _ => ⟨ys, upd_same, r.mono (.put (mutL f))⟩⟩
theorem m_append : DMt X H0 "list.append" rApp := by
  refine ⟨_, mt_append, fun v vs d ds H S Q R t0 p q st c h => ?_⟩
  cases p with
  | ref a =>
    cases q with
    | nil => exact h.elim
    | cons r rr =>
      cases rr with
      | nil =>
        obtain ⟨ds, e, hz, k⟩ := h
        obtain ⟨xs, f, rs⟩ := st.lst e
        obtain ⟨t1, s1⟩ := setLst st e f (rs.append (.cons r .nil))
        exact ⟨a, xs, _, rfl, rfl, f, by rw [rs.length]; exact hz, c _ _ _ _ t1 .non s1 k⟩
      | cons _ _ => exact h.elim
  | _ => cases q <;> exact h.elim
def rPopE : DRm
  | .ref a, [], S, Q => ∃ ds d, S a = some (.lst (ds ++ [d])) ∧ Q d (up S a (.lst ds))
  | _, _, _, _ => False
theorem m_pop : DMt X H0 "list.pop" rPopE := by
  refine ⟨_, mt_pop, fun v vs d ds H S Q R t0 p q st c h => ?_⟩
  cases p with
  | ref a =>
    cases q with
    | cons _ _ => exact h.elim
    | nil =>
      obtain ⟨ds, d, e, k⟩ := h
      obtain ⟨xs, f, rs⟩ := st.lst e
      have hl := rs.length
      rw [List.length_append, List.length_singleton] at hl
      obtain ⟨w, h1, h2⟩ := rs.get (i := ds.length) (d := d) (by simp)
      have hd := rs.dropLast
      rw [List.dropLast_concat] at hd
      obtain ⟨t1, s1⟩ := setLst st e f hd
      exact ⟨a, xs, w, rfl, rfl, f, by rw [hl]; exact h1, c _ _ _ _ t1 (h2.mono t1) s1 k⟩
  | _ => cases q <;> exact h.elim
def rPopA : DRm
  | .ref a, [.int i], S, Q => ∃ ds d, S a = some (.lst (d :: ds)) ∧ i = 0 ∧ Q d (up S a (.lst ds))
  | _, _, _, _ => False
theorem m_pop0 : DMt X H0 "list.pop" rPopA := by
  refine ⟨_, mt_popAt, fun v vs d ds H S Q R t0 p q st c h => ?_⟩
  cases p with
  | ref a =>
    cases q with
    | nil => exact h.elim
    | cons r rr =>
      cases rr with
      | nil =>
        cases r with
        | int i =>
          obtain ⟨ds, d, e, rfl, k⟩ := h
          obtain ⟨xs, f, rs⟩ := st.lst e
          obtain ⟨w, h1, h2⟩ := rs.get (i := 0) (d := d) rfl
          obtain ⟨t1, s1⟩ := setLst st e f (rs.eraseIdx 0)
          refine ⟨a, xs, 0, 0, w, rfl, rfl, f, by decide, by decide, ?_, h1, c _ _ _ _ t1 (h2.mono t1) s1 k⟩
          have hl := rs.length
          rw [List.length_cons] at hl
          unfold seqIndex?
          simp [hl]
        | _ => exact h.elim
      | cons _ _ => cases r <;> exact h.elim
  | _ =>
    cases q with
    | nil => exact h.elim
    | cons r rr => cases r <;> cases rr <;> exact h.elim
def rIns : DRm
  | .ref a, [.int i, y], S, Q => ∃ ds, S a = some (.lst ds) ∧ ds.length < sizeLine ∧ i = 0 ∧ Q .non (up S a (.lst (y :: ds)))
  | _, _, _, _ => False
theorem m_insert : DMt X H0 "list.insert" rIns := by
  refine ⟨_, mt_insert, fun v vs d ds H S Q R t0 p q st c h => ?_⟩
  cases p with
  | ref a =>
    cases q with
    | nil => exact h.elim
    | cons r rr =>
      cases rr with
      | nil => cases r <;> exact h.elim
      | cons r2 rr =>
        cases rr with
        | nil =>
          cases r with
          | int i =>
            obtain ⟨ds, e, hz, rfl, k⟩ := h
            obtain ⟨xs, f, rs⟩ := st.lst e
            obtain ⟨t1, s1⟩ := setLst st e f (.cons r2 rs)
            exact ⟨a, xs, 0, _, rfl, rfl, f, by rw [rs.length]; exact hz, by decide, by decide, c _ _ _ _ t1 .non s1 k⟩
          | _ => exact h.elim
        | cons _ _ => cases r <;> exact h.elim
  | _ =>
    cases q with
    | nil => exact h.elim
    | cons r rr => cases rr with
      | nil => cases r <;> exact h.elim
      | cons _ rr => cases rr <;> cases r <;> exact h.elim
def rExt2 : DRm
  | .ref a, [.ref b], S, Q => ∃ ds es, S a = some (.lst ds) ∧ S b = some (.lst es) ∧ ds.length + es.length ≤ sizeLine ∧ Q .non (up S a (.lst (ds ++ es)))
  | _, _, _, _ => False
theorem m_extend : DMt X H0 "list.extend" rExt2 := by
  refine ⟨_, mt_extend, fun v vs d ds H S Q R t0 p q st c h => ?_⟩
  cases p with
  | ref a =>
    cases q with
    | nil => exact h.elim
    | cons r rr =>
      cases rr with
      | nil =>
        cases r with
        | ref b =>
          obtain ⟨ds, es, e, e2, hz, k⟩ := h
          obtain ⟨xs, f, rs⟩ := st.lst e
          obtain ⟨ys, f2, rs2⟩ := st.lst e2
          obtain ⟨t1, s1⟩ := setLst st e f (rs.append rs2)
          exact ⟨a, b, xs, ys, rfl, rfl, f, f2, by rw [rs.length, rs2.length]; exact hz, c _ _ _ _ t1 .non s1 k⟩
        | _ => exact h.elim
      | cons _ _ => cases r <;> exact h.elim
  | _ =>
    cases q with
    | nil => exact h.elim
    | cons r rr => cases r <;> cases rr <;> exact h.elim
/-! texts -/
def rJoin : DRm
  | .str a, [x], S, Q => ∃ ys : List Str, lstOf S x (ys.map DV.str) ∧ (ys.map (·.length)).sum + ys.length * a.length ≤ 16777216 ∧ Q (.str (Txt.join a ys)) S
  | _, _, _, _ => False
theorem m_join : DMt X H0 "str.join" rJoin := by
  refine ⟨_, mt_join, fun v vs d ds H S Q R t0 p q st c h => ?_⟩
  cases p with
  | str z =>
    cases q with
    | nil => exact h.elim
    | cons r rr =>
      cases rr with
      | nil =>
        obtain ⟨ys, h, hz, k⟩ := h
        obtain ⟨a, ws, rfl, sq, rs⟩ := h.sq st r
        rw [rs.strs] at sq
        exact ⟨z, a, ys, rfl, rfl, .inl sq, hz, c.here (.str _) st k⟩
      | cons _ _ => exact h.elim
  | _ => cases q <;> exact h.elim
/-! ### d.get(k), d.get(k, x) -/
def isDk (S : Sr) (x : DV) : Prop := match x with
  | .ref a => ∃ kvs, S a = some (.dK kvs) ∨ ∃ kvs, S a = some (.dT kvs)
  | _ => False
def dGet1 (td ty : DE) : DE := fun σ S Q => td σ S fun x S1 => ∃ a, x = .ref a ∧ ((∃ kvs, S1 a = some (.dK kvs)) ∨ ∃ kvs, S1 a = some (.dT kvs)) ∧ ty σ S1 fun y S2 => ∃ r, dGet S2 a y r ∧ Q (r.getD .non) S2
def dGet2 (td ty tx : DE) : DE := fun σ S Q => td σ S fun x S1 => ∃ a, x = .ref a ∧ ((∃ kvs, S1 a = some (.dK kvs)) ∨ ∃ kvs, S1 a = some (.dT kvs)) ∧ ty σ S1 fun y S2 => tx σ S2 fun z S3 => ∃ r, dGet S3 a y r ∧ Q (r.getD z) S3
theorem isD_of {K : PySem.W.Frag} {H : Hp} {S : Sr} {a : Addr} (st : Sat K H S) (h : (∃ kvs, S a = some (.dK kvs)) ∨ ∃ kvs, S a = some (.dT kvs)) : IsD H a := by
  rcases h with ⟨kvs, h⟩ | ⟨kvs, h⟩
  · obtain ⟨xs, f, _⟩ := st.dK h; exact .inl ⟨xs, .inl f⟩
  · obtain ⟨xs, f, _⟩ := st.dT h; exact .inr ⟨xs, .inl f⟩
theorem de_get1 {apos cpos : Pos} (hu : X.A.units + 1 < cLine) (ho : De X H0 o to) (he : De X H0 e t) (m : M1 X o "get" apos e cpos := by exact ⟨rfl, rfl, rfl, rfl⟩) : De X H0 (.Call (.Attribute o "get" apos) [e] [] cpos) (dGet1 to t) := by
  obtain ⟨to', o1, o2⟩ := ho.ex
  obtain ⟨te', e1, e2⟩ := he.ex
  refine ⟨_, pe_dget1 hu o1 e1 m, fun σ τ H S Q R t0 rs st c hh => o2 σ τ H S _ _ t0 rs st ?_ hh⟩
  intro v H1 x S1 t1 r1 st1 q1
  obtain ⟨a, rfl, d, q1⟩ := q1
  cases r1
  refine ⟨a, rfl, isD_of st1 d, e2 σ τ H1 S1 _ _ (t0.trans t1) (rs.mono t1) st1 ?_ q1⟩
  intro u H2 y S2 t2 r2 st2 q2
  obtain ⟨r, g, q⟩ := q2
  obtain ⟨ow, st'⟩ := id st2
  rcases g.v st' r2 with ⟨rfl, g'⟩ | ⟨w, d, rfl, g', rw'⟩
  · exact ⟨_, g', c _ _ _ _ (t1.trans t2) .non st2 q⟩
  · exact ⟨_, g', c _ _ _ _ (t1.trans t2) rw' st2 q⟩
theorem de_get2 {apos cpos : Pos} (hu : X.A.units + 1 < cLine) (ho : De X H0 o to) (he : De X H0 e t) (hf : De X H0 f tb) (m : M2 X o "get" apos e f cpos := by exact ⟨rfl, rfl, rfl, rfl⟩) : De X H0 (.Call (.Attribute o "get" apos) [e, f] [] cpos) (dGet2 to t tb) := by
  obtain ⟨to', o1, o2⟩ := ho.ex
  obtain ⟨te', e1, e2⟩ := he.ex
  obtain ⟨tf', f1, f2⟩ := hf.ex
  refine ⟨_, pe_dget2 hu o1 e1 f1 m, fun σ τ H S Q R t0 rs st c hh => o2 σ τ H S _ _ t0 rs st ?_ hh⟩
  intro v H1 x S1 t1 r1 st1 q1
  obtain ⟨a, rfl, d, q1⟩ := q1
  cases r1
  refine ⟨a, rfl, isD_of st1 d, e2 σ τ H1 S1 _ _ (t0.trans t1) (rs.mono t1) st1 ?_ q1⟩
  intro u H2 y S2 t2 r2 st2 q2
  refine f2 σ τ H2 S2 _ _ ((t0.trans t1).trans t2) (rs.mono (t1.trans t2)) st2 ?_ q2
  intro w H3 z S3 t3 r3 st3 q3
  obtain ⟨r, g, q⟩ := q3
  obtain ⟨ow, st'⟩ := id st3
  rcases g.v st' (r2.mono t3) with ⟨rfl, g'⟩ | ⟨w', d, rfl, g', rw'⟩
  · exact ⟨_, g', c _ _ _ _ ((t1.trans t2).trans t3) r3 st3 q⟩
  · exact ⟨_, g', c _ _ _ _ ((t1.trans t2).trans t3) rw' st3 q⟩
/-! ### {} and {k: v, ..} -/
def dNewK : DE := fun _ S Q => ∀ p, S p = none → Q (.ref p) (up S p (.dK []))
def dNewT : DE := fun _ S Q => ∀ p, S p = none → Q (.ref p) (up S p (.dT []))
theorem de_newK : De X H0 (.Dict [] [] pos) dNewK :=
  ⟨_, pe_dnewK, fun σ τ H S Q R t0 rs st c h p hp => c _ _ _ _ (.new hp) (.ref p) (st.new (o := .dK []) hp trivial fun _ => ⟨[], upd_same, trivial⟩) (h p (st.free hp))⟩
theorem de_newT : De X H0 (.Dict [] [] pos) dNewT :=
  ⟨_, pe_dnewT, fun σ τ H S Q R t0 rs st c h p hp => c _ _ _ _ (.new hp) (.ref p) (st.new (o := .dT []) hp trivial fun _ => ⟨[], upd_same, trivial⟩) (h p (st.free hp))⟩
def dPairs : List (DE × DE) → DSt → Sr → (List (DV × DV) → Sr → Prop) → Prop
  | [], _, S, Q => Q [] S
  | (tk, tv) :: r, σ, S, Q => tk σ S fun x S1 => tv σ S1 fun y S2 => dPairs r σ S2 fun ps S3 => Q ((x, y) :: ps) S3
def RPs (K : PySem.W.Frag) (H : Hp) : List (V × V) → List (DV × DV) → Prop
  | [], [] => True
  | p :: r, q :: s => Rl K H p.1 q.1 ∧ Rl K H p.2 q.2 ∧ RPs K H r s
  | _, _ => False
theorem RPs.mono {K : PySem.W.Frag} {H H' : Hp} (t : Tp H H') : ∀ {ps qs}, RPs K H ps qs → RPs K H' ps qs
  | [], [], _ => trivial
  | _ :: _, _ :: _, h => ⟨h.1.mono t, h.2.1.mono t, RPs.mono t h.2.2⟩
  | [], _ :: _, h => h.elim
  | _ :: _, [], h => h.elim
structure Dps (X : Cx) (H0 : Hp) (pos : Pos) (keys : List (Option Expr)) (values : List Expr) (trs : List (DE × DE)) : Prop where
  ex : ∃ ts, PPs X pos keys values ts ∧ ∀ σ τ H S (Q : List (DV × DV) → Sr → Prop) (R : List (V × V) → Hp → Prop), Tp H0 H → RS X.K H σ τ → Sat X.K H S → (∀ ps H' qs S', Tp H H' → RPs X.K H' ps qs → Sat X.K H' S' → Q qs S' → R ps H') → dPairs trs τ S Q → tPairs ts σ H R
theorem dps_nil : Dps X H0 pos [] [] [] := ⟨_, pps_nil, fun _ _ H S _ _ _ _ st c h => c [] H [] S .refl trivial st h⟩
theorem dps_cons {k v : Expr} {ks : List (Option Expr)} {vs : List Expr} {tk tv : DE} {trs : List (DE × DE)} (hk : De X H0 k tk) (hv : De X H0 v tv) (hr : Dps X H0 pos ks vs trs) : Dps X H0 pos (some k :: ks) (v :: vs) ((tk, tv) :: trs) := by
  obtain ⟨tk', k1, k2⟩ := hk.ex
  obtain ⟨tv', v1, v2⟩ := hv.ex
  obtain ⟨ts, r1, r2⟩ := hr.ex
  refine ⟨_, pps_cons k1 v1 r1, fun σ τ H S Q R t0 rs st c h => k2 σ τ H S _ _ t0 rs st ?_ h⟩
  intro x H1 x' S1 t1 rx st1 q1
  refine v2 σ τ H1 S1 _ _ (t0.trans t1) (rs.mono t1) st1 ?_ q1
  intro y H2 y' S2 t2 ry st2 q2
  refine r2 σ τ H2 S2 _ _ ((t0.trans t1).trans t2) (rs.mono (t1.trans t2)) st2 ?_ q2
  intro ps H3 qs S3 t3 rp st3 q3
  exact c ((x, y) :: ps) H3 ((x', y') :: qs) S3 ((t1.trans t2).trans t3) ⟨rx.mono (t2.trans t3), ry.mono t3, rp⟩ st3 q3
def mergeD (kvs more : List (Key × DV)) : List (Key × DV) := more.foldl (fun acc kv => pD acc kv.1 kv.2) kvs
theorem Rps.merge {K : PySem.W.Frag} {H : Hp} : ∀ {ms : List (Key × V)} {ns : List (Key × DV)} {ps : List (Key × V)} {qs : List (Key × DV)}, Rps K H ms ns → Rps K H ps qs → Rps K H (mergeK ps ms) (mergeD qs ns)
  | [], [], _, _, _, h => h
  | (k, v) :: ms, (k', d) :: ns, ps, qs, h, h2 => by
    have e : k = k' := h.1
    subst e
    exact Rps.merge (ps := putK ps k v) (qs := pD qs k d) h.2.2 (h2.put k h.2.1)
  | [], _ :: _, _, _, h, _ => h.elim
  | _ :: _, [], _, _, h, _ => h.elim
theorem keysOf {K : PySem.W.Frag} {H : Hp} : ∀ {ps : List (V × V)} {kvs : List (Key × DV)}, RPs K H ps (kvs.map fun kv => (keyD kv.1, kv.2)) → ∃ ms : List (Key × V), ps = ms.map (fun kv => (kV kv.1, kv.2)) ∧ Rps K H ms kvs
  | [], [], _ => ⟨[], rfl, trivial⟩
  | (x, y) :: ps, (k, d) :: kvs, h => by
    rw [List.map_cons] at h
    obtain ⟨h1, h2, h3⟩ := h
    obtain ⟨ms, e, r⟩ := keysOf h3
    refine ⟨(k, y) :: ms, ?_, rfl, h2, r⟩
    have e1 : x = kV k := key_rl h1
    rw [List.map_cons, ← e, e1]
  | [], _ :: _, h => by rw [List.map_cons] at h; exact h.elim
  | _ :: _, [], h => by rw [List.map_nil] at h; exact h.elim
/-- the new dict stands (empty) while the pairs are made -/
def dDisp (trs : List (DE × DE)) : DE := fun σ S Q => ∀ p, S p = none → dPairs trs σ (up S p (.dK [])) fun ps S2 => S2 p = some (.dK []) ∧ ∃ kvs : List (Key × DV), ps = kvs.map (fun kv => (keyD kv.1, kv.2)) ∧ kvs.length ≤ 15 ∧ Q (.ref p) (up S2 p (.dK (mergeD [] kvs)))
theorem de_disp {keys : List (Option Expr)} {values : List Expr} {trs : List (DE × DE)} (h : Dps X H0 pos keys values trs) (hall : keys.all (·.isSome) = true := by rfl) (hl : keys.length = values.length := by rfl) (h0 : keys ≠ [] := by exact fun z => nomatch z) (h15 : keys.length ≤ 15 := by decide) :
    De X H0 (.Dict keys values pos) (dDisp trs) := by
  obtain ⟨ts, a1, a2⟩ := h.ex
  refine ⟨_, pe_disp a1 hall hl h0 h15, fun σ τ H S Q R t0 rs st c hh p hp => ?_⟩
  refine a2 σ τ _ _ _ _ (t0.trans (.new hp)) (rs.mono (.new hp)) (st.new (o := .dK []) hp trivial fun _ => ⟨[], upd_same, trivial⟩) ?_ (hh p (st.free hp))
  intro ps H2 qs S2 t2 rp st2 q2
  obtain ⟨e, kvs, rfl, h15, q⟩ := q2
  obtain ⟨xs, f, r0⟩ := st2.dK e
  have e0 : xs = [] := by cases xs with
    | nil => rfl
    | cons _ _ => exact r0.elim
  subst e0
  obtain ⟨ms, rfl, r⟩ := keysOf rp
  have mu : Mut (H2 p) := by rw [f]; trivial
  exact ⟨f, ms, rfl, by rw [r.length]; exact h15, c _ _ _ _ (((Tp.new hp).trans t2).trans (.put mu)) (.ref p) (st2.set (o := .dK (mergeD [] kvs)) e trivial mu trivial fun _ => ⟨_, upd_same, (Rps.merge (ps := []) (qs := []) r trivial).mono (.put mu)⟩) q⟩
end
end Dv
set_option Elab.async false
set_option linter.all false
set_option maxRecDepth 100000
set_option maxHeartbeats 1000000
namespace Dv
open PySem PySem.Spec PyProof.Rows L2

section
variable {X : Cx} {H0 : Hp} {a b c e o f : Expr} {ta tb tc t to : DE} {pos : Pos} {es : List Expr} {tr : DA} {st : Stmt} {rest : List Stmt} {ts us : DS}
/-! ### blocks and statements -/
def sNext : DS := fun D σ S => D.nx σ S
def sSeq (t u : DS) : DS := fun D σ S => t { D with nx := u D } σ S
theorem dss_nil : Dss X H0 [] sNext := ⟨_, pss_nil, fun σ τ H S D' D t0 rs st c h => c.nx σ τ H S .refl rs st h⟩
theorem ls_seq {K : PySem.W.Frag} {t1 t2 : TS} {u1 u2 : DS} (h1 : LS K H0 t1 u1) (h2 : LS K H0 t2 u2) : LS K H0 (tSeq t1 t2) (sSeq u1 u2) := by
  intro σ τ H S D' D t0 rs st c h
  refine h1 σ τ H S { D' with nx := u2 D' } { D with nx := t2 D } t0 rs st ⟨?_, c.rt, c.bk, c.ct⟩ h
  intro σ' τ' H' S' t' rs' st' q
  exact h2 σ' τ' H' S' D' D (t0.trans t') rs' st' (c.later t') q
theorem dss_cons (h1 : Ds X H0 st ts) (h2 : Dss X H0 rest us) : Dss X H0 (st :: rest) (sSeq ts us) := by
  obtain ⟨t1, a1, a2⟩ := h1.ex
  obtain ⟨t2, b1, b2⟩ := h2.ex
  exact ⟨_, pss_cons a1 b1, ls_seq a2 b2⟩
theorem dss_one (h1 : Ds X H0 st ts) : Dss X H0 [st] ts := let ⟨_, a, b⟩ := h1.ex; ⟨_, pss_one a, b⟩
def sBreak : DS := fun D σ S => D.bk σ S
def sCont : DS := fun D σ S => D.ct σ S
theorem ds_pass : Ds X H0 (.Pass pos) sNext := ⟨_, ps_pass, fun σ τ H S D' D t0 rs st c h => c.nx σ τ H S .refl rs st h⟩
theorem ds_break : Ds X H0 (.Break pos) sBreak := ⟨_, ps_break, fun σ τ H S D' D t0 rs st c h => c.bk σ τ H S .refl rs st h⟩
theorem ds_continue : Ds X H0 (.Continue pos) sCont := ⟨_, ps_continue, fun σ τ H S D' D t0 rs st c h => c.ct σ τ H S .refl rs st h⟩
def sDrop (t : DE) : DS := fun D σ S => t σ S fun _ S1 => D.nx σ S1
theorem ds_expr (he : De X H0 e t) (hs : swapsWith e none pos.line X.env = pure false := by rfl) : Ds X H0 (.Expr e pos) (sDrop t) := by
  obtain ⟨te, a1, a2⟩ := he.ex
  refine ⟨_, ps_expr a1 hs, fun σ τ H S D' D t0 rs st c h => a2 σ τ H S _ _ t0 rs st ?_ h⟩
  intro v H1 x S1 t1 r1 st1 h1
  exact c.nx _ _ _ _ t1 (rs.mono t1) st1 h1
def sRet (t : DE) : DS := fun D σ S => t σ S D.rt
theorem ds_ret (he : De X H0 e t) : Ds X H0 (.Return (some e) pos) (sRet t) := by
  obtain ⟨te, a1, a2⟩ := he.ex
  exact ⟨_, ps_ret a1, fun σ τ H S D' D t0 rs st c h => a2 σ τ H S _ _ t0 rs st c.rt h⟩
def sRetN : DS := fun D _ S => D.rt .non S
theorem ds_retN : Ds X H0 (.Return none pos) sRetN := ⟨_, ps_retN, fun σ τ H S D' D t0 rs st c h => c.rt.here .non st h⟩
def sIf (c : DT) (t u : DS) : DS := fun D σ S => c σ S fun k S1 => br k (t D σ S1) (u D σ S1)
theorem ds_if {q : Expr} {aa bb : List Stmt} {tq : DT} (hq : Dt X H0 q tq) (ha : Dss X H0 aa ts) (hb : Dss X H0 bb us) : Ds X H0 (.If q aa bb pos) (sIf tq ts us) := by
  obtain ⟨q', q1, q2⟩ := hq.ex
  obtain ⟨a', a1, a2⟩ := ha.ex
  obtain ⟨b', b1, b2⟩ := hb.ex
  refine ⟨_, ps_if q1 a1 b1, fun σ τ H S D' D t0 rs st c h => q2 σ τ H S _ _ t0 rs st ?_ h⟩
  intro k H1 S1 t1 st1 h1
  cases k with
  | true => rw [if_pos rfl]; exact a2 σ τ H1 S1 D' D (t0.trans t1) (rs.mono t1) st1 (c.later t1) h1
  | false => rw [if_neg Bool.false_ne_true]; exact b2 σ τ H1 S1 D' D (t0.trans t1) (rs.mono t1) st1 (c.later t1) h1
def sNever : DS := fun _ _ _ => False
theorem ds_never : Ds X H0 st sNever := ⟨_, ps_never, fun _ _ _ _ _ _ _ _ _ _ h => h.elim⟩
theorem dss_never {sts : List Stmt} : Dss X H0 sts sNever := ⟨_, pss_never, fun _ _ _ _ _ _ _ _ _ _ h => h.elim⟩
/-! ### targets -/
abbrev DG := DV → DSt → Sr → (DSt → Sr → Prop) → Prop
abbrev DGs := List DV → DSt → Sr → (DSt → Sr → Prop) → Prop
def ContG (K : PySem.W.Frag) (H : Hp) (Q : DSt → Sr → Prop) (R : L2.St → Hp → Prop) : Prop := ∀ σ τ H' S', Tp H H' → RS K H' σ τ → Sat K H' S' → Q τ S' → R σ H'
def LG (K : PySem.W.Frag) (H0 : Hp) (g : TG) (g' : DG) : Prop := ∀ v d σ τ H S (Q : DSt → Sr → Prop) (R : L2.St → Hp → Prop), Tp H0 H → Rl K H v d → RS K H σ τ → Sat K H S → ContG K H Q R → g' d τ S Q → g v σ H R
def LGs (K : PySem.W.Frag) (H0 : Hp) (g : TGs) (g' : DGs) : Prop := ∀ vs ds σ τ H S (Q : DSt → Sr → Prop) (R : L2.St → Hp → Prop), Tp H0 H → Rls K H vs ds → RS K H σ τ → Sat K H S → ContG K H Q R → g' ds τ S Q → g vs σ H R
structure Dg (X : Cx) (H0 : Hp) (tg : Expr) (g : DG) : Prop where
  ex : ∃ g', PG X tg g' ∧ LG X.K H0 g' g
structure Dgs (X : Cx) (H0 : Hp) (tgs : List Expr) (g : DGs) : Prop where
  ex : ∃ g', PGs X tgs g' ∧ LGs X.K H0 g' g
def nName (i : Nat) : DG := fun d σ S Q => Q (setS σ i d) S
theorem lg_name {K : PySem.W.Frag} (i : Nat) : LG K H0 (gName i) (nName i) := fun v d σ τ H S Q R t0 r rs st c h => c _ _ _ _ .refl (rs.set i r) st h
theorem dg_name {i : Nat} {x : Str} (hN : X.N.Nodup) (hi : X.N[i]? = some x := by rfl) (hx : Loc X.env.scope x := by first | exact Or.inl rfl | exact Or.inr rfl) (hf : X.fn x = true ∨ X.env.scope.names.lookup x = some .local := by first | exact .inl rfl | exact .inr rfl) : Dg X H0 (.Name x pos) (nName i) :=
  ⟨_, pg_name hN hi hx hf, lg_name i⟩
def nNil : DGs := fun ds σ S Q => match ds with
  | [] => Q σ S
  | _ => False
def nCons (t : DG) (u : DGs) : DGs := fun ds σ S Q => match ds with
  | d :: r => t d σ S fun σ' S' => u r σ' S' Q
  | [] => False
theorem dgs_nil : Dgs X H0 [] nNil := by
  refine ⟨_, pgs_nil, fun vs ds σ τ H S Q R t0 r rs st c h => ?_⟩
  cases r with
  | nil => exact ⟨rfl, c _ _ _ _ .refl rs st h⟩
  | cons _ _ => exact h.elim
theorem dgs_cons {es : List Expr} {g : DG} {gs : DGs} (h1 : Dg X H0 e g) (h2 : Dgs X H0 es gs) (hs : (assignEach (e :: es) X.env).map (·.2) = assign e X.env :: (assignEach es X.env).map (·.2) := by rfl) : Dgs X H0 (e :: es) (nCons g gs) := by
  obtain ⟨g1, a1, a2⟩ := h1.ex
  obtain ⟨g2, b1, b2⟩ := h2.ex
  refine ⟨_, pgs_cons a1 b1 hs, fun vs ds σ τ H S Q R t0 r rs st c h => ?_⟩
  cases r with
  | nil => exact h.elim
  | cons r rr =>
    refine ⟨_, _, rfl, a2 _ _ σ τ H S _ _ t0 r rs st ?_ h⟩
    intro σ1 τ1 H1 S1 t1 rs1 st1 q1
    exact b2 _ _ σ1 τ1 H1 S1 Q R (t0.trans t1) (rr.mono t1) rs1 st1 (fun σ' τ' H' S' t' => c σ' τ' H' S' (t1.trans t')) q1
/-- (a, b, ..) of a tuple, or a list, of as many -/
def nTup (n : Nat) (g : DGs) : DG := fun d σ S Q => match d with
  | .tup ds => ds.length = n ∧ g ds σ S Q
  | _ => False
theorem dg_tup {es : List Expr} {k : Nat} {g : DGs} {n : Nat} (h : Dgs X H0 es g) (hc : X.calm = true := by rfl)
    (hn : (assignEach es X.env).length = n := by rfl) (hst : (assignEach es X.env).findIdx? (·.1) = none := by rfl) : Dg X H0 (.Tuple es k pos) (nTup n g) := by
  obtain ⟨g', a1, a2⟩ := h.ex
  refine ⟨_, pg_tup hc a1 hn hst, fun v d σ τ H S Q R t0 r rs st c h => ?_⟩
  cases r with
  | tup s r => exact ⟨_, _, rfl, .of s, by rw [r.length]; exact h.1, a2 _ _ σ τ H S Q R t0 r rs st c h.2⟩
  | _ => exact h.elim
/-! o[i] = v: of a list, of a dict -/
abbrev DSet := DV → DV → DV → Sr → (Sr → Prop) → Prop
theorem set_dict (hu : X.A.units + 1 < cLine) : PSet X (fun o i v H Q => ∃ a H', o = .ref a ∧ DPut H a i v H' ∧ Q H') := by
  intro pins s σ H o i v ov iv u Q I ro ri rv h
  obtain ⟨a, H', rfl, g, q⟩ := h
  obtain rfl : ov = Value.ref a := ro
  exact d_setItem hu I g ri rv fun s4 I4 => ⟨H', I4, q⟩
theorem PSet.or {r r' : TSet} (h : PSet X r) (h' : PSet X r') : PSet X (fun o i v H Q => r o i v H Q ∨ r' o i v H Q) :=
  fun pins s σ H o i v ov iv u Q I ro ri rv z => z.elim (h pins s σ H o i v ov iv u Q I ro ri rv) (h' pins s σ H o i v ov iv u Q I ro ri rv)
/-- where the store goes, and what it is then -/
inductive putP (S : Sr) (a : Addr) (y v : DV) : Sr → Prop
  | lst {xs : List DV} {i : Int} {j : Nat} : y = .int i → S a = some (.lst xs) → ixN xs.length i = some j → putP S a y v (up S a (.lst (xs.set j v)))
  | dK {kvs : List (Key × DV)} {k : Key} : y = keyD k → S a = some (.dK kvs) → kvs.length < sizeLine → putP S a y v (up S a (.dK (pD kvs k v)))
  | dT {kvs : List (List Key × DV)} {ks : List Key} : y = .tup (ks.map keyD) → S a = some (.dT kvs) → kvs.length < sizeLine → putP S a y v (up S a (.dT (pD kvs ks v)))
def rPut : DSet := fun o i v S Q => ∃ a S', o = .ref a ∧ putP S a i v S' ∧ Q S'
def nSub (to ti : DE) : DG := fun d σ S Q => to σ S fun o S1 => ti σ S1 fun i S2 => rPut o i d S2 fun S3 => Q σ S3
theorem dg_sub {i : Expr} {ti : DE} (hu : X.A.units + 1 < cLine) (ho : De X H0 o to) (hi : De X H0 i ti)
    (ha : ∀ v, assign (.Subscript o i pos) X.env v = (do
      let ov ← holding [v] (eval o X.env)
      let iv ← holding [v, ov] (eval i X.env)
      standAt pos
      holding [v, ov, iv] (setItem ov iv v)
      release [v, ov, iv] []) := by intro _; rfl) : Dg X H0 (.Subscript o i pos) (nSub to ti) := by
  obtain ⟨to', o1, o2⟩ := ho.ex
  obtain ⟨ti', i1, i2⟩ := hi.ex
  refine ⟨_, pg_sub o1 i1 (PSet.or set_list (set_dict hu)) ha, fun v d σ τ H S Q R t0 r rs st c h => o2 σ τ H S _ _ t0 rs st ?_ h⟩
  intro u H1 x S1 t1 r1 st1 q1
  refine i2 σ τ H1 S1 _ _ (t0.trans t1) (rs.mono t1) st1 ?_ q1
  intro w H2 y S2 t2 r2 st2 q2
  obtain ⟨p, S', rfl, g, q⟩ := q2
  cases r1
  have tt := t1.trans t2
  have r' := r.mono tt
  cases g with
  | lst e1 e2 e3 =>
    subst e1
    cases r2
    obtain ⟨xs, f, rr⟩ := st2.lst e2
    obtain ⟨t3, s3⟩ := setLst st2 e2 f (rr.set _ r')
    exact .inl ⟨p, xs, _, _, rfl, rfl, f, by rw [rr.length]; exact e3, c _ _ _ _ (tt.trans t3) (rs.mono (tt.trans t3)) s3 q⟩
  | @dK kvs k e1 e2 e3 =>
    subst e1
    obtain ⟨xs, f, rr⟩ := st2.dK e2
    have mu : Mut (H2 p) := by rw [f]; trivial
    have s3 : Sat X.K (upd H2 p (.dK (putK xs k v))) (up S2 p (.dK (pD kvs k d))) := st2.set (o := .dK (pD kvs k d)) e2 trivial mu trivial fun _ => ⟨_, upd_same, (rr.put k r').mono (.put mu)⟩
    rw [key_rl r2]
    exact .inr ⟨p, _, rfl, .inl ⟨xs, k, f, rfl, by rw [rr.length]; exact e3, rfl⟩, c _ _ _ _ (tt.trans (.put mu)) (rs.mono (tt.trans (.put mu))) s3 q⟩
  | @dT kvs ks e1 e2 e3 =>
    subst e1
    obtain ⟨xs, f, rr⟩ := st2.dT e2
    have mu : Mut (H2 p) := by rw [f]; trivial
    have s3 : Sat X.K (upd H2 p (.dT (putK xs ks v))) (up S2 p (.dT (pD kvs ks d))) := st2.set (o := .dT (pD kvs ks d)) e2 trivial mu trivial fun _ => ⟨_, upd_same, (rr.put ks r').mono (.put mu)⟩
    cases r2 with
    | tup s2 rs2 =>
      rw [keys_rl rs2] at s2
      exact .inr ⟨p, _, rfl, .inr ⟨xs, ks, _, f, rfl, s2, by rw [rr.length]; exact e3, rfl⟩, c _ _ _ _ (tt.trans (.put mu)) (rs.mono (tt.trans (.put mu))) s3 q⟩
/-! assignments -/
def sAsg (t : DE) (g : DG) : DS := fun D σ S => t σ S fun x S1 => g x σ S1 D.nx
theorem ls_asg {K : PySem.W.Frag} {te : TE} {g : TG} {g' : DG} (h1 : LE K H0 te t) (h2 : LG K H0 g g') : LS K H0 (tAsg te g) (sAsg t g') := by
  intro σ τ H S D' D t0 rs st c h
  refine h1 σ τ H S _ _ t0 rs st ?_ h
  intro v H1 x S1 t1 r1 st1 q1
  exact h2 v x σ τ H1 S1 D'.nx D.nx (t0.trans t1) r1 (rs.mono t1) st1 (fun σ' τ' H' S' t' => c.nx σ' τ' H' S' (t1.trans t')) q1
theorem ds_set {i : Nat} {x : Str} {pos' : Pos} (he : De X H0 e t) (hN : X.N.Nodup) (hi : X.N[i]? = some x := by rfl) (hx : Loc X.env.scope x := by first | exact Or.inl rfl | exact Or.inr rfl) (hs : swapsWith e (some (.Name x pos')) pos.line X.env = pure false := by rfl)
    (hf : X.fn x = true ∨ X.env.scope.names.lookup x = some .local := by first | exact .inl rfl | exact .inr rfl) : Ds X H0 (.Assign [.Name x pos'] e pos) (sAsg t (nName i)) := by
  obtain ⟨te, a1, a2⟩ := he.ex
  exact ⟨_, ps_set hN hi hx a1 hs hf, ls_asg a2 (lg_name i)⟩
theorem ds_asg {tg : Expr} {g : DG} (he : De X H0 e t) (hg : Dg X H0 tg g) (hs : swapsWithSole [tg] e pos.line X.env = pure false := by rfl) (hw : swappedStores [tg] e X.env = pure none := by rfl)
    (h1 : (assignEach [tg] X.env).map (·.2) = [assign tg X.env] := by rfl) : Ds X H0 (.Assign [tg] e pos) (sAsg t g) := by
  obtain ⟨te, a1, a2⟩ := he.ex
  obtain ⟨g', b1, b2⟩ := hg.ex
  exact ⟨_, ps_asg a1 b1 hs hw h1, ls_asg a2 b2⟩
/-- name += e, ints -/
def sAug (i : Nat) (t : DE) (r : DR2) : DS := fun D σ S => match slot σ i with
  | some x => t σ S fun y S1 => r x y S1 fun z S2 => D.nx (setS σ i z) S2
  | none => False
theorem ds_aug {i : Nat} {x : Str} {pos' : Pos} {op : Operator} {g : Int → Int → Int} (ho : PIp X op (ipI g)) (he : De X H0 e t) (hN : X.N.Nodup) (hi : X.N[i]? = some x := by rfl) (hx : Loc X.env.scope x := by first | exact Or.inl rfl | exact Or.inr rfl)
    (hf : X.fn x = true ∨ X.env.scope.names.lookup x = some .local := by first | exact .inl rfl | exact .inr rfl) : Ds X H0 (.AugAssign (.Name x pos') op e pos) (sAug i t (rInt0 fun i j => .int (g i j))) := by
  obtain ⟨te, a1, a2⟩ := he.ex
  refine ⟨_, ps_aug hN hi hx a1 ho hf, fun σ τ H S D' D t0 rs st c h => ?_⟩
  unfold sAug at h
  cases q : slot τ i with
  | none => rw [q] at h; exact h.elim
  | some d =>
    rw [q] at h
    obtain ⟨v, e1, r⟩ := rs.2 i d q
    refine ⟨v, e1, a2 σ τ H S _ _ t0 rs st ?_ h⟩
    intro w H1 y S1 t1 r1 st1 h1
    cases r with
    | int m =>
      cases r1 with
      | int n => exact ⟨m, n, rfl, rfl, c.nx _ _ _ _ t1 ((rs.mono t1).set i (.int _)) st1 h1⟩
      | _ => exact h1.elim
    | _ => cases r1 <;> exact h1.elim
/-! ### while -/
def sWhile (c : DT) (tb : DS) : DS := fun D σ S => ∃ W : Nat → DSt → Sr → Prop, (∃ m, W m σ S) ∧ ∀ m σ S, W m σ S →
  c σ S fun k S1 => br k (∃ N : DSt → Sr → Prop, (∀ σ' S', N σ' S' → ∃ m', m' < m ∧ W m' σ' S') ∧ tb { nx := N, rt := D.rt, ct := N, bk := D.nx } σ S1) (D.nx σ S1)
theorem ls_while {K : PySem.W.Frag} {tc : TT} {tb : TS} {c' : DT} {tb' : DS} (h1 : LT K H0 tc c') (h2 : LS K H0 tb tb') : LS K H0 (tWhile tc tb) (sWhile c' tb') := by
  intro σ τ H S D' D t0 rs st c h
  obtain ⟨W, ⟨m0, w0⟩, turn⟩ := h
  refine ⟨fun m σ1 H1 => ∃ τ1 S1, Tp H H1 ∧ RS K H1 σ1 τ1 ∧ Sat K H1 S1 ∧ W m τ1 S1, ⟨m0, τ, S, .refl, rs, st, w0⟩, ?_⟩
  rintro m σ1 H1 ⟨τ1, S1, t1, rs1, st1, w1⟩
  refine h1 σ1 τ1 H1 S1 _ _ (t0.trans t1) rs1 st1 ?_ (turn m τ1 S1 w1)
  intro k H2 S2 t2 st2 q2
  have t12 := t1.trans t2
  cases k with
  | true =>
    rw [if_pos rfl]
    obtain ⟨N, hN, q⟩ := q2
    refine ⟨fun σ3 H3 => ∃ τ3 S3, Tp H H3 ∧ RS K H3 σ3 τ3 ∧ Sat K H3 S3 ∧ N τ3 S3, ?_, ?_⟩
    · rintro σ3 H3 ⟨τ3, S3, t3, rs3, st3, n3⟩
      obtain ⟨m', hm, w'⟩ := hN τ3 S3 n3
      exact ⟨m', hm, τ3, S3, t3, rs3, st3, w'⟩
    · refine h2 σ1 τ1 H2 S2 { nx := N, rt := D'.rt, ct := N, bk := D'.nx } _ (t0.trans t12) (rs1.mono t2) st2 ⟨?_, c.rt.later t12, ?_, ?_⟩ q
      · exact fun σ' τ' H' S' t' r' s' n' => ⟨τ', S', t12.trans t', r', s', n'⟩
      · exact fun σ' τ' H' S' t' r' s' n' => c.nx σ' τ' H' S' (t12.trans t') r' s' n'
      · exact fun σ' τ' H' S' t' r' s' n' => ⟨τ', S', t12.trans t', r', s', n'⟩
  | false =>
    rw [if_neg Bool.false_ne_true]
    exact c.nx _ _ _ _ t12 (rs1.mono t2) st2 q2
theorem ds_while {q : Expr} {body : List Stmt} {tq : DT} {tb : DS} (hp : PassesOwn (model X.prog X.w) X.A X.env X.xe) (hq : Dt X H0 q tq) (hb : Dss X H0 body tb) : Ds X H0 (.While q body [] pos) (sWhile tq tb) := by
  obtain ⟨q', q1, q2⟩ := hq.ex
  obtain ⟨b', b1, b2⟩ := hb.ex
  exact ⟨_, ps_while hp q1 b1, ls_while q2 b2⟩
/-! ### what a loop walks -/
structure Dit where
  go : Nat → Sr → Prop
  yld : Nat → Sr → DV → Prop
  stop : Nat → Sr → Prop
def LIt (K : PySem.W.Frag) (Hb : Hp) (J : It) (J' : Dit) : Prop :=
  (∀ i H S, Tp Hb H → Sat K H S → J'.go i S → J.go i H) ∧ (∀ i H S, Tp Hb H → Sat K H S → J'.stop i S → J.stop i H) ∧
  ∀ i H S x H', Tp Hb H → Sat K H S → J'.go i S → J.yld i H x H' → ∃ d, Tp H H' ∧ Rl K H' x d ∧ Sat K H' S ∧ J'.yld i S d
abbrev DI := DSt → Sr → (Dit → Sr → Prop) → Prop
def LI (K : PySem.W.Frag) (H0 : Hp) (wi : TI) (wi' : DI) : Prop := ∀ σ τ H S (Q : Dit → Sr → Prop) (R : It → Hp → Prop), Tp H0 H → RS K H σ τ → Sat K H S →
  (∀ J H' J' S', Tp H H' → Sat K H' S' → LIt K H' J J' → Q J' S' → R J H') → wi' τ S Q → wi σ H R
structure Di (X : Cx) (H0 : Hp) (tg iter : Expr) (wi : DI) : Prop where
  ex : ∃ w, PI X tg iter w ∧ LI X.K H0 w wi
def sFor (wi : DI) (g : DG) (tb : DS) : DS := fun D σ S => wi σ S fun J S1 => ∃ W : Nat → Nat → DSt → Sr → Prop, (∃ m, W 0 m σ S1) ∧ ∀ i m σ S, W i m σ S →
  (J.stop i S ∧ D.nx σ S) ∨ (J.go i S ∧ ∃ N : DSt → Sr → Prop, (∀ σ' S', N σ' S' → ∃ m', m' < m ∧ W (i + 1) m' σ' S') ∧ ∀ x, J.yld i S x → g x σ S fun σ2 S2 => tb { nx := N, rt := D.rt, ct := N, bk := D.nx } σ2 S2)
theorem ls_for {K : PySem.W.Frag} {wi : TI} {g : TG} {tb : TS} {wi' : DI} {g' : DG} {tb' : DS} (h1 : LI K H0 wi wi') (h2 : LG K H0 g g') (h3 : LS K H0 tb tb') : LS K H0 (tFor wi g tb) (sFor wi' g' tb') := by
  intro σ τ H S D' D t0 rs st c h
  refine h1 σ τ H S _ _ t0 rs st ?_ h
  intro J Ha J' Sa ta sta LJ q
  obtain ⟨W, ⟨m0, w0⟩, turn⟩ := q
  refine ⟨fun i m σ1 H1 => ∃ τ1 S1, Tp Ha H1 ∧ RS K H1 σ1 τ1 ∧ Sat K H1 S1 ∧ W i m τ1 S1, ⟨m0, τ, Sa, .refl, rs.mono ta, sta, w0⟩, ?_⟩
  rintro i m σ1 H1 ⟨τ1, S1, ta1, rs1, st1, w1⟩
  have t1 := ta.trans ta1
  rcases turn i m τ1 S1 w1 with ⟨hs, q⟩ | ⟨hg, N, hN, step⟩
  · exact .inl ⟨LJ.2.1 i H1 S1 ta1 st1 hs, c.nx _ _ _ _ t1 rs1 st1 q⟩
  · refine .inr ⟨LJ.1 i H1 S1 ta1 st1 hg, fun σ3 H3 => ∃ τ3 S3, Tp Ha H3 ∧ RS K H3 σ3 τ3 ∧ Sat K H3 S3 ∧ N τ3 S3, ?_, ?_⟩
    · rintro σ3 H3 ⟨τ3, S3, t3, rs3, st3, n3⟩
      obtain ⟨m', hm, w'⟩ := hN τ3 S3 n3
      exact ⟨m', hm, τ3, S3, t3, rs3, st3, w'⟩
    · intro x H2 y
      obtain ⟨d, t2, r2, st2, y'⟩ := LJ.2.2 i H1 S1 x H2 ta1 st1 hg y
      have t12 := t1.trans t2
      refine h2 x d σ1 τ1 H2 S1 _ _ (t0.trans t12) r2 (rs1.mono t2) st2 ?_ (step d y')
      intro σ4 τ4 H4 S4 t4 rs4 st4 q4
      have t14 := t12.trans t4
      refine h3 σ4 τ4 H4 S4 { nx := N, rt := D'.rt, ct := N, bk := D'.nx } _ (t0.trans t14) rs4 st4 ⟨?_, c.rt.later t14, ?_, ?_⟩ q4
      · exact fun σ' τ' H' S' t' r' s' n' => ⟨τ', S', ((ta1.trans t2).trans t4).trans t', r', s', n'⟩
      · exact fun σ' τ' H' S' t' r' s' n' => c.nx σ' τ' H' S' (t14.trans t') r' s' n'
      · exact fun σ' τ' H' S' t' r' s' n' => ⟨τ', S', ((ta1.trans t2).trans t4).trans t', r', s', n'⟩
theorem ds_for {tg iter : Expr} {body : List Stmt} {wi : DI} {g : DG} {tb : DS} (hp : PassesOwn (model X.prog X.w) X.A X.env X.xe) (hi : Di X H0 tg iter wi) (hg : Dg X H0 tg g) (hb : Dss X H0 body tb) (hc : X.calm = true := by rfl)
    (hs : ∀ x, foldedSetIterable iter X.env x = pure x := by intro _; rfl) : Ds X H0 (.For tg iter body [] pos) (sFor wi g tb) := by
  obtain ⟨i', i1, i2⟩ := hi.ex
  obtain ⟨g', g1, g2⟩ := hg.ex
  obtain ⟨b', b1, b2⟩ := hb.ex
  exact ⟨_, ps_for hp hc i1 g1 b1 hs, ls_for i2 g2 b2⟩
/-! the walks -/
/-- a list's items -/
def jL (x : DV) : Dit := ⟨fun i S => ∃ xs d, lstOf S x xs ∧ xs[i]? = some d, fun i S d => ∀ xs, lstOf S x xs → xs[i]? = some d, fun i S => ∃ xs, lstOf S x xs ∧ xs.length ≤ i⟩
theorem lstOf.inj {S : Sr} {x : DV} {xs ys : List DV} (h : lstOf S x xs) (h' : lstOf S x ys) : xs = ys := by
  cases x with
  | ref a =>
    have e : S a = some (.lst xs) := h
    rw [show S a = some (.lst ys) from h'] at e
    cases e; rfl
  | scr ns => exact Eq.trans (show xs = _ from h) (show ys = _ from h').symm
  | _ => exact h.elim
def iL (te : DE) : DI := fun σ S Q => te σ S fun x S1 => (∃ xs, lstOf S1 x xs) ∧ Q (jL x) S1
theorem lstOf.at {K : PySem.W.Frag} {H : Hp} {S : Sr} {a : Addr} {x : DV} {xs : List DV} (h : lstOf S x xs) (st : Sat K H S) (r : Rl K H (.ref a) x) : ∃ vs, SqL K H a vs ∧ Rls K H vs xs := by
  obtain ⟨b, vs, e, q, r⟩ := h.sq st r
  cases e
  exact ⟨vs, q, r⟩
theorem lit_list {K : PySem.W.Frag} {H1 : Hp} {a : Addr} {x : DV} (r1 : Rl K H1 (.ref a) x) : LIt K H1 (Itl K a) (jL x) := by
  refine ⟨fun i H S t st g => ?_, fun i H S t st g => ?_, fun i H S v H' t st g y => ?_⟩
  · obtain ⟨xs, d, l, e⟩ := g
    obtain ⟨vs, q, rs⟩ := l.at st (r1.mono t)
    obtain ⟨w, e', _⟩ := rs.get e
    exact ⟨vs, w, q, e'⟩
  · obtain ⟨xs, l, e⟩ := g
    obtain ⟨vs, q, rs⟩ := l.at st (r1.mono t)
    exact ⟨vs, q, by rw [rs.length]; exact e⟩
  · obtain ⟨xs, d, l, e⟩ := g
    obtain ⟨vs, q, rs⟩ := l.at st (r1.mono t)
    obtain ⟨w, e', rw'⟩ := rs.get e
    obtain ⟨rfl, y⟩ := y
    have e2 := y vs q
    rw [e'] at e2
    cases e2
    exact ⟨d, .refl, rw', st, fun ys ly => by rw [← l.inj ly]; exact e⟩
theorem li_list {K : PySem.W.Frag} {te : TE} (h : LE K H0 te t) : LI K H0 (iList K te) (iL t) := by
  intro σ τ H S Q R t0 rs st c hh
  refine h σ τ H S _ _ t0 rs st ?_ hh
  intro v H1 x S1 t1 r1 st1 q1
  obtain ⟨⟨xs, hx⟩, q⟩ := q1
  obtain ⟨a, ws, rfl, sq, _⟩ := hx.sq st1 r1
  exact ⟨a, rfl, ⟨_, sq⟩, c _ _ _ _ t1 st1 (lit_list r1) q⟩
theorem di_list {tg iter : Expr} (h : De X H0 iter t) : Di X H0 tg iter (iL t) := let ⟨_, a, b⟩ := h.ex; ⟨_, pi_list a, li_list b⟩
/-- a tuple's items -/
def jT (ds : List DV) : Dit := ⟨fun i _ => i < ds.length, fun i _ d => ds[i]? = some d, fun i _ => ds.length ≤ i⟩
def iT (te : DE) : DI := fun σ S Q => te σ S fun x S1 => match x with
  | .tup ds => Q (jT ds) S1
  | _ => False
theorem li_tup {K : PySem.W.Frag} {te : TE} (h : LE K H0 te t) : LI K H0 (iTup K te) (iT t) := by
  intro σ τ H S Q R t0 rs st c hh
  refine h σ τ H S _ _ t0 rs st ?_ hh
  intro v H1 x S1 t1 r1 st1 q
  cases r1 with
  | @tup a vs ds s r =>
    refine ⟨a, rfl, ⟨_, .of s⟩, c _ _ _ _ t1 st1 ⟨fun i H S t st g => ?_, fun i H S t st g => ?_, fun i H S v H' t st g y => ?_⟩ q⟩
    · have g : i < ds.length := g
      obtain ⟨w, e, _⟩ := r.get (i := i) (List.getElem?_eq_getElem g)
      exact ⟨vs, w, .of (t.tups _ _ s), e⟩
    · have g : ds.length ≤ i := g
      exact ⟨vs, .of (t.tups _ _ s), by rw [r.length]; exact g⟩
    · have g : i < ds.length := g
      obtain ⟨w, e, rw'⟩ := r.get (i := i) (List.getElem?_eq_getElem g)
      obtain ⟨rfl, y⟩ := y
      have e2 := y vs (.of (t.tups _ _ s))
      rw [e] at e2
      cases e2
      exact ⟨ds[i], .refl, rw'.mono t, st, List.getElem?_eq_getElem g⟩
  | _ => exact q.elim
theorem di_tup {tg iter : Expr} (h : De X H0 iter t) : Di X H0 tg iter (iT t) := let ⟨_, a, b⟩ := h.ex; ⟨_, pi_tup a, li_tup b⟩
/-- lo, lo + c, .. -/
def jR (lo c : Int) (n : Nat) : Dit := ⟨fun i _ => i < n, fun i _ d => d = .int (lo + (i : Int) * c), fun i _ => n ≤ i⟩
def iR1 (ta : DA) : DI := fun σ S Q => ta σ S fun xs S1 => match xs with
  | [.int j] => (-(2 ^ 62) ≤ j ∧ j < 2 ^ 62) ∧ Q (jR 0 1 j.toNat) S1
  | _ => False
theorem lit_range {K : PySem.W.Frag} {H : Hp} {lo : Int} {n : Nat} : LIt K H (Itr lo n) (jR lo 1 n) :=
  ⟨fun _ _ _ _ _ g => g, fun _ _ _ _ _ g => g, fun i H S v H' t st g y => by
    obtain ⟨rfl, rfl⟩ := y
    exact ⟨_, .refl, .int _, st, by show DV.int _ = DV.int _; rw [Int.mul_one]⟩⟩
theorem di_range1 {tg : Expr} {p : Pos} (ha : Da X H0 [a] tr) (hg : Gl X "range") (hm : X.mg "range" = none) (hs : starEach [a] X.env = [(false, eval a X.env)] := by rfl) : Di X H0 tg (.Call (.Name "range" p) [a] [] pos) (iR1 tr) := by
  obtain ⟨ta', a1, a2⟩ := ha.ex
  refine ⟨_, pi_range1 hg hm a1 hs, fun σ τ H S Q R t0 rs st c hh => a2 σ τ H S _ _ t0 rs st ?_ hh⟩
  intro vs H1 xs S1 t1 r1 st1 q
  cases r1 with
  | nil => exact q.elim
  | cons r rr =>
    cases rr with
    | nil =>
      cases r with
      | int j => exact ⟨j, rfl, q.1.1, q.1.2, c _ _ _ _ t1 st1 lit_range q.2⟩
      | _ => exact q.elim
    | cons _ _ => cases r <;> exact q.elim
def iR2 (ta : DA) : DI := fun σ S Q => ta σ S fun xs S1 => match xs with
  | [.int i, .int j] => (-(2 ^ 62) ≤ i ∧ i < 2 ^ 62 ∧ -(2 ^ 62) ≤ j ∧ j < 2 ^ 62) ∧ Q (jR i 1 (j - i).toNat) S1
  | _ => False
theorem di_range2 {tg : Expr} {p : Pos} (ha : Da X H0 [a, b] tr) (hg : Gl X "range") (hm : X.mg "range" = none) (hs : starEach [a, b] X.env = [(false, eval a X.env), (false, eval b X.env)] := by rfl) (hs2 : starEach [b] X.env = [(false, eval b X.env)] := by rfl) : Di X H0 tg (.Call (.Name "range" p) [a, b] [] pos) (iR2 tr) := by
  obtain ⟨ta', a1, a2⟩ := ha.ex
  refine ⟨_, pi_range2 hg hm a1 hs hs2, fun σ τ H S Q R t0 rs st c hh => a2 σ τ H S _ _ t0 rs st ?_ hh⟩
  intro vs H1 xs S1 t1 r1 st1 q
  cases r1 with
  | nil => exact q.elim
  | cons r rr =>
    cases rr with
    | nil => cases r <;> exact q.elim
    | cons r2 rr =>
      cases rr with
      | nil =>
        cases r with
        | int i =>
          cases r2 with
          | int j => exact ⟨i, j, rfl, q.1, c _ _ _ _ t1 st1 lit_range q.2⟩
          | _ => exact q.elim
        | _ => exact q.elim
      | cons _ _ => cases r <;> first | exact q.elim | (cases r2 <;> exact q.elim)
/-- range(i, j, -1) -/
def iR3 (ta : DA) : DI := fun σ S Q => ta σ S fun xs S1 => match xs with
  | [.int i, .int j, .int k] => k = -1 ∧ (-(2 ^ 62) ≤ i ∧ i < 2 ^ 62 ∧ -(2 ^ 62) ≤ j ∧ j < 2 ^ 62) ∧ Q (jR i (-1) (i - j).toNat) S1
  | _ => False
theorem di_range3 {tg : Expr} {p : Pos} (ha : Da X H0 [a, b, c] tr) (hg : Gl X "range") (hm : X.mg "range" = none) (hs : starEach [a, b, c] X.env = (false, eval a X.env) :: starEach [b, c] X.env := by rfl) (hpl : (backTo pos (starEach [b, c] X.env)).any (·.1) = false := by rfl) : Di X H0 tg (.Call (.Name "range" p) [a, b, c] [] pos) (iR3 tr) := by
  obtain ⟨ta', a1, a2⟩ := ha.ex
  refine ⟨_, pi_range3 hg hm a1 hs hpl, fun σ τ H S Q R t0 rs st c hh => a2 σ τ H S _ _ t0 rs st ?_ hh⟩
  intro vs H1 xs S1 t1 r1 st1 q
  cases r1 with
  | nil => exact q.elim
  | cons r rr =>
    cases rr with
    | nil => cases r <;> exact q.elim
    | cons r2 rr =>
      cases rr with
      | nil => cases r <;> first | exact q.elim | (cases r2 <;> exact q.elim)
      | cons r3 rr =>
        cases rr with
        | nil =>
          cases r with
          | int i =>
            cases r2 with
            | int j =>
              cases r3 with
              | int k =>
                obtain ⟨rfl, hb, q⟩ := q
                refine ⟨i, j, -1, _, rfl, RgC.neg hb.1 hb.2.1 hb.2.2.1 hb.2.2.2, c _ _ _ _ t1 st1 ⟨fun _ _ _ _ _ g => g, fun _ _ _ _ _ g => g, fun i H S v H' t st g y => ?_⟩ q⟩
                obtain ⟨rfl, rfl⟩ := y
                exact ⟨_, .refl, .int _, st, rfl⟩
              | _ => exact q.elim
            | _ => cases r3 <;> exact q.elim
          | _ => cases r2 <;> cases r3 <;> exact q.elim
        | cons _ _ => cases r <;> first | exact q.elim | (cases r2 <;> first | exact q.elim | (cases r3 <;> exact q.elim))
/-- enumerate -/
def jE (x : DV) : Dit := ⟨fun i S => ∃ xs d, lstOf S x xs ∧ xs[i]? = some d, fun i S d => ∃ e, d = .tup [.int i, e] ∧ ∀ xs, lstOf S x xs → xs[i]? = some e, fun i S => ∃ xs, lstOf S x xs ∧ xs.length ≤ i⟩
def iE (ta : DA) : DI := fun σ S Q => ta σ S fun xs S1 => match xs with
  | [x] => (∃ xs, lstOf S1 x xs) ∧ Q (jE x) S1
  | _ => False
theorem di_enum {p tpos : Pos} {elts : List Expr} {kk : Nat} (ha : Da X H0 [e] tr) (hg : Gl X "enumerate") (hm : X.mg "enumerate" = none) (hs : starEach [e] X.env = [(false, eval e X.env)] := by rfl) : Di X H0 (.Tuple elts kk tpos) (.Call (.Name "enumerate" p) [e] [] pos) (iE tr) := by
  obtain ⟨ta', a1, a2⟩ := ha.ex
  refine ⟨_, pi_enum hg hm a1 hs, fun σ τ H S Q R t0 rs st c hh => a2 σ τ H S _ _ t0 rs st ?_ hh⟩
  intro vs H1 xs S1 t1 r1 st1 q
  cases r1 with
  | nil => exact q.elim
  | cons r rr =>
    cases rr with
    | nil =>
      obtain ⟨⟨xs, hx⟩, q⟩ := q
      obtain ⟨a, ws, rfl, sq, _⟩ := hx.sq st1 r
      refine ⟨a, ws, rfl, sq, c _ _ _ _ t1 st1 ⟨fun i H S t st g => ?_, fun i H S t st g => ?_, fun i H S v H' t st g y => ?_⟩ q⟩
      · exact (lit_list r).1 i H S t st g
      · exact (lit_list r).2.1 i H S t st g
      · obtain ⟨xs, d, l, e⟩ := g
        obtain ⟨vs, q, rs⟩ := l.at st (r.mono t)
        obtain ⟨w, e', rw'⟩ := rs.get e
        obtain ⟨T, x1, rfl, hT, rfl, y⟩ := y
        have e2 := y vs q
        rw [e'] at e2
        cases e2
        exact ⟨.tup [.int i, d], .new hT, newTup hT (.cons (.int _) (.cons rw' .nil)), st.ext hT, d, rfl, fun ys ly => by rw [← l.inj ly]; exact e⟩
    | cons _ _ => exact q.elim
end
end Dv
set_option Elab.async false
set_option linter.all false
set_option maxRecDepth 100000
set_option maxHeartbeats 1000000
namespace Dv
open PySem PySem.Spec PyProof.Rows L2

/-! ### comprehensions -/
/-- slots but those of vs are as they were -/
def OnlyAt (vs : List Nat) (σ σ2 : L2.St) : Prop := σ2.length = σ.length ∧ ∀ i, i ∉ vs → σ2[i]? = σ[i]?
theorem wipe_get (σ : L2.St) (i : Nat) : ∀ vs : List Nat, i ∈ vs → i < σ.length → (wipe σ vs)[i]? = some none
  | [], h, _ => by simp at h
  | v :: vs, h, hl => by
    unfold wipe
    by_cases e : v = i
    · subst e
      rw [List.getElem?_set_self (by rw [wipe_length]; exact hl)]
    · rw [List.getElem?_set_ne e]
      exact wipe_get σ i vs ((List.mem_cons.mp h).resolve_left (Ne.symm e)) hl
theorem wipe_only {vs : List Nat} {σ σ2 : L2.St} (h : OnlyAt vs (wipe σ vs) σ2) : wipe σ2 vs = wipe σ vs := by
  apply List.ext_getElem?
  intro i
  have hl : σ2.length = σ.length := by rw [h.1, wipe_length]
  by_cases hi : i ∈ vs
  · by_cases hlt : i < σ.length
    · rw [wipe_get σ2 i vs hi (by rw [hl]; exact hlt), wipe_get σ i vs hi hlt]
    · rw [List.getElem?_eq_none (by rw [wipe_length]; omega), List.getElem?_eq_none (by rw [wipe_length]; omega)]
  · rw [wipe_out hi, h.2 i hi]
def LGw (K : PySem.W.Frag) (H0 : Hp) (vs : List Nat) (g : TG) (g' : DG) : Prop := ∀ v d σ τ H S (Q : DSt → Sr → Prop) (R : L2.St → Hp → Prop), Tp H0 H → Rl K H v d → RS K H σ τ → Sat K H S →
  (∀ σ2 τ2 H' S', Tp H H' → RS K H' σ2 τ2 → Sat K H' S' → OnlyAt vs σ σ2 → Q τ2 S' → R σ2 H') → g' d τ S Q → g v σ H R
def LGsw (K : PySem.W.Frag) (H0 : Hp) (vs : List Nat) (g : TGs) (g' : DGs) : Prop := ∀ ws ds σ τ H S (Q : DSt → Sr → Prop) (R : L2.St → Hp → Prop), Tp H0 H → Rls K H ws ds → RS K H σ τ → Sat K H S →
  (∀ σ2 τ2 H' S', Tp H H' → RS K H' σ2 τ2 → Sat K H' S' → OnlyAt vs σ σ2 → Q τ2 S' → R σ2 H') → g' ds τ S Q → g ws σ H R
structure Dgw (X : Cx) (H0 : Hp) (tg : Expr) (vs : List Nat) (g' : TG) (g : DG) : Prop where
  pg : PG X tg g'
  lg : LGw X.K H0 vs g' g
structure Dgsw (X : Cx) (H0 : Hp) (tgs : List Expr) (vs : List Nat) (g' : TGs) (g : DGs) : Prop where
  pg : PGs X tgs g'
  lg : LGsw X.K H0 vs g' g
section
variable {X : Cx} {H0 : Hp} {a b c e o f : Expr} {ta tb tc t to : DE} {pos : Pos} {es : List Expr} {tr : DA} {vs : List Nat}
theorem dgw_name {i : Nat} {x : Str} (hN : X.N.Nodup) (hi : X.N[i]? = some x := by rfl) (hx : Loc X.env.scope x := by first | exact Or.inl rfl | exact Or.inr rfl) (hf : X.fn x = true ∨ X.env.scope.names.lookup x = some .local := by first | exact .inl rfl | exact .inr rfl) (hv : i ∈ vs := by decide) : Dgw X H0 (.Name x pos) vs (gName i) (nName i) :=
  ⟨pg_name hN hi hx hf, fun v d σ τ H S Q R t0 r rs st c h => c _ _ _ _ .refl (rs.set i r) st ⟨by rw [List.length_set], fun j hj => by rw [List.getElem?_set_ne (fun z => hj (by rw [← z]; exact hv))]⟩ h⟩
theorem dgsw_nil : Dgsw X H0 [] vs gNil nNil := by
  refine ⟨pgs_nil, fun ws ds σ τ H S Q R t0 r rs st c h => ?_⟩
  cases r with
  | nil => exact ⟨rfl, c _ _ _ _ .refl rs st ⟨rfl, fun _ _ => rfl⟩ h⟩
  | cons _ _ => exact h.elim
theorem dgsw_cons {es : List Expr} {g1 : TG} {g2 : TGs} {g : DG} {gs : DGs} (h1 : Dgw X H0 e vs g1 g) (h2 : Dgsw X H0 es vs g2 gs) (hs : (assignEach (e :: es) X.env).map (·.2) = assign e X.env :: (assignEach es X.env).map (·.2) := by rfl) : Dgsw X H0 (e :: es) vs (gCons g1 g2) (nCons g gs) := by
  refine ⟨pgs_cons h1.pg h2.pg hs, fun ws ds σ τ H S Q R t0 r rs st c h => ?_⟩
  cases r with
  | nil => exact h.elim
  | cons r rr =>
    refine ⟨_, _, rfl, h1.lg _ _ σ τ H S _ _ t0 r rs st ?_ h⟩
    intro σ1 τ1 H1 S1 t1 rs1 st1 o1 q1
    exact h2.lg _ _ σ1 τ1 H1 S1 Q R (t0.trans t1) (rr.mono t1) rs1 st1 (fun σ' τ' H' S' t' r' s' o' => c σ' τ' H' S' (t1.trans t') r' s' ⟨o'.1.trans o1.1, fun i hi => (o'.2 i hi).trans (o1.2 i hi)⟩) q1
theorem dgw_tup {es : List Expr} {k : Nat} {g' : TGs} {g : DGs} {n : Nat} (h : Dgsw X H0 es vs g' g) (hc : X.calm = true := by rfl)
    (hn : (assignEach es X.env).length = n := by rfl) (hst : (assignEach es X.env).findIdx? (·.1) = none := by rfl) : Dgw X H0 (.Tuple es k pos) vs (gTup X.K n g') (nTup n g) := by
  refine ⟨pg_tup hc h.pg hn hst, fun v d σ τ H S Q R t0 r rs st c hh => ?_⟩
  cases r with
  | tup s r => exact ⟨_, _, rfl, .of s, by rw [r.length]; exact hh.1, h.lg _ _ σ τ H S Q R t0 r rs st c hh.2⟩
  | _ => exact hh.elim
/-! the one reading that a judgement's values give -/
def canE (K : PySem.W.Frag) (H0 : Hp) (t : DE) : TE := fun σ H R => ∃ τ S Q, Tp H0 H ∧ RS K H σ τ ∧ Sat K H S ∧ Cont K H Q R ∧ t τ S Q
def canT (K : PySem.W.Frag) (H0 : Hp) (t : DT) : TT := fun σ H R => ∃ τ S Q, Tp H0 H ∧ RS K H σ τ ∧ Sat K H S ∧ ContT K H Q R ∧ t τ S Q
theorem le_can {K : PySem.W.Frag} {t : DE} : LE K H0 (canE K H0 t) t := fun σ τ H S Q R t0 rs st c h => ⟨τ, S, Q, t0, rs, st, c, h⟩
theorem lt_can {K : PySem.W.Frag} {t : DT} : LT K H0 (canT K H0 t) t := fun σ τ H S Q R t0 rs st c h => ⟨τ, S, Q, t0, rs, st, c, h⟩
theorem De.can (h : De X H0 e t) : PE X e (canE X.K H0 t) := by
  obtain ⟨te, h1, h2⟩ := h.ex
  refine ⟨fun pins s σ H Q I hh => ?_⟩
  obtain ⟨τ, S, Q', t0, rs, st, c, hh⟩ := hh
  exact h1.run pins s σ H Q I (h2 σ τ H S Q' Q t0 rs st c hh)
structure Dts (X : Cx) (H0 : Hp) (ifs : List Expr) (t : DT) : Prop where
  ex : ∃ tt, PTs X ifs tt ∧ LT X.K H0 tt t
theorem Dts.can {ifs : List Expr} {t : DT} (h : Dts X H0 ifs t) : PTs X ifs (canT X.K H0 t) := by
  obtain ⟨te, h1, h2⟩ := h.ex
  refine ⟨fun pins s σ H Q I hh => ?_⟩
  obtain ⟨τ, S, Q', t0, rs, st, c, hh⟩ := hh
  exact h1.run pins s σ H Q I (h2 σ τ H S Q' Q t0 rs st c hh)
def dYes : DT := fun _ S Q => Q true S
theorem lt_yes {K : PySem.W.Frag} : LT K H0 tYes dYes := fun σ τ H S Q R t0 rs st c h => c true H S .refl st h
theorem dts_nil : Dts X H0 [] dYes := ⟨_, pts_nil, lt_yes⟩
theorem dts_one {q : Expr} {tq : DT} (h : Dt X H0 q tq) : Dts X H0 [q] tq := let ⟨_, a, b⟩ := h.ex; ⟨_, pts_one a, b⟩
/-- [e for g in wi if tt] -/
def dLc (wi : DI) (g : DG) (tt : DT) (te : DE) (vs : List Nat) : DE := fun σ S Q => wi σ S fun J S1 => ∀ D, S1 D = none → ∃ W : Nat → Nat → Sr → Prop, (∃ m, W 0 m (up S1 D (.lst []))) ∧ ∀ i m S, W i m S →
  (J.stop i S ∧ Q (.ref D) S) ∨ (J.go i S ∧ ∃ Nx : Sr → Prop, (∀ S', Nx S' → ∃ m', m' < m ∧ W (i + 1) m' S') ∧ ∀ x, J.yld i S x → g x (wipeS σ vs) S fun σ2 S2 => tt σ2 S2 fun k S3 => br k (te σ2 S3 fun y S4 => ∃ acc, S4 D = some (.lst acc) ∧ acc.length < sizeLine ∧ Nx (up S4 D (.lst (acc ++ [y])))) (Nx S3))
theorem le_lc {K : PySem.W.Frag} {wi : TI} {wi' : DI} {g : TG} {g' : DG} {tt : TT} {tt' : DT} {te : TE} (h1 : LI K H0 wi wi') (h2 : LGw K H0 vs g g') (h3 : LT K H0 tt tt') (h4 : LE K H0 te t) : LE K H0 (tLc wi g tt te vs) (dLc wi' g' tt' t vs) := by
  intro σ τ H S Q R t0 rs st c h
  refine h1 σ τ H S _ _ t0 rs st ?_ h
  intro J Ha J' Sa ta sta LJ q D hD
  obtain ⟨W, ⟨m0, w0⟩, turn⟩ := q D (sta.free hD)
  refine ⟨fun i m H1 => ∃ S1, Tp Ha H1 ∧ Sat K H1 S1 ∧ W i m S1, ⟨m0, _, .new hD, newLst hD sta .nil, w0⟩, ?_⟩
  rintro i m H1 ⟨S1, ta1, st1, w1⟩
  have t1 := ta.trans ta1
  rcases turn i m S1 w1 with ⟨hs, q⟩ | ⟨hg, N, hN, step⟩
  · exact .inl ⟨LJ.2.1 i H1 S1 ta1 st1 hs, c _ _ _ _ t1 (.ref D) st1 q⟩
  · refine .inr ⟨LJ.1 i H1 S1 ta1 st1 hg, fun H3 => ∃ S3, Tp Ha H3 ∧ Sat K H3 S3 ∧ N S3, ?_, ?_⟩
    · rintro H3 ⟨S3, t3, st3, n3⟩
      obtain ⟨m', hm, w'⟩ := hN S3 n3
      exact ⟨m', hm, S3, t3, st3, w'⟩
    · intro x H2 y
      obtain ⟨d, t2, r2, st2, y'⟩ := LJ.2.2 i H1 S1 x H2 ta1 st1 hg y
      have t12 := t1.trans t2
      have ta2 := ta1.trans t2
      refine h2 x d (wipe σ vs) (wipeS τ vs) H2 S1 _ _ (t0.trans t12) r2 ((rs.mono t12).wipe vs) st2 ?_ (step d y')
      intro σ4 τ4 H4 S4 t4 rs4 st4 o4 q4
      refine ⟨wipe_only o4, h3 σ4 τ4 H4 S4 _ _ (t0.trans (t12.trans t4)) rs4 st4 ?_ q4⟩
      intro k H5 S5 t5 st5 q5
      cases k with
      | true =>
        rw [if_pos rfl]
        refine h4 σ4 τ4 H5 S5 _ _ (t0.trans ((t12.trans t4).trans t5)) (rs4.mono t5) st5 ?_ q5
        intro w H6 y6 S6 t6 r6 st6 q6
        obtain ⟨acc, e, hz, n⟩ := q6
        obtain ⟨xs, f, rr⟩ := st6.lst e
        obtain ⟨t7, s7⟩ := setLst st6 e f (rr.append (.cons r6 .nil))
        exact ⟨xs, f, by rw [rr.length]; exact hz, _, (((ta2.trans t4).trans t5).trans t6).trans t7, s7, n⟩
      | false =>
        rw [if_neg Bool.false_ne_true]
        exact ⟨S5, (ta2.trans t4).trans t5, st5, q5⟩
theorem de_lc {elt tg iter : Expr} {ifs : List Expr} {scope : Scope} {own : List (Str × Nat)} {wi : DI} {g' : TG} {g : DG} {tt : DT} (hN : X.N.Nodup) (hi : Di X H0 tg iter wi) (ok : BlkOk X.N X.env.scope scope own)
    (hg : ∀ (s : Shared) (H : Hp) (C : Addr) (cl : List (Str × Addr)) (fp : List Addr), Dgw (X.blk s H scope (compEnvC scope cl C X.env) fp) H0 tg (own.map (·.2)) g' g)
    (ht : ∀ (s : Shared) (H : Hp) (C : Addr) (cl : List (Str × Addr)) (fp : List Addr), Dts (X.blk s H scope (compEnvC scope cl C X.env) fp) H0 ifs tt)
    (he : ∀ (s : Shared) (H : Hp) (C : Addr) (cl : List (Str × Addr)) (fp : List Addr), De (X.blk s H scope (compEnvC scope cl C X.env) fp) H0 elt t)
    (hc : X.calm = true := by rfl) (hs : ∀ x, foldedSetIterable iter X.env x = pure x := by intro _; rfl) : De X H0 (.ListComp elt [⟨tg, iter, ifs, 0⟩] scope pos) (dLc wi g tt t (own.map (·.2))) := by
  obtain ⟨w', i1, i2⟩ := hi.ex
  have g2 : LGw X.K H0 (own.map (·.2)) g' g := (hg X.s_0 H0 X.env.locals [] []).lg
  exact ⟨_, pe_lc hc hN i1 ok (fun s H C cl fp => (hg s H C cl fp).pg) (fun s H C cl fp => (ht s H C cl fp).can) (fun s H C cl fp => (he s H C cl fp).can) hs, le_lc i2 g2 lt_can le_can⟩
theorem ds_setLc {i : Nat} {y : Str} {py : Pos} {spos : Pos} {elt tg iter : Expr} {ifs : List Expr} {scope : Scope} {own : List (Str × Nat)} {wi : DI} {g' : TG} {g : DG} {tt : DT} (hN : X.N.Nodup) (hi : Di X H0 tg iter wi) (ok : BlkOk X.N X.env.scope scope own)
    (hg : ∀ (s : Shared) (H : Hp) (C : Addr) (cl : List (Str × Addr)) (fp : List Addr), Dgw (X.blk s H scope (compEnvC scope cl C X.env) fp) H0 tg (own.map (·.2)) g' g)
    (ht : ∀ (s : Shared) (H : Hp) (C : Addr) (cl : List (Str × Addr)) (fp : List Addr), Dts (X.blk s H scope (compEnvC scope cl C X.env) fp) H0 ifs tt)
    (he : ∀ (s : Shared) (H : Hp) (C : Addr) (cl : List (Str × Addr)) (fp : List Addr), De (X.blk s H scope (compEnvC scope cl C X.env) fp) H0 elt t)
    (hsw : swapsWith (.ListComp elt [⟨tg, iter, ifs, 0⟩] scope pos) (some (.Name y py)) spos.line X.env = pure true)
    (hy : X.N[i]? = some y := by rfl) (hyl : X.env.scope.names.lookup y = some .local := by rfl)
    (hc : X.calm = true := by rfl) (hs : ∀ x, foldedSetIterable iter X.env x = pure x := by intro _; rfl) : Ds X H0 (.Assign [.Name y py] (.ListComp elt [⟨tg, iter, ifs, 0⟩] scope pos) spos) (sAsg (dLc wi g tt t (own.map (·.2))) (nName i)) := by
  obtain ⟨w', i1, i2⟩ := hi.ex
  have g2 : LGw X.K H0 (own.map (·.2)) g' g := (hg X.s_0 H0 X.env.locals [] []).lg
  exact ⟨_, ps_setLc hc hN hy hyl hsw i1 ok (fun s H C cl fp => (hg s H C cl fp).pg) (fun s H C cl fp => (ht s H C cl fp).can) (fun s H C cl fp => (he s H C cl fp).can) hs, ls_asg (le_lc i2 g2 lt_can le_can) (lg_name i)⟩
end
/-! ### what a def promises, by values -/
abbrev DXK := Addr → List (Str × DV) → Sr → Prop
abbrev SpD := List DV → Sr → DK → DXK → Prop
def XF (K : PySem.W.Frag) (H : Hp) (od : Option Addr) (fs : List (Str × DV)) : Prop := (od = none ∧ fs = []) ∨ ∃ d xs, od = some d ∧ H d = some (.xd xs) ∧ Rps K H xs fs
def Lnk (K : PySem.W.Frag) (H0 : Hp) (E : XK) (Ed : DXK) : Prop := ∀ C od fs H S, Tp H0 H → Sat K H S → XF K H od fs → Ed C fs S → E (.ref C) od H
def spV (K : PySem.W.Frag) (sd : SpD) : Sp := fun vs H Q E => ∃ ds S Qd Ed, Rls K H vs ds ∧ Sat K H S ∧ sd ds S Qd Ed ∧ Cont K H Qd Q ∧ Lnk K H E Ed
abbrev Ed0 : DXK := fun _ _ _ => False
theorem lnk0 {K : PySem.W.Frag} {H0 : Hp} {E : XK} : Lnk K H0 E Ed0 := fun _ _ _ _ _ _ _ _ h => h.elim
theorem Lnk.later {K : PySem.W.Frag} {H0 H1 : Hp} {E : XK} {Ed : DXK} (l : Lnk K H0 E Ed) (t : Tp H0 H1) : Lnk K H1 E Ed := fun C od fs H S t' s x h => l C od fs H S (t.trans t') s x h
section
variable {X : Cx} {H0 : Hp} {e o : Expr} {to : DE} {pos p apos : Pos} {es : List Expr} {tr : DA} {k : Nat} {f : Addr} {fd : FuncData} {ps : List Str} {sd : SpD} {x : Str} {E : XK} {Ed : DXK}
/-- f(..) -/
def dCall (sd : SpD) (Ed : DXK) (t : DA) : DE := fun σ S Q => t σ S fun ds S1 => sd ds S1 Q Ed
theorem le_call {K : PySem.W.Frag} {ta : TA} {tr : DA} (lk : Lnk K H0 E Ed) (h : LA K H0 ta tr) : LE K H0 (tCall (spV K sd) [] E ta) (dCall sd Ed tr) := by
  intro σ τ H S Q R t0 rs st c hh
  refine h σ τ H S _ _ t0 rs st ?_ hh
  intro vs H1 ds S1 t1 r1 st1 q1
  show spV K sd (vs ++ []) H1 R E
  rw [List.append_nil]
  exact ⟨ds, S1, Q, Ed, r1, st1, q1, c.later t1, lk.later (t0.trans t1)⟩
theorem de_call (F : FnOk X.prog X.w X.K X.mg X.base (L2.CX X.prog X.w) k f fd ps (spV X.K sd)) (hr : Room k X.A) (hm : X.mg x = some (.ref f)) (hk : PySem.W.keepIn X.K (.ref f) = true) (hb : Binds X.K fd ps []) (hx : Passes (L2.CX X.prog X.w) X E) (lk : Lnk X.K H0 E Ed) (ha : Da X H0 (e :: es) tr)
    (hg : Gl X x := by rfl) (hdb : (x == ("__debug__" : Str)) = false := by decide) (he : starEach (e :: es) X.env = (false, eval e X.env) :: starEach es X.env := by rfl) (hpl : (backTo pos (starEach es X.env)).any (·.1) = false := by rfl) :
    De X H0 (.Call (.Name x p) (e :: es) [] pos) (dCall sd Ed tr) := by
  obtain ⟨ta', a1, a2⟩ := ha.ex
  exact ⟨_, pe_call F hr hg hm hk hb .nil hx a1 hdb he hpl, le_call lk a2⟩
theorem de_call0 (F : FnOk X.prog X.w X.K X.mg X.base (L2.CX X.prog X.w) k f fd ps (spV X.K sd)) (hr : Room k X.A) (hm : X.mg x = some (.ref f)) (hk : PySem.W.keepIn X.K (.ref f) = true) (hb : Binds X.K fd ps []) (hx : Passes (L2.CX X.prog X.w) X E) (lk : Lnk X.K H0 E Ed)
    (hg : Gl X x := by rfl) (hdb : (x == ("__debug__" : Str)) = false := by decide) : De X H0 (.Call (.Name x p) [] [] pos) (dCall sd Ed dNil) :=
  ⟨_, pe_call0 F hr hg hm hk hb .nil hx hdb, le_call (tr := dNil) (ta := tNil) lk fun _ _ H S _ _ _ _ st c h => c [] H [] S .refl .nil st h⟩
end
/-! ### THE RULE for a def -/
section
variable {P : Program} {w : World} {K : PySem.W.Frag} {mg : Str → Option Value} {base : Heap}
/-- the same heap told otherwise (boxes opened and shut, less told), so that F -/
def Opens (K : PySem.W.Frag) (S : Sr) (F : Sr → Prop) : Prop := ∀ H, Sat K H S → ∃ S1, Sat K H S1 ∧ F S1
theorem Opens.here {K : PySem.W.Frag} {S : Sr} {F : Sr → Prop} (h : F S) : Opens K S F := fun _ st => ⟨S, st, h⟩
theorem Opens.sub {K : PySem.W.Frag} {S S' : Sr} {F : Sr → Prop} (s : Sub S' S) (h : F S') : Opens K S F := fun _ st => ⟨S', st.sub s, h⟩
theorem Opens.then {K : PySem.W.Frag} {S : Sr} {F G : Sr → Prop} (h : Opens K S F) (k : ∀ S1, F S1 → Opens K S1 G) : Opens K S G := fun H st =>
  let ⟨S1, st1, f⟩ := h H st
  k S1 f H st1
/-- what a body is to reach -/
def dEnd (K : PySem.W.Frag) (Q : DK) : DEnds := { nx := fun _ S => Opens K S (Q .non), rt := fun d S => Opens K S (Q d) }
theorem FunD.okD {x qual : Str} {params : Arguments} {body : List Stmt} {scope : Scope} {dvs : List V} {kws : List (Str × V)} {f : Addr} {fd : FuncData} {N ps : List Str} {k : Nat} {sd : SpD} {t : DXK → DS} (F : FunD K x qual params body scope dvs kws f fd) (S : FnScope N ps scope) (len : ∀ ds S Q E, sd ds S Q E → ds.length = ps.length)
    (hb : ∀ (cdv : Value) (A : Around) (outer : List Env) (s : Shared) (H : Hp) (E : XK) (Ed : DXK), Room k (A.deeper (envOfC qual scope s.heap.objs.size f cdv)) → Lnk K H E Ed → Dss (cxOf (L2.CX P w) P w K mg base N qual scope f cdv A outer s H E) H body (t Ed))
    (rd : ∀ ds S Q Ed, sd ds S Q Ed → Opens K S (t Ed (dEnd K Q) (startS N ds))) : FnOk P w K mg base (L2.CX P w) (k + 1) f fd ps (spV K sd) := by
  refine F.ok S (fun vs H Q E h => ?_) (fun cdv A outer s H vs Q E hr h => ?_)
  · obtain ⟨ds, S, Qd, Ed, r, _, h, _⟩ := h
    rw [r.length]; exact len ds S Qd Ed h
  · obtain ⟨ds, S', Qd, Ed, r, st', h, c, lk⟩ := h
    obtain ⟨ts, b1, b2⟩ := (hb cdv A outer s H E Ed hr lk).ex
    obtain ⟨S0, st0, h0⟩ := rd ds S' Qd Ed h H st'
    refine ⟨ts, b1, b2 (start N vs) (startS N ds) H S0 (dEnd K Qd) _ .refl (.start r) st0 ⟨?_, ?_, ?_, ?_⟩ h0⟩
    · rintro σ τ H' S1 t1 _ s1 q
      obtain ⟨S2, s2, q⟩ := q H' s1
      exact c .non H' .non S2 t1 .non s2 q
    · rintro v H' d S1 t1 r1 s1 q
      obtain ⟨S2, s2, q⟩ := q H' s1
      exact c v H' d S2 t1 r1 s2 q
    · exact fun _ _ _ _ _ _ _ z => z.elim
    · exact fun _ _ _ _ _ _ _ z => z.elim
theorem De.nox {X : Cx} {H0 : Hp} {e : Expr} {t : DE} (h : De X.nox H0 e t) : De X H0 e t := let ⟨_, a, b⟩ := h.ex; ⟨_, a.nox, b⟩
theorem Dss.nox {X : Cx} {H0 : Hp} {e : List Stmt} {t : DS} (h : Dss X.nox H0 e t) : Dss X H0 e t := let ⟨_, a, b⟩ := h.ex; ⟨_, a.nox, b⟩
/-- .. that raises nothing -/
theorem FunD.okD0 {x qual : Str} {params : Arguments} {body : List Stmt} {scope : Scope} {dvs : List V} {kws : List (Str × V)} {f : Addr} {fd : FuncData} {N ps : List Str} {k : Nat} {sd : SpD} {t : DS} (F : FunD K x qual params body scope dvs kws f fd) (S : FnScope N ps scope) (len : ∀ ds S Q E, sd ds S Q E → ds.length = ps.length)
    (hb : ∀ (cdv : Value) (A : Around) (outer : List Env) (s : Shared) (H : Hp) (E : XK), Room k (A.deeper (envOfC qual scope s.heap.objs.size f cdv)) → Dss (cxOf (L2.CX P w) P w K mg base N qual scope f cdv A outer s H E).nox H body t)
    (rd : ∀ ds S Q Ed, sd ds S Q Ed → Opens K S (t (dEnd K Q) (startS N ds))) : FnOk P w K mg base (L2.CX P w) (k + 1) f fd ps (spV K sd) :=
  FunD.okD (t := fun _ => t) F S len (fun cdv A outer s H E Ed hr lk => (hb cdv A outer s H E hr).nox) rd
end
end Dv
set_option Elab.async false
set_option linter.all false
set_option maxRecDepth 100000
set_option maxHeartbeats 1000000
namespace Dv
open PySem PySem.Spec PyProof.Rows L2

/-! ### readings: loops and comprehensions in the forms one uses -/
/-- what a for asks of its walk J -/
def ForQ (J : Dit) (g : DG) (tb : DS) (D : DEnds) (σ : DSt) (S : Sr) : Prop := ∃ W : Nat → Nat → DSt → Sr → Prop, (∃ m, W 0 m σ S) ∧ ∀ i m σ S, W i m σ S →
  (J.stop i S ∧ D.nx σ S) ∨ (J.go i S ∧ ∃ N : DSt → Sr → Prop, (∀ σ' S', N σ' S' → ∃ m', m' < m ∧ W (i + 1) m' σ' S') ∧ ∀ x, J.yld i S x → g x σ S fun σ2 S2 => tb { nx := N, rt := D.rt, ct := N, bk := D.nx } σ2 S2)
/-- by the part taken so far -/
theorem for_pre {J : Dit} {ds : List DV} {g : DG} {tb : DS} {D : DEnds} {σ : DSt} {S : Sr} (P : List DV → DSt → Sr → Prop) (h0 : P [] σ S)
    (hgo : ∀ pre d post σ S, ds = pre ++ d :: post → P pre σ S → J.go pre.length S)
    (hst : ∀ σ S, P ds σ S → J.stop ds.length S)
    (hy : ∀ pre d post σ S x, ds = pre ++ d :: post → P pre σ S → J.yld pre.length S x → x = d)
    (hs : ∀ pre d post σ S, ds = pre ++ d :: post → P pre σ S → g d σ S fun σ2 S2 => tb { nx := P (pre ++ [d]), rt := D.rt, ct := P (pre ++ [d]), bk := D.nx } σ2 S2)
    (hd : ∀ σ S, P ds σ S → D.nx σ S) : ForQ J g tb D σ S := by
  refine ⟨fun i m σ S => m = ds.length - i ∧ i ≤ ds.length ∧ P (ds.take i) σ S, ⟨ds.length, by simp, Nat.zero_le _, by simpa using h0⟩, ?_⟩
  rintro i m σ S ⟨rfl, hi, p⟩
  by_cases hlt : i < ds.length
  · have e : ds = ds.take i ++ ds[i] :: ds.drop (i + 1) := by
      rw [← List.drop_eq_getElem_cons hlt, List.take_append_drop]
    have hl : (ds.take i).length = i := by rw [List.length_take]; omega
    have e2 : ds.take (i + 1) = ds.take i ++ [ds[i]] := by rw [List.take_succ_eq_append_getElem hlt]
    refine .inr ⟨by have := hgo _ _ _ σ S e p; rwa [hl] at this, P (ds.take i ++ [ds[i]]), fun σ' S' p' => ⟨ds.length - (i + 1), by omega, rfl, hlt, by rw [e2]; exact p'⟩, fun x y => ?_⟩
    have := hy _ _ _ σ S x e p (by rw [hl]; exact y)
    subst this
    exact hs _ _ _ σ S e p
  · have e : i = ds.length := by omega
    subst e
    rw [List.take_length] at p
    exact .inl ⟨hst σ S p, hd σ S p⟩
/-- a list -/
theorem for_lst {x : DV} {ds : List DV} {g : DG} {tb : DS} {D : DEnds} {σ : DSt} {S : Sr} (hx : lstOf S x ds) (P : List DV → DSt → Sr → Prop) (h0 : P [] σ S) (hl : ∀ pre σ S, P pre σ S → lstOf S x ds)
    (hs : ∀ pre d post σ S, ds = pre ++ d :: post → P pre σ S → g d σ S fun σ2 S2 => tb { nx := P (pre ++ [d]), rt := D.rt, ct := P (pre ++ [d]), bk := D.nx } σ2 S2)
    (hd : ∀ σ S, P ds σ S → D.nx σ S) : (∃ xs, lstOf S x xs) ∧ ForQ (jL x) g tb D σ S := by
  have at_ : ∀ {pre : List DV} {d : DV} {post : List DV}, ds = pre ++ d :: post → ds[pre.length]? = some d := fun e => by rw [e]; simp
  refine ⟨⟨ds, hx⟩, for_pre P h0 (fun pre d post σ S e p => ⟨ds, d, hl _ _ _ p, at_ e⟩) (fun σ S p => ⟨ds, hl _ _ _ p, Nat.le_refl _⟩) (fun pre d post σ S x e p y => ?_) hs hd⟩
  have := y ds (hl _ _ _ p)
  rw [at_ e] at this
  exact (Option.some.inj this).symm
/-- enumerate of a list -/
theorem for_enum {x : DV} {ds : List DV} {g : DG} {tb : DS} {D : DEnds} {σ : DSt} {S : Sr} (hx : lstOf S x ds) (P : List DV → DSt → Sr → Prop) (h0 : P [] σ S) (hl : ∀ pre σ S, P pre σ S → lstOf S x ds)
    (hs : ∀ pre d post σ S, ds = pre ++ d :: post → P pre σ S → g (.tup [.int pre.length, d]) σ S fun σ2 S2 => tb { nx := P (pre ++ [d]), rt := D.rt, ct := P (pre ++ [d]), bk := D.nx } σ2 S2)
    (hd : ∀ σ S, P ds σ S → D.nx σ S) : (∃ xs, lstOf S x xs) ∧ ForQ (jE x) g tb D σ S := by
  have at_ : ∀ {pre : List DV} {d : DV} {post : List DV}, ds = pre ++ d :: post → ds[pre.length]? = some d := fun e => by rw [e]; simp
  refine ⟨⟨ds, hx⟩, fun i m σ S => m = ds.length - i ∧ i ≤ ds.length ∧ P (ds.take i) σ S, ⟨ds.length, by simp, Nat.zero_le _, by simpa using h0⟩, ?_⟩
  rintro i m σ S ⟨rfl, hi, p⟩
  have l := hl _ _ _ p
  by_cases hlt : i < ds.length
  · have e : ds = ds.take i ++ ds[i] :: ds.drop (i + 1) := by
      rw [← List.drop_eq_getElem_cons hlt, List.take_append_drop]
    have hl' : (ds.take i).length = i := by rw [List.length_take]; omega
    have e2 : ds.take (i + 1) = ds.take i ++ [ds[i]] := by rw [List.take_succ_eq_append_getElem hlt]
    have e3 : ds[i]? = some ds[i] := List.getElem?_eq_getElem hlt
    refine .inr ⟨⟨ds, _, l, e3⟩, P (ds.take i ++ [ds[i]]), fun σ' S' p' => ⟨ds.length - (i + 1), by omega, rfl, hlt, by rw [e2]; exact p'⟩, fun x' y => ?_⟩
    obtain ⟨d, rfl, y⟩ := y
    have e4 := y ds l
    rw [e3] at e4
    cases e4
    have := hs _ _ _ σ S e p
    rw [hl'] at this
    exact this
  · have e : i = ds.length := by omega
    subst e
    rw [List.take_length] at p
    exact .inl ⟨⟨ds, l, Nat.le_refl _⟩, hd σ S p⟩
/-- a tuple -/
theorem for_tupl {ds : List DV} {g : DG} {tb : DS} {D : DEnds} {σ : DSt} {S : Sr} (P : List DV → DSt → Sr → Prop) (h0 : P [] σ S)
    (hs : ∀ pre d post σ S, ds = pre ++ d :: post → P pre σ S → g d σ S fun σ2 S2 => tb { nx := P (pre ++ [d]), rt := D.rt, ct := P (pre ++ [d]), bk := D.nx } σ2 S2)
    (hd : ∀ σ S, P ds σ S → D.nx σ S) : ForQ (jT ds) g tb D σ S := by
  have at_ : ∀ {pre : List DV} {d : DV} {post : List DV}, ds = pre ++ d :: post → ds[pre.length]? = some d := fun e => by rw [e]; simp
  refine for_pre P h0 (fun pre d post σ S e p => ?_) (fun σ S p => Nat.le_refl _) (fun pre d post σ S x e p y => ?_) hs hd
  · show pre.length < ds.length
    rw [e]; simp
  · have y : ds[pre.length]? = some x := y
    rw [at_ e] at y
    exact (Option.some.inj y).symm
/-- a range -/
theorem for_rng {lo c : Int} {n : Nat} {g : DG} {tb : DS} {D : DEnds} {σ : DSt} {S : Sr} (P : Nat → DSt → Sr → Prop) (h0 : P 0 σ S)
    (hs : ∀ i σ S, i < n → P i σ S → g (.int (lo + (i : Int) * c)) σ S fun σ2 S2 => tb { nx := P (i + 1), rt := D.rt, ct := P (i + 1), bk := D.nx } σ2 S2)
    (hd : ∀ σ S, P n σ S → D.nx σ S) : ForQ (jR lo c n) g tb D σ S := by
  refine ⟨fun i m σ S => m = n - i ∧ i ≤ n ∧ P i σ S, ⟨n, by simp, Nat.zero_le _, h0⟩, ?_⟩
  rintro i m σ S ⟨rfl, hi, p⟩
  by_cases hlt : i < n
  · refine .inr ⟨hlt, P (i + 1), fun σ' S' p' => ⟨n - (i + 1), by omega, rfl, hlt, p'⟩, fun x y => ?_⟩
    have y : x = .int (lo + (i : Int) * c) := y
    subst y
    exact hs i σ S hlt p
  · have e : i = n := by omega
    subst e
    exact .inl ⟨Nat.le_refl _, hd σ S p⟩
/-- what a comprehension asks -/
def LcQ (J : Dit) (g : DG) (tt : DT) (te : DE) (vs : List Nat) (σ : DSt) (Q : DK) (S1 : Sr) : Prop := ∀ D, S1 D = none → ∃ W : Nat → Nat → Sr → Prop, (∃ m, W 0 m (up S1 D (.lst []))) ∧ ∀ i m S, W i m S →
  (J.stop i S ∧ Q (.ref D) S) ∨ (J.go i S ∧ ∃ Nx : Sr → Prop, (∀ S', Nx S' → ∃ m', m' < m ∧ W (i + 1) m' S') ∧ ∀ x, J.yld i S x → g x (wipeS σ vs) S fun σ2 S2 => tt σ2 S2 fun k S3 => br k (te σ2 S3 fun y S4 => ∃ acc, S4 D = some (.lst acc) ∧ acc.length < sizeLine ∧ Nx (up S4 D (.lst (acc ++ [y])))) (Nx S3))
/-- the list at D holds acc, the other objects are as P says -/
def LcP (P : List DV → Sr → Prop) (D : Addr) (S : Sr) : Prop := ∃ acc S0, S = up S0 D (.lst acc) ∧ S0 D = none ∧ P acc S0
/-- what is to be shown behind the element of a turn -/
def LcE (P : List DV → Sr → Prop) (D : Addr) (y : DV) (S4 : Sr) : Prop := ∃ acc, S4 D = some (.lst acc) ∧ acc.length < sizeLine ∧ LcP P D (up S4 D (.lst (acc ++ [y])))
theorem lcAdd {P : List DV → Sr → Prop} {D : Addr} {acc : List DV} {S : Sr} {y : DV} (n : S D = none) (hz : acc.length ≤ 1000) (p : P (acc ++ [y]) S) : LcE P D y (up S D (.lst acc)) :=
  ⟨acc, up_same, small1000 hz, acc ++ [y], S, by rw [up_up], n, p⟩
theorem lcSkip {P : List DV → Sr → Prop} {D : Addr} {acc : List DV} {S : Sr} (n : S D = none) (p : P acc S) : LcP P D (up S D (.lst acc)) := ⟨acc, S, rfl, n, p⟩
theorem lstUp {S0 : Sr} {D : Addr} {o : MO} {x : DV} {ds : List DV} (n : S0 D = none) (l : lstOf S0 x ds) : lstOf (up S0 D o) x ds := by
  cases x with
  | ref a =>
    have l : S0 a = some (.lst ds) := l
    show up S0 D o a = some (.lst ds)
    rw [up_ne (sne l n)]; exact l
  | scr ns => exact l
  | _ => exact l.elim
theorem lc_lst {x : DV} {ds : List DV} {g : DG} {tt : DT} {te : DE} {vs : List Nat} {σ : DSt} {Q : DK} {S1 : Sr} (hx : lstOf S1 x ds) (P : List DV → List DV → Sr → Prop) (h0 : P [] [] S1)
    (hl : ∀ pre acc S, P pre acc S → lstOf S x ds)
    (hs : ∀ pre d post acc S0 D, ds = pre ++ d :: post → P pre acc S0 → S0 D = none → g d (wipeS σ vs) (up S0 D (.lst acc)) fun σ2 S2 => tt σ2 S2 fun k S3 => br k (te σ2 S3 fun y S4 => LcE (P (pre ++ [d])) D y S4) (LcP (P (pre ++ [d])) D S3))
    (hd : ∀ acc S D, P ds acc S → S D = none → Q (.ref D) (up S D (.lst acc))) : (∃ xs, lstOf S1 x xs) ∧ LcQ (jL x) g tt te vs σ Q S1 := by
  refine ⟨⟨ds, hx⟩, fun D hD => ?_⟩
  refine ⟨fun i m S => m = ds.length - i ∧ i ≤ ds.length ∧ LcP (P (ds.take i)) D S, ⟨ds.length, by simp, Nat.zero_le _, [], S1, rfl, hD, by simpa using h0⟩, ?_⟩
  rintro i m S ⟨rfl, hi, acc, S0, rfl, n0, p⟩
  have l := lstUp (o := .lst acc) n0 (hl _ _ _ p)
  by_cases hlt : i < ds.length
  · have e : ds = ds.take i ++ ds[i] :: ds.drop (i + 1) := by
      rw [← List.drop_eq_getElem_cons hlt, List.take_append_drop]
    have e2 : ds.take (i + 1) = ds.take i ++ [ds[i]] := by rw [List.take_succ_eq_append_getElem hlt]
    have e3 : ds[i]? = some ds[i] := List.getElem?_eq_getElem hlt
    refine .inr ⟨⟨ds, _, l, e3⟩, LcP (P (ds.take i ++ [ds[i]])) D, ?_, fun x' y => ?_⟩
    · intro S' p'
      exact ⟨ds.length - (i + 1), by omega, rfl, hlt, by rw [e2]; exact p'⟩
    · have e4 := y ds l
      rw [e3] at e4
      cases e4
      exact hs _ _ _ acc S0 D e p n0
  · have e : i = ds.length := by omega
    subst e
    rw [List.take_length] at p
    exact .inl ⟨⟨ds, l, Nat.le_refl _⟩, hd acc S0 D p n0⟩
theorem lc_enum {x : DV} {ds : List DV} {g : DG} {tt : DT} {te : DE} {vs : List Nat} {σ : DSt} {Q : DK} {S1 : Sr} (hx : lstOf S1 x ds) (P : List DV → List DV → Sr → Prop) (h0 : P [] [] S1)
    (hl : ∀ pre acc S, P pre acc S → lstOf S x ds)
    (hs : ∀ pre d post acc S0 D, ds = pre ++ d :: post → P pre acc S0 → S0 D = none → g (.tup [.int pre.length, d]) (wipeS σ vs) (up S0 D (.lst acc)) fun σ2 S2 => tt σ2 S2 fun k S3 => br k (te σ2 S3 fun y S4 => LcE (P (pre ++ [d])) D y S4) (LcP (P (pre ++ [d])) D S3))
    (hd : ∀ acc S D, P ds acc S → S D = none → Q (.ref D) (up S D (.lst acc))) : (∃ xs, lstOf S1 x xs) ∧ LcQ (jE x) g tt te vs σ Q S1 := by
  refine ⟨⟨ds, hx⟩, fun D hD => ?_⟩
  refine ⟨fun i m S => m = ds.length - i ∧ i ≤ ds.length ∧ LcP (P (ds.take i)) D S, ⟨ds.length, by simp, Nat.zero_le _, [], S1, rfl, hD, by simpa using h0⟩, ?_⟩
  rintro i m S ⟨rfl, hi, acc, S0, rfl, n0, p⟩
  have l := lstUp (o := .lst acc) n0 (hl _ _ _ p)
  by_cases hlt : i < ds.length
  · have e : ds = ds.take i ++ ds[i] :: ds.drop (i + 1) := by
      rw [← List.drop_eq_getElem_cons hlt, List.take_append_drop]
    have hl' : (ds.take i).length = i := by rw [List.length_take]; omega
    have e2 : ds.take (i + 1) = ds.take i ++ [ds[i]] := by rw [List.take_succ_eq_append_getElem hlt]
    have e3 : ds[i]? = some ds[i] := List.getElem?_eq_getElem hlt
    refine .inr ⟨⟨ds, _, l, e3⟩, LcP (P (ds.take i ++ [ds[i]])) D, ?_, fun x' y => ?_⟩
    · intro S' p'
      exact ⟨ds.length - (i + 1), by omega, rfl, hlt, by rw [e2]; exact p'⟩
    · obtain ⟨d, rfl, y⟩ := y
      have e4 := y ds l
      rw [e3] at e4
      cases e4
      have := hs _ _ _ acc S0 D e p n0
      rw [hl'] at this
      exact this
  · have e : i = ds.length := by omega
    subst e
    rw [List.take_length] at p
    exact .inl ⟨⟨ds, l, Nat.le_refl _⟩, hd acc S0 D p n0⟩
theorem lc_rng {lo c : Int} {n : Nat} {g : DG} {tt : DT} {te : DE} {vs : List Nat} {σ : DSt} {Q : DK} {S1 : Sr} (P : Nat → List DV → Sr → Prop) (h0 : P 0 [] S1)
    (hs : ∀ i acc S0 D, i < n → P i acc S0 → S0 D = none → g (.int (lo + (i : Int) * c)) (wipeS σ vs) (up S0 D (.lst acc)) fun σ2 S2 => tt σ2 S2 fun k S3 => br k (te σ2 S3 fun y S4 => LcE (P (i + 1)) D y S4) (LcP (P (i + 1)) D S3))
    (hd : ∀ acc S D, P n acc S → S D = none → Q (.ref D) (up S D (.lst acc))) : LcQ (jR lo c n) g tt te vs σ Q S1 := by
  intro D hD
  refine ⟨fun i m S => m = n - i ∧ i ≤ n ∧ LcP (P i) D S, ⟨n, by simp, Nat.zero_le _, [], S1, rfl, hD, h0⟩, ?_⟩
  rintro i m S ⟨rfl, hi, acc, S0, rfl, n0, p⟩
  by_cases hlt : i < n
  · refine .inr ⟨hlt, LcP (P (i + 1)) D, fun S' p' => ⟨n - (i + 1), by omega, rfl, hlt, p'⟩, fun x' y => ?_⟩
    have y : x' = .int (lo + (i : Int) * c) := y
    subst y
    exact hs i acc S0 D hlt p n0
  · have e : i = n := by omega
    subst e
    exact .inl ⟨Nat.le_refl _, hd acc S0 D p n0⟩
theorem lc_tupl {ds : List DV} {g : DG} {tt : DT} {te : DE} {vs : List Nat} {σ : DSt} {Q : DK} {S1 : Sr} (P : List DV → List DV → Sr → Prop) (h0 : P [] [] S1)
    (hs : ∀ pre d post acc S0 D, ds = pre ++ d :: post → P pre acc S0 → S0 D = none → g d (wipeS σ vs) (up S0 D (.lst acc)) fun σ2 S2 => tt σ2 S2 fun k S3 => br k (te σ2 S3 fun y S4 => LcE (P (pre ++ [d])) D y S4) (LcP (P (pre ++ [d])) D S3))
    (hd : ∀ acc S D, P ds acc S → S D = none → Q (.ref D) (up S D (.lst acc))) : LcQ (jT ds) g tt te vs σ Q S1 := by
  intro D hD
  refine ⟨fun i m S => m = ds.length - i ∧ i ≤ ds.length ∧ LcP (P (ds.take i)) D S, ⟨ds.length, by simp, Nat.zero_le _, [], S1, rfl, hD, by simpa using h0⟩, ?_⟩
  rintro i m S ⟨rfl, hi, acc, S0, rfl, n0, p⟩
  by_cases hlt : i < ds.length
  · have e : ds = ds.take i ++ ds[i] :: ds.drop (i + 1) := by
      rw [← List.drop_eq_getElem_cons hlt, List.take_append_drop]
    have e2 : ds.take (i + 1) = ds.take i ++ [ds[i]] := by rw [List.take_succ_eq_append_getElem hlt]
    refine .inr ⟨hlt, LcP (P (ds.take i ++ [ds[i]])) D, ?_, fun x' y => ?_⟩
    · intro S' p'
      exact ⟨ds.length - (i + 1), by omega, rfl, hlt, by rw [e2]; exact p'⟩
    · have y : ds[i]? = some x' := y
      rw [List.getElem?_eq_getElem hlt] at y
      cases y
      exact hs _ _ _ acc S0 D e p n0
  · have e : i = ds.length := by omega
    subst e
    rw [List.take_length] at p
    exact .inl ⟨Nat.le_refl _, hd acc S0 D p n0⟩
end Dv
set_option Elab.async false
set_option linter.all false
set_option maxRecDepth 100000
set_option maxHeartbeats 1000000
namespace Dv
open PySem PySem.Spec PyProof.Rows L2

/-! ### dict(a list of pairs) -/
section
variable {X : Cx} {H0 : Hp}
theorem pairs_rl {K : PySem.W.Frag} {H : Hp} : ∀ {vs : List V} {kvs : List (Key × DV)}, Rls K H vs (kvs.map fun kv => DV.tup [keyD kv.1, kv.2]) →
    ∃ (ps : List Addr) (ms : List (Key × V)), vs = ps.map V.ref ∧ Paired (fun p kv => SqT K H p [kV kv.1, kv.2]) ps ms ∧ Rps K H ms kvs
  | _, [], r => by cases r; exact ⟨[], [], rfl, .nil, trivial⟩
  | _, (k, d) :: kvs, r => by
    rw [List.map_cons] at r
    cases r with
    | cons r rs =>
      obtain ⟨ps, ms, rfl, h1, h2⟩ := pairs_rl rs
      cases r with
      | tup s q =>
        cases q with
        | cons q1 q =>
          cases q with
          | cons q2 q =>
            cases q
            rw [key_rl q1] at s
            exact ⟨_ :: ps, (k, _) :: ms, rfl, .cons (.of s) h1, rfl, q2, h2⟩
def rDictP : DRl
  | [x], S, Q => ∃ kvs : List (Key × DV), lstOf S x (kvs.map fun kv => DV.tup [keyD kv.1, kv.2]) ∧ ∀ p, S p = none → Q (.ref p) (up S p (.dK (mergeD [] kvs)))
  | _, _, _ => False
theorem newDK {K : PySem.W.Frag} {H : Hp} {S : Sr} {p : Addr} {xs : List (Key × V)} {kvs : List (Key × DV)} (n : H p = none) (st : Sat K H S) (r : Rps K H xs kvs) : Sat K (upd H p (.dK xs)) (up S p (.dK kvs)) := st.new (o := .dK kvs) n trivial fun _ => ⟨xs, upd_same, r.mono (.new n)⟩
theorem b_dictP (hc : X.calm = true := by rfl) : DCb X H0 (.type "dict") rDictP := by
  refine ⟨_, call_dictP hc, fun vs ds H S Q R t0 a st c h => ?_⟩
  cases a with
  | cons r rr =>
    cases rr with
    | nil =>
      obtain ⟨kvs, h, q⟩ := h
      obtain ⟨a, ws, rfl, sq, rs⟩ := h.sq st r
      obtain ⟨ps, ms, rfl, h1, h2⟩ := pairs_rl rs
      exact ⟨a, ps, ms, rfl, sq, h1, fun p hp => c _ _ _ _ (.new hp) (.ref p) (newDK hp st (Rps.merge (ps := []) (qs := []) h2 trivial)) (q p (st.free hp))⟩
    | cons _ _ => exact h.elim
  | nil => exact h.elim
end

/-! ### list.remove of data at any depth: the first equal one -/
section
open PySem.SeqAt PySem.MeetsSeq
theorem remove_loopAt (l : Addr) (items : Array Value) (n : Nat) (x : Value) (e : Value → Bool) (j : Nat) (hj : j < items.size) (hit : e items[j] = true) (k : Nat) (hs1 : items.size ≤ sizeLine) :
    ∀ i : Nat, j - i = k → i ≤ j → (∀ m (hm : m < items.size), i ≤ m → m < j → e items[m] = false) → Meets (Builtin.«list.remove.loop» ⟨[.ref l, x, rawInt i], []⟩)
      (fun A R s => s.heap.get? l = some { cls := .type "list", dict := none, data := .seq items n, slots := #[] } ∧ (∀ y, y ∈ items → EqAt A.in1 s y x (e y)) ∧ R (.ok (.ret .none)) { s with heap := s.heap.update l (Obj.mapSeq fun xs => xs.eraseIdxIfInBounds j) }) := by
  induction k with
  | zero =>
    intro i hk hij hno prog w A R s h
    obtain ⟨hp, g, d, tk, os⟩ := s; obtain ⟨hl, he, h⟩ := h
    have hij' : i = j := by omega
    subst hij'
    wp_walk using wpAny_loadPart' hl
    have hi : items[((i : Nat) : Int).toNat]? = some items[i] := by simp [hj]
    rw [hi]
    refine wpAny_bind (he _ (Array.getElem_mem hj) prog w _ _ ?_)
    rw [hit]
    have hz' : (items.eraseIdxIfInBounds i).size ≤ sizeLine + 1 := Nat.le_trans (size_erased items _) (Nat.le_succ_of_le hs1)
    wp_walk using (wpAny_updateSeq hl rfl (hz := hs1) (_hz' := hz')), wpAny_loadPart' hl
    simpa using h
  | succ k ih =>
    intro i hk hij hno prog w A R s h
    obtain ⟨hp, g, d, tk, os⟩ := s; obtain ⟨hl, he, h⟩ := h
    have hlt : i < items.size := by omega
    wp_walk using wpAny_loadPart' hl
    have hi : items[((i : Nat) : Int).toNat]? = some items[i] := by simp [hlt]
    have hc : ((i : Int) + 1) = ((i + 1 : Nat) : Int) := by push_cast; rfl
    rw [hi]
    refine wpAny_bind (he _ (Array.getElem_mem hlt) prog w _ _ ?_)
    rw [hno i hlt (Nat.le_refl _) (by omega)]
    wp_walk
    rw [hc]
    exact ⟨plainId_quiet plain_remove_loop _, codeAny_builtin entry_remove_loop (by
      rw [Around.under_plainId plain_remove_loop _]
      exact ih (i + 1) (by omega) (by omega) (fun m hm h1 h2 => hno m hm (by omega) h2) prog w A R _ ⟨hl, he, h⟩)⟩
theorem list_removeAt (l : Addr) (items : Array Value) (n : Nat) (x : Value) (e : Value → Bool) (j : Nat) (hj : j < items.size) (hit : e items[j] = true) (hno : ∀ m (hm : m < items.size), m < j → e items[m] = false) (hs1 : items.size ≤ sizeLine) :
    Meets (Builtin.«list.remove» ⟨[.ref l, x], []⟩)
      (fun A R s => s.heap.get? l = some { cls := .type "list", dict := none, data := .seq items n, slots := #[] } ∧ (∀ y, y ∈ items → EqAt A.in1 s y x (e y)) ∧ R (.ok (.ret .none)) { s with heap := s.heap.update l (Obj.mapSeq fun xs => xs.eraseIdxIfInBounds j) }) := by
  intro prog w A R s h
  obtain ⟨hp, g, d, tk, os⟩ := s; obtain ⟨hl, he, h⟩ := h
  wp_walk using wpAny_loadPart' hl
  exact ⟨plainId_quiet plain_remove_loop _, codeAny_builtin entry_remove_loop (by
    rw [Around.under_plainId plain_remove_loop _]
    exact remove_loopAt l items n x e j hj hit _ hs1 0 rfl (Nat.zero_le _) (fun m hm _ h2 => hno m hm h2) prog w A R _ ⟨hl, he, h⟩)⟩
end
section
variable {X : Cx} {H0 : Hp}
def rRemD (K : PySem.W.Frag) : V → List V → Hp → VK → Prop := fun x xs H Q => ∃ (a : Addr) (vs : List V) (y : V) (d : PyData) (ds : List PyData) (j : Nat) (z : PyData), x = V.ref a ∧ xs = [y] ∧ H a = some (.lst vs) ∧ DpAll K H vs ds ∧ Dp K H y d ∧
  SeqAt.shaped (.list ds) = true ∧ SeqAt.shaped d = true ∧ ds[j]? = some z ∧ PyData.eqv z d = true ∧ (∀ (m : Nat) (z' : PyData), m < j → ds[m]? = some z' → PyData.eqv z' d = false) ∧ Q .non (upd H a (.lst (vs.eraseIdx j)))
theorem mt_removeD (hu : X.A.units + 65 < cLine) : MtR X "list.remove" (rRemD X.K) := by
  intro pins s σ H x xs v us Q I rx rxs h
  obtain ⟨a, vs, y, d, ds, j, z, rfl, rfl, hH, ha, hy, sl, sd, hz, hzj, hno, q⟩ := h
  cases rx
  cases rxs with
  | cons ry rt =>
    rename_i uy ut
    cases rt
    obtain ⟨bs, r1⟩ := Dp.reads I d y uy hy ry
    have hxs : PyData.canLayAll0 ds = true := SeqAt.canLay_of_shaped sl
    have hroom : X.A.units + 1 + min (PyData.depthAll ds) d.depth < cLine := room_in_shaped sd hu
    obtain ⟨zl, its, n, rv, hl, e⟩ := I.lstM hH
    obtain ⟨as, h4⟩ := Dp.readsAll I ds _ its ha rv
    have hn : its.length = ds.length := SeqAt.ReadsAll.length ds its as h4
    have hmap : its.map (SeqAt.readOf s.heap) = ds := SeqAt.readsAll_map ds its as hxs h4
    have hvl := rv.length
    have hsl := sizeLine_eq
    obtain ⟨hjd, _⟩ := List.getElem?_eq_some_iff.mp hz
    have hjl : j < its.length := by omega
    have hj : j < its.toArray.size := by simpa using hjl
    have at_ : ∀ (m : Nat) (hm : m < its.toArray.size) (z' : PyData), ds[m]? = some z' → SeqAt.readOf s.heap its.toArray[m] = z' := by
      intro m hm z' hz'
      have hml : m < its.length := by simpa using hm
      rw [← hmap, List.getElem?_map, List.getElem?_eq_getElem hml] at hz'
      have e1 : SeqAt.readOf s.heap its[m] = z' := Option.some.inj (show some (SeqAt.readOf s.heap its[m]) = some z' from hz')
      simpa using e1
    refine call_meets PySem.F.slot_list_remove ⟨_, e, rfl⟩ PySem.F.entry_list_remove (PySem.F.args_list_remove_2 _ _)
      (list_removeAt a its.toArray n uy (fun u => PyData.eqv (SeqAt.readOf s.heap u) d) j hj ?_ ?_ (by rw [List.size_toArray]; omega)) ⟨e, SeqAt.items_eqAt (vs := its.toArray) (show ReadsAll s.heap its.toArray.toList ds as from h4) r1 hxs (SeqAt.canLay_of_shaped sd) hroom, ?_⟩
    · show PyData.eqv (SeqAt.readOf s.heap its.toArray[j]) d = true
      rw [at_ j hj z hz]
      exact hzj
    · intro m hm hmj
      have hmd : m < ds.length := by omega
      have hz' : ds[m]? = some ds[m] := List.getElem?_eq_getElem hmd
      show PyData.eqv (SeqAt.readOf s.heap its.toArray[m]) d = false
      rw [at_ m hm _ hz']
      exact hno m _ hmj hz'
    · refine ⟨.non, _, I.lset (its' := its.eraseIdx j) (t' := s.toks) hH e ?_ (rv.eraseIdx j) ?_, rfl, q⟩
      · show its.toArray.eraseIdxIfInBounds j = (its.eraseIdx j).toArray
        rw [List.eraseIdxIfInBounds_toArray]
      · have z2 := len_erase vs j
        omega
def rRem : DRm
  | .ref a, [y], S, Q => ∃ ds ps p j z, S a = some (.lst ds) ∧ Pys S ds ps ∧ Py S y p ∧ SeqAt.shaped (.list ps) = true ∧ SeqAt.shaped p = true ∧ ps[j]? = some z ∧ PyData.eqv z p = true ∧ (∀ (m : Nat) (z' : PyData), m < j → ps[m]? = some z' → PyData.eqv z' p = false) ∧ Q .non (up S a (.lst (ds.eraseIdx j)))
  | _, _, _, _ => False
theorem m_remove (hu : X.A.units + 65 < cLine) : DMt X H0 "list.remove" rRem := by
  refine ⟨_, mt_removeD hu, fun v vs d ds H S Q R t0 p q st c h => ?_⟩
  cases p with
  | ref a =>
    cases q with
    | nil => exact h.elim
    | cons r rr =>
      cases rr with
      | nil =>
        obtain ⟨ds, ps, p, j, z, e, hp, hy, s1, s2, hz, h1, h2, k⟩ := h
        obtain ⟨xs, f, rs⟩ := st.lst e
        obtain ⟨t1, s3⟩ := setLst st e f (rs.eraseIdx j)
        exact ⟨a, xs, _, p, ps, j, z, rfl, rfl, f, hp.dp st rs, hy.dp st r, s1, s2, hz, h1, h2, c _ _ _ _ t1 .non s3 k⟩
      | cons _ _ => exact h.elim
  | _ => cases q <;> exact h.elim
end

/-! ### boxes: a part of the store that is hidden -/
def boxOk (K : PySem.W.Frag) (P : Addr → Sr → Prop) (H : Hp) (a : Addr) (own : Addr → Prop) : Prop :=
  ∃ S ow, P a S ∧ SatW K H S ow ∧ S a ≠ none ∧ (∀ c, S c ≠ none ∨ ow c ≠ none → c = a ∨ own c)
def mkBox (K : PySem.W.Frag) (P : Addr → Sr → Prop) : BoxP where
  ok := boxOk K P
  there := fun {H a own} ⟨S, ow, _, w, n, _⟩ => by
    cases q : S a with
    | none => exact absurd q n
    | some o => exact w.there q
  stay := fun {H H' a own} ⟨S, ow, p, w, n, f⟩ t k => ⟨S, ow, p, w.stay t fun b hb => k b (f b hb), n, f⟩
open Classical in
/-- S with the part S' in it -/
noncomputable def mix (S S' : Sr) : Sr := fun c => if S' c = none then S c else S' c
theorem mix_in {S S' : Sr} {c : Addr} {o : MO} (h : S' c = some o) : mix S S' c = some o := by
  unfold mix
  rw [if_neg (by rw [h]; simp)]; exact h
theorem mix_out {S S' : Sr} {c : Addr} (h : S' c = none) : mix S S' c = S c := by
  unfold mix
  rw [if_pos h]
/-- a box is opened -/
theorem Sat.unbox {K : PySem.W.Frag} {H : Hp} {S : Sr} {a : Addr} {P : Addr → Sr → Prop} (h : Sat K H S) (e : S a = some (.box (mkBox K P))) :
    ∃ S', P a S' ∧ S' a ≠ none ∧ (∀ c, S' c ≠ none → c ≠ a → S c = none) ∧ Sat K H (mix S S') := by
  obtain ⟨ow, w⟩ := h
  obtain ⟨S', ow', p, w', n, f⟩ := w.obj a _ e
  have out : ∀ c, c ≠ a → (S' c ≠ none ∨ ow' c ≠ none) → ow c = some a := fun c hc hb => (f c hb).resolve_left hc
  refine ⟨S', p, n, fun c hc ne => (w.hid c a (out c ne (.inl hc))).1, ?_⟩
  refine ⟨fun c => match ow' c with
    | some b => some b
    | none => if ow c = some a then none else ow c, fun b u q => ?_, fun c b q => ?_⟩
  · by_cases hb : S' b = none
    · rw [mix_out hb] at q
      have hba : b ≠ a := fun z => n (z ▸ hb)
      have e0 := w.obj b u q
      have eq : (fun c => (match ow' c with
        | some b => some b
        | none => if ow c = some a then none else ow c) = some b) = fun c => ow c = some b := by
        funext c
        apply propext
        cases r : ow' c with
        | some d =>
          have hd := (w'.hid c d r)
          have hc : c ≠ a := fun z => n (z ▸ hd.1)
          have oc := out c hc (.inr (by rw [r]; simp))
          constructor
          · intro z
            have z : some d = some b := z
            cases z
            obtain ⟨φ, hφ⟩ := hd.2.2
            rw [hb] at hφ; cases hφ
          · intro z
            rw [oc] at z; cases z; exact absurd rfl hba
        | none =>
          by_cases oc : ow c = some a
          · simp only [oc, if_true]
            constructor
            · intro z; cases z
            · intro z; cases z; exact absurd rfl hba
          · simp only [if_neg oc]
      rw [eq]; exact e0
    · cases r : S' b with
      | none => exact absurd r hb
      | some u' =>
        rw [mix_in r] at q
        cases q
        have e0 := w'.obj b u r
        have eq : (fun c => (match ow' c with
          | some b => some b
          | none => if ow c = some a then none else ow c) = some b) = fun c => ow' c = some b := by
          funext c
          apply propext
          cases r2 : ow' c with
          | some d => rfl
          | none =>
            constructor
            · intro z
              by_cases oc : ow c = some a
              · simp only [oc, if_true] at z; cases z
              · simp only [if_neg oc] at z
                by_cases hba : b = a
                · exact absurd (hba ▸ z) oc
                · have := (w.hid c b z).2.2
                  obtain ⟨φ, hφ⟩ := this
                  have ob := out b hba (.inl hb)
                  rw [(w.hid b a ob).1] at hφ; cases hφ
            · intro z; cases z
        rw [eq]; exact e0
  · cases r : ow' c with
    | some d =>
      simp only [r] at q
      have e9 : d = b := Option.some.inj q
      subst e9
      obtain ⟨h1, h2, φ, h3⟩ := w'.hid c d r
      have hc : c ≠ a := fun z => n (z ▸ h1)
      have oc := out c hc (.inr (by rw [r]; simp))
      exact ⟨by rw [mix_out h1]; exact (w.hid c a oc).1, h2, φ, mix_in h3⟩
    | none =>
      rw [r] at q
      by_cases oc : ow c = some a
      · simp only [oc, if_true] at q; cases q
      · simp only [if_neg oc] at q
        obtain ⟨h1, h2, φ, h3⟩ := w.hid c b q
        have hc : c ≠ a := fun z => by rw [z, e] at h1; cases h1
        have n1 : S' c = none := by
          cases y : S' c with
          | none => rfl
          | some u => exact absurd (out c hc (.inl (by rw [y]; simp))) oc
        have n2 : S' b = none := by
          cases y : S' b with
          | none => rfl
          | some u =>
            by_cases hba : b = a
            · exact absurd (hba ▸ q) oc
            · have ob := out b hba (.inl (by rw [y]; simp))
              rw [(w.hid b a ob).1] at h3; cases h3
        exact ⟨by rw [mix_out n1]; exact h1, h2, φ, by rw [mix_out n2]; exact h3⟩
open Classical in
/-- the objects of T are put into a box at a -/
noncomputable def boxed (S : Sr) (T : Addr → Prop) (a : Addr) (φ : BoxP) : Sr := fun c => if c = a then some (.box φ) else if T c then none else S c
open Classical in
noncomputable def part (S : Sr) (T : Addr → Prop) : Sr := fun c => if T c then S c else none
theorem part_in {S : Sr} {T : Addr → Prop} {c : Addr} (h : T c) : part S T c = S c := by unfold part; rw [if_pos h]
theorem part_out {S : Sr} {T : Addr → Prop} {c : Addr} (h : ¬ T c) : part S T c = none := by unfold part; rw [if_neg h]
open Classical in
theorem Sat.box {K : PySem.W.Frag} {H : Hp} {S : Sr} {a : Addr} {P : Addr → Sr → Prop} (h : Sat K H S) (T : Addr → Prop) (ta : T a) (ha : S a ≠ none) (p : P a (part S T)) : Sat K H (boxed S T a (mkBox K P)) := by
  obtain ⟨ow, w⟩ := h
  have there : ∀ c, S c ≠ none → H c ≠ none := fun c hc => by
    cases q : S c with
    | none => exact absurd q hc
    | some o => exact w.there q
  refine ⟨fun c => if T c ∧ c ≠ a ∧ S c ≠ none then some a else match ow c with
    | some b => if T b then some a else some b
    | none => none, fun b u q => ?_, fun c b q => ?_⟩
  · by_cases hb : b = a
    · subst hb
      unfold boxed at q
      rw [if_pos rfl] at q
      cases q
      refine ⟨part S T, fun c => match ow c with
        | some b => if T b then some b else none
        | none => none, p, ⟨fun d v r => ?_, fun c d r => ?_⟩, by rw [part_in ta]; exact ha, fun c hc => ?_⟩
      · by_cases td : T d
        · rw [part_in td] at r
          have e0 := w.obj d v r
          have eq : (fun c => (match ow c with
            | some b => if T b then some b else none
            | none => none) = some d) = fun c => ow c = some d := by
            funext c
            apply propext
            cases r2 : ow c with
            | none => exact Iff.rfl
            | some b' =>
              by_cases tb : T b'
              · simp only [if_pos tb]
              · simp only [if_neg tb]
                constructor
                · intro z; cases z
                · intro z; cases z; exact absurd td tb
          rw [eq]; exact e0
        · rw [part_out td] at r; cases r
      · cases r2 : ow c with
        | none => rw [r2] at r; cases r
        | some b' =>
          rw [r2] at r
          by_cases tb : T b'
          · simp only [if_pos tb] at r
            cases r
            obtain ⟨h1, h2, φ, h3⟩ := w.hid c _ r2
            refine ⟨?_, h2, φ, by rw [part_in tb]; exact h3⟩
            by_cases tc : T c
            · rw [part_in tc]; exact h1
            · rw [part_out tc]
          · simp only [if_neg tb] at r; cases r
      · by_cases hca : c = b
        · exact .inl hca
        · right
          by_cases hS : T c ∧ c ≠ b ∧ S c ≠ none
          · simp only [if_pos hS]
          · rcases hc with hc | hc
            · by_cases tc : T c
              · rw [part_in tc] at hc
                exact absurd ⟨tc, hca, hc⟩ hS
              · rw [part_out tc] at hc
                exact absurd rfl hc
            · simp only [if_neg hS]
              cases r2 : ow c with
              | none => simp only [r2] at hc; exact absurd rfl hc
              | some b' =>
                simp only [r2] at hc
                by_cases tb : T b'
                · simp only [if_pos tb]
                · simp only [if_neg tb] at hc; exact absurd rfl hc
    · unfold boxed at q
      rw [if_neg hb] at q
      by_cases tb : T b
      · rw [if_pos tb] at q; cases q
      · rw [if_neg tb] at q
        have e0 := w.obj b u q
        have eq : (fun c => (if T c ∧ c ≠ a ∧ S c ≠ none then some a else match ow c with
          | some b => if T b then some a else some b
          | none => none) = some b) = fun c => ow c = some b := by
          funext c
          apply propext
          by_cases hS : T c ∧ c ≠ a ∧ S c ≠ none
          · simp only [if_pos hS]
            constructor
            · intro z; cases z; exact absurd rfl hb
            · intro z; exact absurd (w.hid c b z).1 hS.2.2
          · simp only [if_neg hS]
            cases r2 : ow c with
            | none => exact Iff.rfl
            | some b' =>
              by_cases tb' : T b'
              · simp only [if_pos tb']
                constructor
                · intro z; cases z; exact absurd rfl hb
                · intro z; cases z; exact absurd tb' tb
              · simp only [if_neg tb']
        rw [eq]; exact e0
  · by_cases hS : T c ∧ c ≠ a ∧ S c ≠ none
    · simp only [if_pos hS] at q
      cases q
      refine ⟨?_, there c hS.2.2, mkBox K P, by unfold boxed; rw [if_pos rfl]⟩
      unfold boxed
      rw [if_neg hS.2.1, if_pos hS.1]
    · simp only [if_neg hS] at q
      cases r2 : ow c with
      | none => rw [r2] at q; cases q
      | some b' =>
        rw [r2] at q
        obtain ⟨h1, h2, φ, h3⟩ := w.hid c b' r2
        have hca : c ≠ a := fun z => ha (z ▸ h1)
        have hc0 : boxed S T a (mkBox K P) c = none := by
          unfold boxed
          rw [if_neg hca, h1]
          split <;> rfl
        by_cases tb : T b'
        · simp only [if_pos tb] at q
          cases q
          exact ⟨hc0, h2, mkBox K P, by unfold boxed; rw [if_pos rfl]⟩
        · simp only [if_neg tb] at q
          cases q
          refine ⟨hc0, h2, φ, ?_⟩
          unfold boxed
          rw [if_neg (show ¬ b = a from fun z => tb (z ▸ ta)), if_neg tb]
          exact h3

theorem Opens.unbox {K : PySem.W.Frag} {S : Sr} {a : Addr} {P : Addr → Sr → Prop} {F : Sr → Prop} (e : S a = some (.box (mkBox K P))) (h : ∀ S', P a S' → S' a ≠ none → (∀ c, S' c ≠ none → c ≠ a → S c = none) → F (mix S S')) : Opens K S F := fun _ st =>
  let ⟨S', p, n, d, st'⟩ := st.unbox e
  ⟨_, st', h S' p n d⟩
theorem Opens.box {K : PySem.W.Frag} {S : Sr} {a : Addr} {P : Addr → Sr → Prop} {F : Sr → Prop} (T : Addr → Prop) (ta : T a) (ha : S a ≠ none) (p : P a (part S T)) (h : F (boxed S T a (mkBox K P))) : Opens K S F := fun _ st => ⟨_, st.box T ta ha p, h⟩
theorem room65 {k : Nat} {A : Around} (hr : Room k A) : A.units + 65 < cLine := by
  have := hr.un
  omega
/-! ### the end of a law -/
theorem FnOk.cx0 {P : Program} {w : World} {K : PySem.W.Frag} {mg : Str → Option Value} {base : Heap} {k : Nat} {f : Addr} {fd : FuncData} {ps : List Str} {sd : SpD} (F : FnOk P w K mg base (L2.CX P w) k f fd ps (spV K sd)) (hE : ∀ ds S Q E, sd ds S Q E → sd ds S Q Ed0) : FnOk P w K mg base CX0 k f fd ps (spV K sd) := by
  refine ⟨fun vs H Q E h => F.len vs H Q E h, fun A outer s H args us vs Q E hr e b r h => ?_⟩
  obtain ⟨ds, S, Qd, Ed, h1, h2, h3, h4, h5⟩ := h
  have := F.run A outer s H args us vs Q E0 hr e b r ⟨ds, S, Qd, Ed0, h1, h2, hE _ _ _ _ h3, h4, lnk0⟩
  refine codeAny_mono this fun r' s' q => ?_
  cases r' with
  | ok v => cases v <;> exact q
  | error e =>
    obtain ⟨_, _, _, _, _, _, _, _, _, _, _, _, z⟩ := q
    exact z.elim
/-- what a law promises: the script in, True out -/
def spLaw : SpD := fun ds _ Q _ => ∃ ns : List Int, ds = [.scr ns] ∧ ns.length ≤ 63 ∧ ∀ S', Q (.bl true) S'
theorem law_in {K : PySem.W.Frag} {H : Hp} {a : Addr} {ns : List Int} (hl : ns.length ≤ 63) (hO : Only H) (hS : SqL K H a (ns.map V.int)) : spV K spLaw [.ref a] H (fun v _ => v = .bl true) fun _ _ _ => False := by
  refine ⟨[.scr ns], fun _ => none, fun d _ => d = .bl true, Ed0, .cons (.scr ?_) .nil, ⟨fun _ => none, fun _ _ e => (by cases e), fun _ _ e => (by cases e)⟩, ⟨ns, rfl, hl, fun _ => rfl⟩, fun v H' d S' _ r _ e => ?_, lnk0⟩
  · rcases hS with (h | ⟨o, h⟩) | h
    · rcases hO a with n | ⟨o, xs, n⟩
      · rw [n] at h; cases h
      · rw [n] at h; cases h
    · exact .inl ⟨o, h⟩
    · exact .inr h
  · have e : d = .bl true := e
    subst e
    cases r
    rfl
end Dv
set_option Elab.async false
set_option linter.all false
set_option maxRecDepth 100000
set_option maxHeartbeats 1000000
namespace Dv
open PySem PySem.Spec PyProof.Rows L2

/-! ### the law's deck: a list of its cells, its seed, its count; hidden in a box -/
structure DeckAt (S : Sr) (a b : Addr) (cells : List Int) (seed cnt : Int) : Prop where
  la : S a = some (.lst [.ref b, .int seed, .int cnt])
  lb : S b = some (.lst (cells.map DV.int))
  ne : a ≠ b
  len : cells.length ≤ 63
def deckP (a : Addr) (S : Sr) : Prop := ∃ b cells seed cnt, DeckAt S a b cells seed cnt ∧ ∀ c, S c ≠ none → c = a ∨ c = b
abbrev deckB (K : PySem.W.Frag) : MO := .box (mkBox K deckP)
theorem deck_shut {K : PySem.W.Frag} {S S2 : Sr} {a b : Addr} {cells : List Int} {seed cnt : Int} {G : Sr → Prop} (d : DeckAt S2 a b cells seed cnt) (k : ∀ c o, c ≠ a → S c = some o → c ≠ b ∧ S2 c = some o) (ha : ∀ o, S a = some o → o = deckB K) (g : G S) : Opens K S2 G := by
  refine Opens.then (F := fun S3 => Sub S S3) (Opens.box (fun c => c = a ∨ c = b) (.inl rfl) (by rw [d.la]; simp) ?_ (P := deckP) (a := a) ?_) fun S3 h => Opens.sub h g
  · refine ⟨b, cells, seed, cnt, ⟨?_, ?_, d.ne, d.len⟩, fun c hc => ?_⟩
    · rw [part_in (.inl rfl)]; exact d.la
    · rw [part_in (.inr rfl)]; exact d.lb
    · by_cases h : c = a ∨ c = b
      · exact h
      · rw [part_out h] at hc; exact absurd rfl hc
  · intro c o e
    by_cases hc : c = a
    · subst hc
      unfold boxed
      rw [if_pos rfl, ha o e]
    · obtain ⟨h1, h2⟩ := k c o hc e
      unfold boxed
      rw [if_neg hc, if_neg (fun z => z.elim hc h1)]
      exact h2
theorem deck_open {K : PySem.W.Frag} {S : Sr} {a : Addr} {F : Sr → Prop} (e : S a = some (deckB K))
    (h : ∀ b cells seed cnt S1, DeckAt S1 a b cells seed cnt → (∀ S2 cells' seed' cnt', DeckAt S2 a b cells' seed' cnt' → (∀ c o, c ≠ a → c ≠ b → S1 c = some o → S2 c = some o) → ∀ G : Sr → Prop, G S → Opens K S2 G) → F S1) : Opens K S F := by
  refine Opens.unbox e fun S' p n dj => ?_
  obtain ⟨b, cells, seed, cnt, d, hc⟩ := p
  refine h b cells seed cnt _ ⟨mix_in d.la, mix_in d.lb, d.ne, d.len⟩ fun S2 cells' seed' cnt' d2 k G g => ?_
  refine deck_shut d2 (fun c o hca eo => ?_) (fun o eo => by rw [e] at eo; exact (Option.some.inj eo).symm) g
  have hb : S b = none := dj b (by rw [d.lb]; simp) (Ne.symm d.ne)
  have hcb : c ≠ b := sne eo hb
  refine ⟨hcb, k c o hca hcb ?_⟩
  rw [mix_out]
  · exact eo
  · cases q : S' c with
    | none => rfl
    | some u => exact ((hc c (by rw [q]; simp)).elim hca hcb).elim
/-- a draw: some number below many -/
def spDraw (K : PySem.W.Frag) : SpD := fun ds S Q _ => ∃ (a : Addr) (m : Int), ds = [.ref a, .int m] ∧ S a = some (deckB K) ∧ 0 < m ∧ m ≤ 1152921504606846976 ∧ ∀ n, 0 ≤ n → n < m → Q (.int n) S
/-- the deck of a script -/
def spDeck (K : PySem.W.Frag) : SpD := fun ds S Q _ => ∃ ns : List Int, ds = [.scr ns] ∧ ns.length ≤ 63 ∧ ∀ a, S a = none → Q (.ref a) (up S a (deckB K))
end Dv
set_option Elab.async false
set_option linter.all false
set_option maxRecDepth 100000
set_option maxHeartbeats 1000000
namespace Dv
open PySem PySem.Spec PyProof.Rows L2

/-! ### facts of the store -/
/-- nothing is there -/
def Fr (S : Sr) (p : Addr) : Prop := S p = none
theorem up_at {S : Sr} {a p : Addr} {o u : MO} (n : Fr S p) (h : S a = some o) : up S p u a = some o := by rw [up_ne (sne h n)]; exact h
theorem up_at2 {S : Sr} {a p : Addr} {o u : MO} (n : a ≠ p) (h : S a = some o) : up S p u a = some o := by rw [up_ne n]; exact h
theorem sneF {S : Sr} {a b : Addr} {o : MO} (h : S a = some o) (h' : Fr S b) : a ≠ b := sne h h'
theorem Sub.at {S S' : Sr} {a : Addr} {o : MO} (s : Sub S S') (h : S a = some o) : S' a = some o := s a o h
theorem Sub.up2 {S S' : Sr} {p : Addr} {o : MO} (s : Sub S S') (n : Fr S' p) : Sub S (Dv.up S' p o) := s.trans (.new n)
/-- all but those at M stays -/
def Keep (M : Addr → Prop) (S S' : Sr) : Prop := ∀ c o, ¬ M c → S c = some o → S' c = some o
theorem Keep.refl {M : Addr → Prop} {S : Sr} : Keep M S S := fun _ _ _ h => h
theorem Keep.trans {M : Addr → Prop} {S S1 S2 : Sr} (h : Keep M S S1) (k : Keep M S1 S2) : Keep M S S2 := fun c o m e => k c o m (h c o m e)
theorem Keep.of_sub {M : Addr → Prop} {S S' : Sr} (h : Sub S S') : Keep M S S' := fun c o _ e => h c o e
theorem Keep.sub {M : Addr → Prop} {S S1 S2 : Sr} (h : Keep M S S1) (k : Sub S1 S2) : Keep M S S2 := fun c o m e => k c o (h c o m e)
theorem Keep.mono {M N : Addr → Prop} {S S' : Sr} (h : Keep M S S') (m : ∀ c, M c → N c) : Keep N S S' := fun c o n e => h c o (fun z => n (m c z)) e
theorem Keep.up2 {M : Addr → Prop} {S S' : Sr} {p : Addr} {o : MO} (h : Keep M S S') (n : Fr S' p) : Keep M S (up S' p o) := h.sub (.new n)
theorem Keep.set {M : Addr → Prop} {S S' : Sr} {p : Addr} {o : MO} (h : Keep M S S') (n : M p) : Keep M S (up S' p o) := fun c u m e => by rw [up_ne (fun z => m (by rw [z]; exact n))]; exact h c u m e
theorem Keep.at {M : Addr → Prop} {S S' : Sr} {a : Addr} {o : MO} (h : Keep M S S') (n : ¬ M a) (e : S a = some o) : S' a = some o := h a o n e

section
variable {K : PySem.W.Frag} {σ : DSt} {S : Sr} {Q : DK} {n : DSt → Sr → Prop} {r : DK} {b c : DSt → Sr → Prop}
/-! ### statements -/
theorem w_seq {t u : DS} (h : t ⟨u ⟨n, r, b, c⟩, r, b, c⟩ σ S) : sSeq t u ⟨n, r, b, c⟩ σ S := h
theorem w_seqE {t u : DS} (h : t ⟨u (dEnd K Q), fun d S => Opens K S (Q d), fun _ _ => False, fun _ _ => False⟩ σ S) : sSeq t u (dEnd K Q) σ S := h
theorem w_next (h : n σ S) : sNext ⟨n, r, b, c⟩ σ S := h
theorem w_nextE (h : Opens K S (Q .non)) : sNext (dEnd K Q) σ S := h
theorem w_nx (h : n σ S) : DEnds.nx ⟨n, r, b, c⟩ σ S := h
theorem w_ct (h : c σ S) : DEnds.ct ⟨n, r, b, c⟩ σ S := h
theorem w_bk (h : b σ S) : DEnds.bk ⟨n, r, b, c⟩ σ S := h
theorem w_rt {d : DV} (h : r d S) : DEnds.rt ⟨n, r, b, c⟩ d S := h
theorem w_nxE (h : Opens K S (Q .non)) : DEnds.nx (dEnd K Q) σ S := h
theorem w_rtE {d : DV} (h : Opens K S (Q d)) : DEnds.rt (dEnd K Q) d S := h
theorem w_cont (h : c σ S) : sCont ⟨n, r, b, c⟩ σ S := h
theorem w_break (h : b σ S) : sBreak ⟨n, r, b, c⟩ σ S := h
theorem w_drop {t : DE} (h : t σ S fun _ S1 => n σ S1) : sDrop t ⟨n, r, b, c⟩ σ S := h
theorem w_dropE {t : DE} (h : t σ S fun _ S1 => Opens K S1 (Q .non)) : sDrop t (dEnd K Q) σ S := h
theorem w_ret {t : DE} (h : t σ S r) : sRet t ⟨n, r, b, c⟩ σ S := h
theorem w_retE {t : DE} (h : t σ S fun d S1 => Opens K S1 (Q d)) : sRet t (dEnd K Q) σ S := h
theorem w_retN (h : r .non S) : sRetN ⟨n, r, b, c⟩ σ S := h
theorem w_retNE (h : Opens K S (Q .non)) : sRetN (dEnd K Q) σ S := h
theorem w_if {q : DT} {t u : DS} {D : DEnds} (h : q σ S fun k S1 => br k (t D σ S1) (u D σ S1)) : sIf q t u D σ S := h
theorem w_asg {t : DE} {g : DG} (h : t σ S fun x S1 => g x σ S1 n) : sAsg t g ⟨n, r, b, c⟩ σ S := h
theorem w_asgE {t : DE} {g : DG} (h : t σ S fun x S1 => g x σ S1 fun _ S2 => Opens K S2 (Q .non)) : sAsg t g (dEnd K Q) σ S := h
theorem w_name {i : Nat} {d : DV} {F : DSt → Sr → Prop} (h : F (setS σ i d) S) : nName i d σ S F := h
theorem w_ntup {k : Nat} {g : DGs} {ds : List DV} {F : DSt → Sr → Prop} (h : ds.length = k) (q : g ds σ S F) : nTup k g (.tup ds) σ S F := ⟨h, q⟩
theorem w_nnil {F : DSt → Sr → Prop} (h : F σ S) : nNil [] σ S F := h
theorem w_ncons {t : DG} {u : DGs} {d : DV} {ds : List DV} {F : DSt → Sr → Prop} (h : t d σ S fun σ' S' => u ds σ' S' F) : nCons t u (d :: ds) σ S F := h
theorem w_nsub {to ti : DE} {d : DV} {F : DSt → Sr → Prop} (h : to σ S fun o S1 => ti σ S1 fun i S2 => rPut o i d S2 fun S3 => F σ S3) : nSub to ti d σ S F := h
theorem w_putL {a : Addr} {xs : List DV} {i : Int} {j : Nat} {d : DV} {F : Sr → Prop} (h : S a = some (.lst xs)) (e : ixN xs.length i = some j) (q : F (up S a (.lst (xs.set j d)))) : rPut (.ref a) (.int i) d S F := ⟨a, _, rfl, .lst rfl h e, q⟩
/-! loops -/
def lk (F : Dit → Sr → Prop) (x : DV) (S : Sr) : Prop := (∃ xs, lstOf S x xs) ∧ F (jL x) S
def ek (F : Dit → Sr → Prop) (xs : List DV) (S : Sr) : Prop := match xs with
  | [x] => (∃ xs, lstOf S x xs) ∧ F (jE x) S
  | _ => False
def r1k (F : Dit → Sr → Prop) (xs : List DV) (S : Sr) : Prop := match xs with
  | [.int j] => (-(2 ^ 62) ≤ j ∧ j < 2 ^ 62) ∧ F (jR 0 1 j.toNat) S
  | _ => False
def r2k (F : Dit → Sr → Prop) (xs : List DV) (S : Sr) : Prop := match xs with
  | [.int i, .int j] => (-(2 ^ 62) ≤ i ∧ i < 2 ^ 62 ∧ -(2 ^ 62) ≤ j ∧ j < 2 ^ 62) ∧ F (jR i 1 (j - i).toNat) S
  | _ => False
def r3k (F : Dit → Sr → Prop) (xs : List DV) (S : Sr) : Prop := match xs with
  | [.int i, .int j, .int k] => k = -1 ∧ (-(2 ^ 62) ≤ i ∧ i < 2 ^ 62 ∧ -(2 ^ 62) ≤ j ∧ j < 2 ^ 62) ∧ F (jR i (-1) (i - j).toNat) S
  | _ => False
def tkI (F : Dit → Sr → Prop) (x : DV) (S : Sr) : Prop := match x with
  | .tup ds => F (jT ds) S
  | _ => False
theorem w_for {wi : DI} {g : DG} {tb : DS} {D : DEnds} (h : wi σ S fun J S1 => ForQ J g tb D σ S1) : sFor wi g tb D σ S := h
theorem w_lc {wi : DI} {g : DG} {tt : DT} {te : DE} {vs : List Nat} (h : wi σ S fun J S1 => LcQ J g tt te vs σ Q S1) : dLc wi g tt te vs σ S Q := h
theorem w_iL {te : DE} {F : Dit → Sr → Prop} (h : te σ S (lk F)) : iL te σ S F := h
theorem w_iT {te : DE} {F : Dit → Sr → Prop} (h : te σ S (tkI F)) : iT te σ S F := h
theorem w_tkI {ds : List DV} {F : Dit → Sr → Prop} (h : F (jT ds) S) : tkI F (.tup ds) S := h
theorem w_iE {ta : DA} {F : Dit → Sr → Prop} (h : ta σ S (ek F)) : iE ta σ S F := h
theorem w_iR1 {ta : DA} {F : Dit → Sr → Prop} (h : ta σ S (r1k F)) : iR1 ta σ S F := h
theorem w_iR2 {ta : DA} {F : Dit → Sr → Prop} (h : ta σ S (r2k F)) : iR2 ta σ S F := h
theorem w_iR3 {ta : DA} {F : Dit → Sr → Prop} (h : ta σ S (r3k F)) : iR3 ta σ S F := h
theorem w_r1 {j : Int} {F : Dit → Sr → Prop} (h1 : -4611686018427387904 ≤ j) (h2 : j < 4611686018427387904) (q : F (jR 0 1 j.toNat) S) : r1k F [.int j] S := ⟨⟨h1, h2⟩, q⟩
theorem w_r2 {i j : Int} {F : Dit → Sr → Prop} (h1 : -4611686018427387904 ≤ i) (h2 : i < 4611686018427387904) (h3 : -4611686018427387904 ≤ j) (h4 : j < 4611686018427387904) (q : F (jR i 1 (j - i).toNat) S) : r2k F [.int i, .int j] S := ⟨⟨h1, h2, h3, h4⟩, q⟩
theorem w_r3 {i j : Int} {F : Dit → Sr → Prop} (h1 : -4611686018427387904 ≤ i) (h2 : i < 4611686018427387904) (h3 : -4611686018427387904 ≤ j) (h4 : j < 4611686018427387904) (q : F (jR i (-1) (i - j).toNat) S) : r3k F [.int i, .int j, .int (-1)] S := ⟨rfl, ⟨h1, h2, h3, h4⟩, q⟩
/-! ### expressions -/
theorem w_var {i : Nat} {d : DV} (h : slot σ i = some d) (q : Q d S) : dVar i σ S Q := by unfold dVar; rw [h]; exact q
theorem w_con {d : DV} (q : Q d S) : dCon d σ S Q := q
theorem w_op {rr : DR2} {ta tb : DE} (h : ta σ S fun x S1 => tb σ S1 fun y S2 => rr x y S2 Q) : dOp rr ta tb σ S Q := h
def tk (Q : Bool → Sr → Prop) : DK := fun x S => match x with
  | .bl k => Q k S
  | _ => False
theorem w_tk {k : Bool} {F : Bool → Sr → Prop} (h : F k S) : tk F (.bl k) S := h
theorem w_test {t : DE} {F : Bool → Sr → Prop} (h : t σ S (tk F)) : dTest t σ S F := h
theorem w_and {t u : DT} {F : Bool → Sr → Prop} (h : t σ S fun k S1 => br k (u σ S1 F) (F false S1)) : dAnd t u σ S F := h
theorem w_or {t u : DT} {F : Bool → Sr → Prop} (h : t σ S fun k S1 => br k (F true S1) (u σ S1 F)) : dOr t u σ S F := h
theorem w_not {t : DT} {F : Bool → Sr → Prop} (h : t σ S fun k S1 => F (!k) S1) : dNot t σ S F := h
theorem w_yes {F : Bool → Sr → Prop} (h : F true S) : dYes σ S F := h
theorem w_andV {t u : DE} (h : t σ S (tk fun k S1 => br k (u σ S1 Q) (Q (.bl false) S1))) : dAndV t u σ S Q := h
theorem w_orV {t u : DE} (h : t σ S (tk fun k S1 => br k (Q (.bl true) S1) (u σ S1 Q))) : dOrV t u σ S Q := h
theorem w_notV {t : DE} (h : t σ S (tk fun k S1 => Q (.bl (!k)) S1)) : dNotV t σ S Q := h
theorem w_ifE {q : DT} {t u : DE} (h : q σ S fun k S1 => br k (t σ S1 Q) (u σ S1 Q)) : dIfE q t u σ S Q := h
def ck (r1 r2 : DR2) (y : DV) (tc : DE) (σ : DSt) (Q : DK) : DK := fun z S3 => match z with
  | .bl k => br k (tc σ S3 fun u S4 => r2 y u S4 Q) (Q (.bl false) S3)
  | _ => False
theorem w_un {rr : DV → Sr → DK → Prop} {t : DE} (h : t σ S fun x S1 => rr x S1 Q) : dUn rr t σ S Q := h
theorem w_neg {i : Int} (h : Q (.int (-i)) S) : uNeg (.int i) S Q := h
theorem w_nil {F : List DV → Sr → Prop} (h : F [] S) : dNil σ S F := h
theorem w_cons {t : DE} {u : DA} {F : List DV → Sr → Prop} (h : t σ S fun x S1 => u σ S1 fun xs S2 => F (x :: xs) S2) : dCons t u σ S F := h
def tupk (Q : DK) (xs : List DV) (S : Sr) : Prop := xs.length ≤ 1000 ∧ Q (.tup xs) S
def lstk (Q : DK) (xs : List DV) (S : Sr) : Prop := xs.length ≤ 1000 ∧ ∀ p, S p = none → Q (.ref p) (up S p (.lst xs))
theorem w_tup {t : DA} (h : t σ S (tupk Q)) : dTup t σ S Q := h
theorem w_lst {t : DA} (h : t σ S (lstk Q)) : dLst t σ S Q := h
theorem w_tupk {xs : List DV} (h : xs.length.ble 1000 = true) (q : Q (.tup xs) S) : tupk Q xs S := ⟨Nat.le_of_ble_eq_true h, q⟩
theorem w_lstk {xs : List DV} (h : xs.length.ble 1000 = true) (q : ∀ p, Fr S p → Q (.ref p) (up S p (.lst xs))) : lstk Q xs S := ⟨Nat.le_of_ble_eq_true h, q⟩
/-! two ways -/
theorem w_brT {A B : Prop} (h : A) : br true A B := h
theorem w_brF {A B : Prop} (h : B) : br false A B := h
theorem w_brD {p A B : Prop} [Decidable p] (h : p) (a : A) : br (decide p) A B := br_t (decide_eq_true h) a
theorem w_brN {p A B : Prop} [Decidable p] (h : ¬ p) (a : B) : br (decide p) A B := br_f (decide_eq_false h) a
theorem w_brB {b : Bool} {A B : Prop} (h : br b A B) : br (!b) B A := br_n h
/-! operations -/
theorem w_addI {i j : Int} (q : Q (.int (i + j)) S) : rAdd (.int i) (.int j) S Q := q
theorem w_addS {i j : Str} (h : i.length + j.length ≤ sizeLine) (q : Q (.str (i ++ j)) S) : rAdd (.str i) (.str j) S Q := ⟨h, q⟩
theorem w_addT {xs ys : List DV} (h : (xs.length + ys.length).ble 1000 = true) (q : Q (.tup (xs ++ ys)) S) : rAdd (.tup xs) (.tup ys) S Q := ⟨Nat.le_of_ble_eq_true h, q⟩
theorem w_addL {a b : Addr} {xs ys : List DV} (h1 : S a = some (.lst xs)) (h2 : S b = some (.lst ys)) (h : xs.length + ys.length ≤ 16777216) (q : ∀ p, Fr S p → Q (.ref p) (up S p (.lst (xs ++ ys)))) : rAdd (.ref a) (.ref b) S Q := ⟨xs, ys, h1, h2, h, q⟩
theorem w_int {C : Int → Int → Prop} {g : Int → Int → DV} {i j : Int} (h : C i j) (q : Q (g i j) S) : rInt C g (.int i) (.int j) S Q := ⟨h, q⟩
theorem w_int0 {g : Int → Int → DV} {i j : Int} (q : Q (g i j) S) : rInt0 g (.int i) (.int j) S Q := q
theorem c_pow {i j : Int} (h1 : 0 ≤ j) (h2 : j ≤ 1000000) (h3 : i.natAbs < 18446744073709551616) : CPow i j := ⟨h1, h2, h3⟩
theorem c_div {i j : Int} (h1 : 0 < j) (h2 : j ≤ 1152921504606846976) : CDivW i j := ⟨h1, by
  have h : j.natAbs < 2 ^ 61 := by omega
  have : j.natAbs.log2 < 61 := (Nat.log2_lt (by omega)).mpr h
  omega⟩
theorem c_mulL {i j : Int} (h1 : -18446744073709551616 < i) (h2 : i < 18446744073709551616) : CMul i j := .inl ⟨h1, h2⟩
theorem c_mulR {i j : Int} (h1 : -18446744073709551616 < j) (h2 : j < 18446744073709551616) : CMul i j := .inr ⟨h1, h2⟩
theorem w_pow9 (q : Q (.int 1000000000) S) : rInt CPow (fun i j => .int (i ^ j.toNat)) (.int 10) (.int 9) S Q := ⟨c_pow (by decide) (by decide) (by decide), q⟩
theorem w_pow10 (q : Q (.int 10000000000) S) : rInt CPow (fun i j => .int (i ^ j.toNat)) (.int 10) (.int 10) S Q := ⟨c_pow (by decide) (by decide) (by decide), q⟩
theorem w_pow11 (q : Q (.int 100000000000) S) : rInt CPow (fun i j => .int (i ^ j.toNat)) (.int 10) (.int 11) S Q := ⟨c_pow (by decide) (by decide) (by decide), q⟩
theorem w_pow12 (q : Q (.int 1000000000000) S) : rInt CPow (fun i j => .int (i ^ j.toNat)) (.int 10) (.int 12) S Q := ⟨c_pow (by decide) (by decide) (by decide), q⟩
theorem w_pow18 (q : Q (.int 1000000000000000000) S) : rInt CPow (fun i j => .int (i ^ j.toNat)) (.int 10) (.int 18) S Q := ⟨c_pow (by decide) (by decide) (by decide), q⟩
theorem w_mod {i j : Int} (h : 0 < j) (q : Q (.int (i % j)) S) : rInt (fun _ j => 0 < j) (fun i j => .int (i % j)) (.int i) (.int j) S Q := ⟨h, q⟩
theorem w_fdiv {i j : Int} (h1 : 0 < j) (h2 : j ≤ 1152921504606846976) (q : Q (.int (i / j)) S) : rInt CDivW (fun i j => .int (i / j)) (.int i) (.int j) S Q := ⟨c_div h1 h2, q⟩
theorem w_mulL {i j : Int} (h1 : -18446744073709551616 < i) (h2 : i < 18446744073709551616) (q : Q (.int (i * j)) S) : rInt CMul (fun i j => .int (i * j)) (.int i) (.int j) S Q := ⟨c_mulL h1 h2, q⟩
theorem w_mulR {i j : Int} (h1 : -18446744073709551616 < j) (h2 : j < 18446744073709551616) (q : Q (.int (i * j)) S) : rInt CMul (fun i j => .int (i * j)) (.int i) (.int j) S Q := ⟨c_mulR h1 h2, q⟩
/-! comparisons -/
theorem w_eqI {i j : Int} (q : Q (.bl (decide (i = j))) S) : rEqD (.int i) (.int j) S Q := ⟨i == j, .inl rfl, by rw [show (i == j) = decide (i = j) from rfl]; exact q⟩
theorem w_eqS {i j : Str} (q : Q (.bl (i == j)) S) : rEqD (.str i) (.str j) S Q := ⟨i == j, .inl rfl, q⟩
theorem w_eqSt {i j : Str} (h : (i == j) = true) (q : Q (.bl true) S) : rEqD (.str i) (.str j) S Q := ⟨true, .inl (by show some (i == j) = _; rw [h]), q⟩
theorem w_eqSf {i j : Str} (h : (i == j) = false) (q : Q (.bl false) S) : rEqD (.str i) (.str j) S Q := ⟨false, .inl (by show some (i == j) = _; rw [h]), q⟩
theorem w_neI {i j : Int} (q : Q (.bl (!decide (i = j))) S) : rNeD (.int i) (.int j) S Q := ⟨i == j, .inl rfl, by rw [show (i == j) = decide (i = j) from rfl]; exact q⟩
theorem w_neSt {i j : Str} (h : (i == j) = true) (q : Q (.bl false) S) : rNeD (.str i) (.str j) S Q := ⟨true, .inl (by show some (i == j) = _; rw [h]), q⟩
theorem w_neSf {i j : Str} (h : (i == j) = false) (q : Q (.bl true) S) : rNeD (.str i) (.str j) S Q := ⟨false, .inl (by show some (i == j) = _; rw [h]), q⟩
theorem w_neB {i j : Bool} (q : Q (.bl (!(i == j))) S) : rNeD (.bl i) (.bl j) S Q := ⟨i == j, .inl rfl, q⟩
theorem w_eq0 {x y : DV} {k : Bool} (h : eqS x y = some k) (q : Q (.bl k) S) : rEqD x y S Q := ⟨k, .inl h, q⟩
theorem w_ne0 {x y : DV} {k : Bool} (h : eqS x y = some k) (q : Q (.bl (!k)) S) : rNeD x y S Q := ⟨k, .inl h, q⟩
theorem w_ltI {i j : Int} (q : Q (.bl (decide (i < j))) S) : rLt2 (.int i) (.int j) S Q := q
theorem w_ltS {i j : Str} (q : Q (.bl (decide (i.cps.toList < j.cps.toList))) S) : rLt2 (.str i) (.str j) S Q := q
theorem w_isN (q : Q (.bl true) S) : rIsN .non .non S Q := q
theorem w_isT {ds : List DV} (q : Q (.bl false) S) : rIsN (.tup ds) .non S Q := q
theorem w_isI {i : Int} (q : Q (.bl false) S) : rIsN (.int i) .non S Q := q
theorem w_isS {i : Str} (q : Q (.bl false) S) : rIsN (.str i) .non S Q := q
theorem w_isR {i : Addr} (q : Q (.bl false) S) : rIsN (.ref i) .non S Q := q
theorem w_ntN (q : Q (.bl false) S) : rNotN .non .non S Q := q
theorem w_ntT {ds : List DV} (q : Q (.bl true) S) : rNotN (.tup ds) .non S Q := q
theorem w_ntI {i : Int} (q : Q (.bl true) S) : rNotN (.int i) .non S Q := q
theorem w_ntS {i : Str} (q : Q (.bl true) S) : rNotN (.str i) .non S Q := q
theorem w_ntR {i : Addr} (q : Q (.bl true) S) : rNotN (.ref i) .non S Q := q
theorem w_inT {x : DV} {ys : List DV} {k : Bool} (h1 : flatD x = true) (h2 : ys.all flatD = true) (h3 : inF x ys = k) (q : Q (.bl k) S) : rInD x (.tup ys) S Q := ⟨k, .inr ⟨h1, h2, h3⟩, q⟩
theorem w_ninT {x : DV} {ys : List DV} {k : Bool} (h1 : flatD x = true) (h2 : ys.all flatD = true) (h3 : inF x ys = k) (q : Q (.bl (!k)) S) : rNinD x (.tup ys) S Q := ⟨k, .inr ⟨h1, h2, h3⟩, q⟩
theorem w_inL {x : DV} {a : Addr} {ys : List DV} {k : Bool} (h : S a = some (.lst ys)) (h1 : flatD x = true) (h2 : ys.all flatD = true) (h3 : inF x ys = k) (q : Q (.bl k) S) : rInD x (.ref a) S Q := ⟨k, .inr ⟨ys, h, h1, h2, h3⟩, q⟩
/-! subscripts, slices -/
theorem w_ixT {xs : List DV} {i : Int} {z : DV} (h : atI xs i = some z) (q : Q z S) : rIx2 (.tup xs) (.int i) S Q := ⟨z, ⟨i, rfl, h⟩, q⟩
theorem w_ixL {a : Addr} {xs : List DV} {i : Int} {z : DV} (h : S a = some (.lst xs)) (e : atI xs i = some z) (q : Q z S) : rIx2 (.ref a) (.int i) S Q := ⟨z, .inl ⟨xs, i, rfl, h, e⟩, q⟩
theorem w_ixK {a : Addr} {kvs : List (Key × DV)} {k : Key} {z : DV} (h : S a = some (.dK kvs)) (e : vD kvs k = some z) (q : Q z S) : rIx2 (.ref a) (keyD k) S Q := ⟨z, .inr (.inl ⟨kvs, k, .inl h, rfl, e.symm⟩), q⟩
theorem atI_nat {α : Type} {xs : List α} {k : Int} (h0 : 0 ≤ k) (h1 : k < xs.length) : ∃ z, atI xs k = some z ∧ z ∈ xs ∧ xs[k.toNat]? = some z := by
  have h2 : k.toNat < xs.length := by omega
  refine ⟨xs[k.toNat], ?_, List.getElem_mem h2, List.getElem?_eq_getElem h2⟩
  unfold atI
  have e : ixN xs.length k = some k.toNat := by
    unfold ixN
    rw [if_pos (by omega)]
    simp
    omega
  rw [e]
  exact List.getElem?_eq_getElem h2
/-- some item -/
theorem pick (P : DV → Prop) {a : Addr} {xs : List DV} {k : Int} (h : S a = some (.lst xs)) (h0 : 0 ≤ k) (h1 : k < xs.length) (hp : ∀ x, x ∈ xs → P x) (q : ∀ x, P x → Q x S) : rIx2 (.ref a) (.int k) S Q := by
  obtain ⟨z, e, m, _⟩ := atI_nat h0 h1
  exact w_ixL h e (q z (hp z m))
theorem pickT (P : DV → Prop) {xs : List DV} {k : Int} (h0 : 0 ≤ k) (h1 : k < xs.length) (hp : ∀ x, x ∈ xs → P x) (q : ∀ x, P x → Q x S) : rIx2 (.tup xs) (.int k) S Q := by
  obtain ⟨z, e, m, _⟩ := atI_nat h0 h1
  exact w_ixT e (q z (hp z m))
/-- .. a number from lo to hi -/
theorem pickI (lo hi : Int) {a : Addr} {xs : List DV} {k : Int} (h : S a = some (.lst xs)) (h0 : 0 ≤ k) (h1 : k < xs.length) (hp : ∀ x, x ∈ xs → ∃ i, x = .int i ∧ lo ≤ i ∧ i ≤ hi) (q : ∀ i, lo ≤ i → i ≤ hi → Q (.int i) S) : rIx2 (.ref a) (.int k) S Q :=
  pick _ h h0 h1 hp fun x ⟨i, e, a, b⟩ => by subst e; exact q i a b
theorem pickZ {a : Addr} {xs : List DV} {k : Int} (h : S a = some (.lst xs)) (h0 : 0 ≤ k) (h1 : k < xs.length) (hp : ∀ x, x ∈ xs → ∃ i, x = .int i) (q : ∀ i, Q (.int i) S) : rIx2 (.ref a) (.int k) S Q :=
  pick _ h h0 h1 hp fun x ⟨i, e⟩ => by subst e; exact q i
/-- .. of a list of texts -/
theorem pickS {a : Addr} {ws : List Str} {k : Int} (h : S a = some (.lst (ws.map DV.str))) (h0 : 0 ≤ k) (h1 : k < ws.length) (q : ∀ w, w ∈ ws → Q (.str w) S) : rIx2 (.ref a) (.int k) S Q :=
  pick (fun x => ∃ w, w ∈ ws ∧ x = .str w) h h0 (by rw [List.length_map]; exact h1) (fun x hx => by obtain ⟨w, m, e⟩ := List.mem_map.mp hx; exact ⟨w, m, e.symm⟩) fun x ⟨w, m, e⟩ => by subst e; exact q w m
theorem all_nil {P : DV → Prop} : ∀ x, x ∈ ([] : List DV) → P x := fun _ h => by cases h
theorem all_cons {P : DV → Prop} {y : DV} {ys : List DV} (h : P y) (t : ∀ x, x ∈ ys → P x) : ∀ x, x ∈ y :: ys → P x := fun x m => by
  rcases List.mem_cons.mp m with e | m
  · rw [e]; exact h
  · exact t x m
theorem w_sl {ta : DE} {tl th : DSt → Sr → (Option Int → Sr → Prop) → Prop} (h : ta σ S fun x S1 => tl σ S1 fun l S2 => th σ S2 fun u S3 => rSl2 x l u S3 Q) : dSl ta tl th σ S Q := h
theorem w_no {F : Option Int → Sr → Prop} (h : F none S) : dNo σ S F := h
def partk (F : Option Int → Sr → Prop) : DK := fun x S1 => match x with
  | .int i => F (some i) S1
  | _ => False
theorem w_part {t : DE} {F : Option Int → Sr → Prop} (h : t σ S (partk F)) : dPart t σ S F := h
theorem w_partk {i : Int} {F : Option Int → Sr → Prop} (h : F (some i) S) : partk F (.int i) S := h
theorem w_slT {xs : List DV} {l u : Option Int} (q : Q (.tup (cutD xs l u)) S) : rSl2 (.tup xs) l u S Q := q
theorem w_slS {z : Str} {l u : Option Int} (h : z.length ≤ 16777216) (q : Q (.str (cutS z l u)) S) : rSl2 (.str z) l u S Q := ⟨h, q⟩
theorem w_slL {a : Addr} {xs : List DV} {l u : Option Int} (h : S a = some (.lst xs)) (q : ∀ p, Fr S p → Q (.ref p) (up S p (.lst (cutD xs l u)))) : rSl2 (.ref a) l u S Q := ⟨xs, h, q⟩
/-! built-ins, methods, calls -/
theorem w_cb {rr : DRl} {t : DA} (h : t σ S fun xs S1 => rr xs S1 Q) : dCb rr t σ S Q := h
theorem w_lenT {xs : List DV} (q : Q (.int xs.length) S) : rLen2 [.tup xs] S Q := ⟨_, rfl, q⟩
theorem w_lenL {a : Addr} {xs : List DV} (h : S a = some (.lst xs)) (q : Q (.int xs.length) S) : rLen2 [.ref a] S Q := ⟨_, .inl ⟨xs, h, rfl⟩, q⟩
theorem w_lenLS {a : Addr} {ws : List Str} (h : S a = some (.lst (ws.map DV.str))) (q : Q (.int ws.length) S) : rLen2 [.ref a] S Q := w_lenL h (by rw [List.length_map]; exact q)
theorem w_lenS {z : Str} (h : z.length ≤ 16777216) (q : Q (.int z.length) S) : rLen2 [.str z] S Q := ⟨_, ⟨h, rfl⟩, q⟩
theorem w_intI {i : Int} (q : Q (.int i) S) : rInt2 [.int i] S Q := q
theorem w_intB {k : Bool} (q : Q (.int (if k then 1 else 0)) S) : rInt2 [.bl k] S Q := q
theorem w_max {i j : Int} (q : Q (.int (if j > i then j else i)) S) : rMax2 [.int i, .int j] S Q := q
theorem w_min {i j : Int} (q : Q (.int (if j < i then j else i)) S) : rMin2 [.int i, .int j] S Q := q
theorem w_abs {i : Int} (q : Q (.int (if i < 0 then -i else i)) S) : rAbs2 [.int i] S Q := q
theorem w_listR {a : Addr} {xs : List DV} (h : S a = some (.lst xs)) (q : ∀ p, Fr S p → Q (.ref p) (up S p (.lst xs))) : rList2 [.ref a] S Q := ⟨xs, h, q⟩
theorem w_isi {T : String} {t : DE} (h : t σ S fun x S1 => ∃ b, isTy S1 T x b ∧ Q (.bl b) S1) : rIsi2 T t σ S Q := h
def bmk (T : String) (rr : DRm) (tr : DA) (σ : DSt) (Q : DK) (x : DV) (S : Sr) : Prop := tyD T x S ∧ tr σ S fun xs S2 => rr x xs S2 Q
theorem w_bm {T : String} {rr : DRm} {to : DE} {tr : DA} (h : to σ S (bmk T rr tr σ Q)) : dBM T rr to tr σ S Q := h
theorem w_bmL {rr : DRm} {tr : DA} {a : Addr} {ds : List DV} (h : S a = some (.lst ds)) (q : tr σ S fun xs S2 => rr (.ref a) xs S2 Q) : bmk "list" rr tr σ Q (.ref a) S := ⟨.inl ⟨rfl, ds, h⟩, q⟩
theorem w_bmS {rr : DRm} {tr : DA} {z : Str} (q : tr σ S fun xs S2 => rr (.str z) xs S2 Q) : bmk "str" rr tr σ Q (.str z) S := ⟨rfl, q⟩
theorem w_app {a : Addr} {ds : List DV} {y : DV} (h : S a = some (.lst ds)) (hl : ds.length < 16777216) (q : Q .non (up S a (.lst (ds ++ [y])))) : rApp (.ref a) [y] S Q := ⟨ds, h, hl, q⟩
theorem w_pop0 {a : Addr} {ds : List DV} {d : DV} (h : S a = some (.lst (d :: ds))) (q : Q d (up S a (.lst ds))) : rPopA (.ref a) [.int 0] S Q := ⟨ds, d, h, rfl, q⟩
theorem w_ins0 {a : Addr} {ds : List DV} {y : DV} (h : S a = some (.lst ds)) (hl : ds.length < 16777216) (q : Q .non (up S a (.lst (y :: ds)))) : rIns (.ref a) [.int 0, y] S Q := ⟨ds, h, hl, rfl, q⟩
theorem w_call {sd : SpD} {Ed : DXK} {t : DA} (h : t σ S fun ds S1 => sd ds S1 Q Ed) : dCall sd Ed t σ S Q := h
def gk (ty tx : DE) (σ : DSt) (Q : DK) (x : DV) (S1 : Sr) : Prop := ∃ a, x = .ref a ∧ ((∃ kvs, S1 a = some (.dK kvs)) ∨ ∃ kvs, S1 a = some (.dT kvs)) ∧ ty σ S1 fun y S2 => tx σ S2 fun z S3 => ∃ r, dGet S3 a y r ∧ Q (r.getD z) S3
def getk (a : Addr) (Q : DK) (y z : DV) (S3 : Sr) : Prop := ∃ r, dGet S3 a y r ∧ Q (r.getD z) S3
theorem w_get2 {td ty tx : DE} (h : td σ S (gk ty tx σ Q)) : dGet2 td ty tx σ S Q := h
theorem w_gk {ty tx : DE} {a : Addr} {kvs : List (Key × DV)} (h : S a = some (.dK kvs)) (q : ty σ S fun y S2 => tx σ S2 fun z S3 => getk a Q y z S3) : gk ty tx σ Q (.ref a) S := ⟨a, rfl, .inl ⟨kvs, h⟩, q⟩
theorem w_getS {a : Addr} {kvs : List (Key × DV)} {y : Str} {z : DV} (h : S a = some (.dK kvs)) (q : Q ((vD kvs (.inr y)).getD z) S) : getk a Q (.str y) z S := ⟨_, .inl ⟨kvs, .inr y, .inl h, rfl, rfl⟩, q⟩
theorem w_newK (q : ∀ p, Fr S p → Q (.ref p) (up S p (.dK []))) : dNewK σ S Q := q
theorem w_draw {a : Addr} {m : Int} {Ed : DXK} (h : S a = some (deckB K)) (h0 : 0 < m) (h1 : m ≤ 1152921504606846976) (q : ∀ n, 0 ≤ n → n < m → Q (.int n) S) : spDraw K [.ref a, .int m] S Q Ed := ⟨a, m, rfl, h, h0, h1, q⟩
/-! dict displays, stores into dicts -/
def toKvs : List (DV × DV) → Option (List (Key × DV))
  | [] => some []
  | (.str x, d) :: r => (toKvs r).map fun l => (.inr x, d) :: l
  | (.int x, d) :: r => (toKvs r).map fun l => (.inl x, d) :: l
  | _ => none
theorem toKvs_ok : ∀ {ps : List (DV × DV)} {kvs : List (Key × DV)}, toKvs ps = some kvs → ps = kvs.map (fun kv => (keyD kv.1, kv.2))
  | [], kvs, h => by cases h; rfl
  | (.str x, d) :: r, kvs, h => by
    unfold toKvs at h
    cases q : toKvs r with
    | none => rw [q] at h; cases h
    | some l => rw [q] at h; cases h; rw [toKvs_ok q]; rfl
  | (.int x, d) :: r, kvs, h => by
    unfold toKvs at h
    cases q : toKvs r with
    | none => rw [q] at h; cases h
    | some l => rw [q] at h; cases h; rw [toKvs_ok q]; rfl
  | (.non, _) :: _, _, h => by cases h
  | (.bl _, _) :: _, _, h => by cases h
  | (.tup _, _) :: _, _, h => by cases h
  | (.ref _, _) :: _, _, h => by cases h
  | (.scr _, _) :: _, _, h => by cases h
  | (.kt _, _) :: _, _, h => by cases h
def dispk (p : Addr) (Q : DK) (ps : List (DV × DV)) (S2 : Sr) : Prop := S2 p = some (.dK []) ∧ ∃ kvs : List (Key × DV), ps = kvs.map (fun kv => (keyD kv.1, kv.2)) ∧ kvs.length ≤ 15 ∧ Q (.ref p) (up S2 p (.dK (mergeD [] kvs)))
theorem w_disp {trs : List (DE × DE)} (h : ∀ p, Fr S p → dPairs trs σ (up S p (.dK [])) (dispk p Q)) : dDisp trs σ S Q := h
theorem w_dpnil {F : List (DV × DV) → Sr → Prop} (h : F [] S) : dPairs [] σ S F := h
theorem w_dpcons {tk tv : DE} {rr : List (DE × DE)} {F : List (DV × DV) → Sr → Prop} (h : tk σ S fun x S1 => tv σ S1 fun y S2 => dPairs rr σ S2 fun ps S3 => F ((x, y) :: ps) S3) : dPairs ((tk, tv) :: rr) σ S F := h
theorem w_dispk {p : Addr} {ps : List (DV × DV)} {kvs : List (Key × DV)} (h : S p = some (.dK [])) (e : toKvs ps = some kvs) (l : kvs.length.ble 15 = true) (q : Q (.ref p) (up S p (.dK (mergeD [] kvs)))) : dispk p Q ps S := ⟨h, kvs, toKvs_ok e, Nat.le_of_ble_eq_true l, q⟩
theorem w_putK {a : Addr} {kvs : List (Key × DV)} {k : Key} {d : DV} {F : Sr → Prop} (h : S a = some (.dK kvs)) (hl : kvs.length < 16777216) (q : F (up S a (.dK (pD kvs k d)))) : rPut (.ref a) (keyD k) d S F := ⟨a, _, rfl, .dK rfl h hl, q⟩
theorem w_putKs {a : Addr} {kvs : List (Key × DV)} {x : Str} {d : DV} {F : Sr → Prop} (h : S a = some (.dK kvs)) (hl : kvs.length < 16777216) (q : F (up S a (.dK (pD kvs (.inr x) d)))) : rPut (.ref a) (.str x) d S F := w_putK (k := .inr x) h hl q
theorem w_putKi {a : Addr} {kvs : List (Key × DV)} {x : Int} {d : DV} {F : Sr → Prop} (h : S a = some (.dK kvs)) (hl : kvs.length < 16777216) (q : F (up S a (.dK (pD kvs (.inl x) d)))) : rPut (.ref a) (.int x) d S F := w_putK (k := .inl x) h hl q
theorem w_ixKs {a : Addr} {kvs : List (Key × DV)} {x : Str} {z : DV} (h : S a = some (.dK kvs)) (e : vD kvs (.inr x) = some z) (q : Q z S) : rIx2 (.ref a) (.str x) S Q := w_ixK (k := .inr x) h e q
theorem w_ixKi {a : Addr} {kvs : List (Key × DV)} {x : Int} {z : DV} (h : S a = some (.dK kvs)) (e : vD kvs (.inl x) = some z) (q : Q z S) : rIx2 (.ref a) (.int x) S Q := w_ixK (k := .inl x) h e q
theorem len_pD {κ : Type} [DecidableEq κ] (kvs : List (κ × DV)) (k : κ) (v : DV) : (pD kvs k v).length ≤ kvs.length + 1 := by
  unfold pD
  split
  · rw [List.length_map]; omega
  · rw [List.length_append]; simp
theorem vD_pD {κ : Type} [DecidableEq κ] (kvs : List (κ × DV)) (k k' : κ) (v : DV) : vD (pD kvs k v) k' = if k' = k then some v else vD kvs k' := by
  unfold pD vD
  by_cases h : (kvs.any fun kv => decide (kv.1 = k)) = true
  · rw [if_pos h]
    induction kvs with
    | nil => cases h
    | cons p r ih =>
      rw [List.map_cons, List.find?_cons, List.find?_cons]
      by_cases e : p.1 = k
      · rw [if_pos e]
        by_cases e' : k' = k
        · subst e'; simp [e]
        · rw [if_neg e']
          have : ¬ p.1 = k' := fun z => e' (z.symm.trans e)
          simp only [this, decide_false]
          by_cases h2 : (r.any fun kv => decide (kv.1 = k)) = true
          · have := ih h2
            rw [if_neg e'] at this
            exact this
          · have e3 : r.map (fun kv => if kv.1 = k then (kv.1, v) else kv) = r := by
              conv => rhs; rw [← List.map_id r]
              refine List.map_congr_left fun kv hm => ?_
              rw [if_neg]
              · rfl
              · intro z
                exact h2 (List.any_eq_true.mpr ⟨kv, hm, by simp [z]⟩)
            rw [e3]
      · rw [if_neg e]
        have h2 : (r.any fun kv => decide (kv.1 = k)) = true := by
          rw [List.any_cons] at h
          simpa [e] using h
        have := ih h2
        by_cases e' : p.1 = k'
        · have : ¬ k' = k := fun z => e (e'.trans z)
          simp [e', this]
        · simp only [e', decide_false]
          exact this
  · rw [if_neg h, List.find?_append]
    by_cases e' : k' = k
    · subst e'
      rw [if_pos rfl]
      have : kvs.find? (fun kv => decide (kv.1 = k')) = none := by
        rw [List.find?_eq_none]
        intro kv hm hz
        exact h (List.any_eq_true.mpr ⟨kv, hm, hz⟩)
      rw [this]
      simp
    · rw [if_neg e']
      have : ¬ k = k' := fun z => e' z.symm
      simp [this]
end
end Dv
set_option Elab.async false
set_option linter.all false
set_option maxRecDepth 100000
set_option maxHeartbeats 1000000
namespace Dv
open PySem PySem.Spec PyProof.Rows L2

/-! ### data: values without lists, dicts, objects in them -/
mutual
def toP : DV → PyData
  | .bl b => .bool b
  | .int i => .int i
  | .str x => .str x
  | .tup ds => .tuple (toPs ds)
  | _ => .none
def toPs : List DV → List PyData
  | [] => []
  | d :: ds => toP d :: toPs ds
end
mutual
def noR : DV → Bool
  | .non => true
  | .bl _ => true
  | .int _ => true
  | .str x => PyData.strOk x
  | .tup ds => noRs ds
  | _ => false
def noRs : List DV → Bool
  | [] => true
  | d :: ds => noR d && noRs ds
end
mutual
theorem Py.of {S : Sr} : ∀ {d : DV}, noR d = true → Py S d (toP d)
  | .non, _ => .non
  | .bl b, _ => .bl b
  | .int i, _ => .int i
  | .str x, _ => .str x
  | .tup ds, h => .tup (Pys.of h)
  | .ref _, h => by cases h
  | .scr _, h => by cases h
  | .kt _, h => by cases h
theorem Pys.of {S : Sr} : ∀ {ds : List DV}, noRs ds = true → Pys S ds (toPs ds)
  | [], _ => .nil
  | d :: ds, h => by
    rw [noRs, Bool.and_eq_true] at h
    exact .cons (Py.of h.1) (Pys.of h.2)
end
mutual
theorem lay_of : ∀ {d : DV}, noR d = true → (toP d).canLay0 = true
  | .non, _ => rfl
  | .bl b, _ => rfl
  | .int i, _ => rfl
  | .str x, h => h
  | .tup ds, h => by show PyData.canLayAll0 (toPs ds) = true; exact lays_of h
  | .ref _, h => by cases h
  | .scr _, h => by cases h
  | .kt _, h => by cases h
theorem lays_of : ∀ {ds : List DV}, noRs ds = true → PyData.canLayAll0 (toPs ds) = true
  | [], _ => rfl
  | d :: ds, h => by
    rw [noRs, Bool.and_eq_true] at h
    show ((toP d).canLay0 && PyData.canLayAll0 (toPs ds)) = true
    rw [lay_of h.1, lays_of h.2]; rfl
end
/-- data of at most n levels -/
def good (n : Nat) (d : DV) : Prop := noR d = true ∧ (toP d).depth ≤ n
theorem good_non {n : Nat} : good n .non := ⟨rfl, Nat.zero_le _⟩
theorem good_bl {n : Nat} {b : Bool} : good n (.bl b) := ⟨rfl, Nat.zero_le _⟩
theorem good_int {n : Nat} {i : Int} : good n (.int i) := ⟨rfl, Nat.zero_le _⟩
theorem good_str {n : Nat} {x : Str} (h : PyData.strOk x = true) : good n (.str x) := ⟨h, Nat.zero_le _⟩
theorem goods {n : Nat} : ∀ {ds : List DV}, (∀ d, d ∈ ds → good n d) → noRs ds = true ∧ PyData.depthAll (toPs ds) ≤ n
  | [], _ => ⟨rfl, Nat.zero_le _⟩
  | d :: ds, h => by
    obtain ⟨a, b⟩ := goods fun x m => h x (List.mem_cons_of_mem _ m)
    obtain ⟨a', b'⟩ := h d (List.mem_cons_self ..)
    refine ⟨by rw [noRs, a, a']; rfl, ?_⟩
    show max (toP d).depth (PyData.depthAll (toPs ds)) ≤ n
    omega
theorem good_tup {n : Nat} {ds : List DV} (h : ∀ d, d ∈ ds → good n d) : good (n + 1) (.tup ds) := by
  obtain ⟨a, b⟩ := goods h
  refine ⟨a, ?_⟩
  show PyData.depthAll (toPs ds) + 1 ≤ n + 1
  omega
theorem good.mono {n m : Nat} {d : DV} (h : good n d) (l : n ≤ m) : good m d := ⟨h.1, Nat.le_trans h.2 l⟩
theorem good.shaped {n : Nat} {d : DV} (h : good n d) (l : n ≤ 64) : SeqAt.shaped (toP d) = true := by
  unfold SeqAt.shaped
  rw [lay_of h.1, decide_eq_true (Nat.le_trans h.2 l)]; rfl
theorem goods.shaped {n : Nat} {ds : List DV} (h : ∀ d, d ∈ ds → good n d) (l : n ≤ 63) : SeqAt.shaped (.list (toPs ds)) = true := by
  obtain ⟨a, b⟩ := goods h
  unfold SeqAt.shaped
  have e : PyData.depth (.list (toPs ds)) ≤ 64 := by show PyData.depthAll (toPs ds) + 1 ≤ 64; omega
  rw [decide_eq_true e, Bool.and_true]
  exact lays_of a
mutual
theorem eqv_toP : ∀ {d : DV}, noR d = true → PyData.eqv (toP d) (toP d) = true
  | d, h => PySem.SeqAt.eqv_refl _ (lay_of h)
end
theorem eqvs_toP {ds : List DV} (h : noRs ds = true) : PyData.eqvAll (toPs ds) (toPs ds) = true := PySem.SeqAt.eqvAll_refl _ (lays_of h)
/-- x == y of data -/
theorem EqD.data {S : Sr} {x y : DV} {n : Nat} (hx : good n x) (hy : good n y) (l : n ≤ 64) : EqD S x y (PyData.eqv (toP x) (toP y)) := .inr ⟨_, _, .of hx.1, .of hy.1, hx.shaped l, hy.shaped l, rfl⟩
theorem EqD.lists {S : Sr} {a b : Addr} {xs ys : List DV} {n : Nat} (ha : S a = some (.lst xs)) (hb : S b = some (.lst ys)) (hx : ∀ d, d ∈ xs → good n d) (hy : ∀ d, d ∈ ys → good n d) (l : n ≤ 63) : EqD S (.ref a) (.ref b) (PyData.eqvAll (toPs xs) (toPs ys)) :=
  .inr ⟨_, _, .lst ha (.of (goods hx).1), .lst hb (.of (goods hy).1), goods.shaped hx l, goods.shaped hy l, rfl⟩
/-- a list of data, and the empty one -/
theorem EqD.nil {S : Sr} {a b : Addr} {xs : List DV} {n : Nat} (ha : S a = some (.lst xs)) (hb : S b = some (.lst [])) (hx : ∀ d, d ∈ xs → good n d) (l : n ≤ 63) : EqD S (.ref a) (.ref b) (decide (xs = [])) := by
  have h := EqD.lists ha hb hx all_nil l
  cases xs with
  | nil => exact h
  | cons x xs => exact h
theorem EqD.consNil {S : Sr} {a b : Addr} {x : DV} {xs : List DV} {n : Nat} (ha : S a = some (.lst (x :: xs))) (hb : S b = some (.lst [])) (hx : ∀ d, d ∈ x :: xs → good n d) (l : n ≤ 63) : EqD S (.ref a) (.ref b) false := EqD.lists ha hb hx all_nil l
theorem EqD.refL {S : Sr} {a b : Addr} {xs : List DV} {n : Nat} (ha : S a = some (.lst xs)) (hb : S b = some (.lst xs)) (hx : ∀ d, d ∈ xs → good n d) (l : n ≤ 63) : EqD S (.ref a) (.ref b) true := by
  have h := EqD.lists ha hb hx hx l
  rw [eqvs_toP (goods hx).1] at h
  exact h
theorem w_eqD {S : Sr} {x y : DV} {k : Bool} {Q : DK} (h : EqD S x y k) (q : Q (.bl k) S) : rEqD x y S Q := ⟨k, h, q⟩
theorem w_neD {S : Sr} {x y : DV} {k : Bool} {Q : DK} (h : EqD S x y k) (q : Q (.bl (!k)) S) : rNeD x y S Q := ⟨k, h, q⟩
theorem good_ints {n : Nat} {ns : List Int} : ∀ d, d ∈ ns.map DV.int → good n d := fun d m => by
  obtain ⟨i, _, rfl⟩ := List.mem_map.mp m
  exact good_int
/-! ### texts: of known length, all signs are signs -/
def sOk (n : Nat) (x : Str) : Prop := x.length ≤ n ∧ PyData.strOk x = true
theorem sOk_lit {x : Str} (h : (x.length.ble 100 && PyData.strOk x) = true) : sOk 100 x := by
  rw [Bool.and_eq_true] at h
  exact ⟨Nat.le_of_ble_eq_true h.1, h.2⟩
theorem sOk.mono {n m : Nat} {x : Str} (h : sOk n x) (l : n ≤ m) : sOk m x := ⟨Nat.le_trans h.1 l, h.2⟩
theorem sOk.le {n m : Nat} {x : Str} (h : sOk n x) (l : n ≤ m) : x.length ≤ m := Nat.le_trans h.1 l
theorem strOk_iff {x : Str} : PyData.strOk x = true ↔ ∀ c, c ∈ x.cps.toList → c < 0x110000 := by
  unfold PyData.strOk
  rw [← Array.all_toList, List.all_eq_true]
  constructor
  · intro h c m; exact of_decide_eq_true (h c m)
  · intro h c m; exact decide_eq_true (h c m)
theorem len_app {x y : Str} : (x ++ y).length = x.length + y.length := by
  show (x.cps ++ y.cps).size = _
  rw [Array.size_append]; rfl
theorem sOk.app {n m : Nat} {x y : Str} (h : sOk n x) (k : sOk m y) : sOk (n + m) (x ++ y) := by
  refine ⟨by rw [len_app]; exact Nat.add_le_add h.1 k.1, strOk_iff.mpr fun c mem => ?_⟩
  have e : (x ++ y).cps.toList = x.cps.toList ++ y.cps.toList := Array.toList_append
  rw [e] at mem
  rcases List.mem_append.mp mem with z | z
  · exact strOk_iff.mp h.2 c z
  · exact strOk_iff.mp k.2 c z
theorem sOk.cut {n : Nat} {x : Str} (h : sOk n x) (l u : Option Int) : sOk n (cutS x l u) := by
  have e : (cutS x l u).cps.toList = (x.cps.toList.drop (HT.sIx x.length 0 l)).take (HT.sIx x.length x.length u - HT.sIx x.length 0 l) := rfl
  refine ⟨?_, strOk_iff.mpr fun c mem => ?_⟩
  · have h1 := h.1
    have : (cutS x l u).length = ((x.cps.toList.drop (HT.sIx x.length 0 l)).take (HT.sIx x.length x.length u - HT.sIx x.length 0 l)).length := by
      rw [← e]; exact (Array.length_toList).symm
    rw [this, List.length_take, List.length_drop, Array.length_toList]
    show min _ (x.length - _) ≤ n
    omega
  · rw [e] at mem
    exact strOk_iff.mp h.2 c (List.mem_of_mem_drop (List.mem_of_mem_take mem))
theorem w_addS2 {S : Sr} {i j : Str} {n m : Nat} {Q : DK} (h1 : sOk n i) (h2 : sOk m j) (h : (n + m).ble 16777216 = true) (q : Q (.str (i ++ j)) S) : rAdd (.str i) (.str j) S Q := ⟨Nat.le_trans (Nat.add_le_add h1.1 h2.1) (Nat.le_of_ble_eq_true h), q⟩
/-- one sign of a text -/
theorem ixS {S : Sr} {x : Str} {k : Int} {Q : DK} {n : Nat} (h : sOk n x) (hn : n ≤ 16777216) (h0 : 0 ≤ k) (h1 : k < x.length) (q : ∀ w, sOk 1 w → Q (.str w) S) : rIx2 (.str x) (.int k) S Q := by
  have h1' : k < x.cps.toList.length := by rw [Array.length_toList]; exact h1
  obtain ⟨z, e, m, _⟩ := atI_nat h0 h1'
  refine ⟨_, ⟨k, z, rfl, Nat.le_trans h.1 hn, e, rfl⟩, q _ ⟨Nat.le_refl _, strOk_iff.mpr fun c hc => ?_⟩⟩
  have : c = z := by
    have hc : c ∈ [z] := hc
    simpa using hc
  rw [this]
  exact strOk_iff.mp h.2 z m
theorem join_ok {m : Nat} : ∀ {ws : List Str}, (∀ w, w ∈ ws → sOk m w) → sOk (ws.length * m) (Str.join ⟨#[]⟩ ws)
  | [], _ => ⟨by show 0 ≤ _; omega, by decide +kernel⟩
  | [w], h => by
    show sOk (1 * m) w
    rw [Nat.one_mul]; exact h w (List.mem_cons_self ..)
  | w :: z :: r, h => by
    have ih := join_ok (m := m) (ws := z :: r) fun x hx => h x (List.mem_cons_of_mem _ hx)
    have e0 : sOk 0 (⟨#[]⟩ : Str) := ⟨Nat.le_refl _, by decide +kernel⟩
    have := ((h w (List.mem_cons_self ..)).app e0).app ih
    have e : m + 0 + (z :: r).length * m = (w :: z :: r).length * m := by
      rw [List.length_cons, List.length_cons, List.length_cons, Nat.add_zero, Nat.succ_mul (r.length + 1) m]
      omega
    rw [e] at this
    exact this
theorem sum_len {m : Nat} : ∀ {ws : List Str}, (∀ w, w ∈ ws → sOk m w) → (ws.map (·.length)).sum ≤ ws.length * m
  | [], _ => Nat.zero_le _
  | w :: r, h => by
    rw [List.map_cons, List.sum_cons, List.length_cons, Nat.succ_mul]
    have := sum_len (m := m) (ws := r) fun x hx => h x (List.mem_cons_of_mem _ hx)
    have := (h w (List.mem_cons_self ..)).1
    omega
/-- "".join of texts -/
theorem w_join0 {S : Sr} {p : Addr} {ws : List Str} {n m : Nat} {Q : DK} (h : S p = some (.lst (ws.map DV.str))) (hw : ∀ w, w ∈ ws → sOk m w) (hn : ws.length ≤ n) (hs : n * m ≤ 16777216) (q : ∀ w, sOk (n * m) w → Q (.str w) S) : rJoin (.str "") [.ref p] S Q := by
  have h1 := sum_len hw
  have h2 : ws.length * m ≤ n * m := Nat.mul_le_mul_right _ hn
  refine ⟨ws, h, ?_, ?_⟩
  · show (ws.map (·.length)).sum + ws.length * 0 ≤ 16777216
    omega
  · refine q _ ?_
    rw [TL.join_eq]
    exact (join_ok hw).mono h2
/-! lists of texts -/
def txs (n : Nat) (ws : List Str) : Prop := ∀ w, w ∈ ws → sOk n w
theorem txs.good {n k : Nat} {ws : List Str} (h : txs n ws) : ∀ d, d ∈ ws.map DV.str → good k d := fun d m => by
  obtain ⟨w, hw, rfl⟩ := List.mem_map.mp m
  exact good_str (h w hw).2
end Dv
set_option Elab.async false
set_option linter.all false
set_option maxRecDepth 100000
set_option maxHeartbeats 1000000
namespace Dv
open PySem PySem.Spec PyProof.Rows L2

theorem Sub.nn {S S' : Sr} {p : Addr} (s : Sub S S') (h : Fr S' p) : Fr S p := by
  unfold Fr at h ⊢
  cases q : S p with
  | none => rfl
  | some o => rw [s _ _ q] at h; cases h
theorem Sub.upF {S S' : Sr} {p : Addr} {o : MO} (s : Sub S S') (n : Fr S p) : Sub S (Dv.up S' p o) := fun a u e => by
  rw [up_ne (sne e n)]; exact s _ _ e
/-- without the object at D -/
noncomputable def less (S : Sr) (D : Addr) : Sr := open Classical in fun c => if c = D then none else S c
theorem less_self {S : Sr} {D : Addr} : less S D D = none := by unfold less; rw [if_pos rfl]
theorem less_up {S : Sr} {D : Addr} {o : MO} : up (less S D) D o = up S D o := by
  funext c
  unfold up less
  by_cases h : c = D
  · rw [if_pos h, if_pos h]
  · rw [if_neg h, if_neg h, if_neg h]
theorem Sub.less {S S' : Sr} {D : Addr} (s : Sub S S') (n : S D = Option.none) : Sub S (Dv.less S' D) := fun a u e => by
  unfold Dv.less
  rw [if_neg (sne e n)]
  exact s _ _ e
theorem LcP.of {P : List DV → Sr → Prop} {D : Addr} {acc : List DV} {S : Sr} (h : S D = some (.lst acc)) (p : P acc (less S D)) : LcP P D S :=
  ⟨acc, less S D, by rw [less_up, up_id h], less_self, p⟩
theorem LcE.of {P : List DV → Sr → Prop} {D : Addr} {acc : List DV} {y : DV} {S : Sr} (h : S D = some (.lst acc)) (hz : acc.length ≤ 1000) (p : P (acc ++ [y]) (less S D)) : LcE P D y S :=
  ⟨acc, h, small1000 hz, acc ++ [y], less S D, by rw [less_up], less_self, p⟩
section
variable {g : DG} {tt : DT} {te : DE} {vs : List Nat} {σ : DSt} {Q : DK} {S : Sr}
/-- a range; the item at i is as T i says; nothing that was there is changed -/
theorem lc_rngT {lo c : Int} {n : Nat} (T : Nat → DV → Prop) (hz : n ≤ 1000)
    (hs : ∀ i S0 (R : DK), i < n → Sub S S0 → (∀ y S4, Sub S0 S4 → T i y → R y S4) → g (.int (lo + (i : Int) * c)) (wipeS σ vs) S0 fun σ2 S2 => te σ2 S2 R)
    (hd : ∀ D ys S', Sub S S' → Fr S D → S' D = some (.lst ys) → ys.length = n → (∀ i y, ys[i]? = some y → T i y) → Q (.ref D) S') : LcQ (jR lo c n) g dYes te vs σ Q S := by
  refine lc_rng (fun i acc S' => Sub S S' ∧ acc.length = i ∧ ∀ j y, acc[j]? = some y → T j y) ⟨.refl, rfl, fun _ _ e => by cases e⟩ (fun i acc S0 D hi p n0 => ?_) fun acc S' D p n0 => ?_
  · obtain ⟨s0, l0, t0⟩ := p
    have hD : S D = none := s0.nn n0
    refine hs i (up S0 D (.lst acc)) _ hi (s0.up2 n0) fun y S4 s1 ty => ?_
    refine LcE.of (acc := acc) (s1 _ _ up_same) (by omega) ⟨((s0.up2 n0).trans s1).less hD, by simp [l0], fun j z e => ?_⟩
    by_cases hj : j < acc.length
    · rw [List.getElem?_append_left hj] at e; exact t0 j z e
    · have hj2 : j = acc.length := by
        have := (List.getElem?_eq_some_iff.mp e).1
        simp at this; omega
      subst hj2
      simp at e
      rw [← e, l0]; exact ty
  · obtain ⟨s0, l0, t0⟩ := p
    exact hd D acc _ (s0.up2 n0) (s0.nn n0) up_same l0 t0
theorem wipeAll {F : Prop} (h : F) : F := h
/-- a list, by f: what is left out, the items of the others -/
theorem lc_lstF {x : DV} {ds : List DV} (f : DV → Option DV) (hx : lstOf S x ds) (hz : ds.length ≤ 1000)
    (hs : ∀ pre d post S0 (R : DK) (N : Sr → Prop), ds = pre ++ d :: post → Sub S S0 → (∀ y S4, Sub S0 S4 → f d = some y → R y S4) → (∀ S4, Sub S0 S4 → f d = none → N S4) → g d (wipeS σ vs) S0 fun σ2 S2 => tt σ2 S2 fun k S3 => br k (te σ2 S3 R) (N S3))
    (hd : ∀ D S', Sub S S' → Fr S D → S' D = some (.lst (ds.filterMap f)) → Q (.ref D) S') : lk (fun J S => LcQ J g tt te vs σ Q S) x S := by
  refine lc_lst hx (fun pre acc S' => Sub S S' ∧ acc = pre.filterMap f) ⟨.refl, rfl⟩ (fun pre acc S' p => ?_) (fun pre d post acc S0 D e p n0 => ?_) fun acc S' D p n0 => ?_
  · cases x with
    | ref a => exact p.1 _ _ hx
    | scr ns => exact hx
    | _ => exact hx.elim
  · obtain ⟨s0, rfl⟩ := p
    have hD : S D = none := s0.nn n0
    have hl : (pre.filterMap f).length ≤ 1000 := by
      have h1 := List.length_filterMap_le f pre
      have h2 : ds.length = pre.length + (post.length + 1) := by rw [e]; simp
      omega
    refine hs pre d post (up S0 D (.lst (pre.filterMap f))) _ _ e (s0.up2 n0) (fun y S4 s1 fy => ?_) fun S4 s1 fy => ?_
    · refine LcE.of (acc := pre.filterMap f) (s1 _ _ up_same) hl ⟨((s0.up2 n0).trans s1).less hD, ?_⟩
      rw [List.filterMap_append]
      simp [fy]
    · refine LcP.of (acc := pre.filterMap f) (s1 _ _ up_same) ⟨((s0.up2 n0).trans s1).less hD, ?_⟩
      rw [List.filterMap_append]
      simp [fy]
  · obtain ⟨s0, rfl⟩ := p
    exact hd D _ (s0.up2 n0) (s0.nn n0) up_same
/-- .. with the places -/
def fmI (f : Nat → DV → Option DV) (k : Nat) : List DV → List DV
  | [] => []
  | d :: ds => match f k d with
    | some y => y :: fmI f (k + 1) ds
    | none => fmI f (k + 1) ds
theorem fmI_some {f : Nat → DV → Option DV} {k : Nat} {d y : DV} {ds : List DV} (h : f k d = some y) : fmI f k (d :: ds) = y :: fmI f (k + 1) ds := by
  conv => lhs; unfold fmI
  rw [h]
theorem fmI_none {f : Nat → DV → Option DV} {k : Nat} {d : DV} {ds : List DV} (h : f k d = none) : fmI f k (d :: ds) = fmI f (k + 1) ds := by
  conv => lhs; unfold fmI
  rw [h]
theorem fmI_app {f : Nat → DV → Option DV} : ∀ (ds es : List DV) (k : Nat), fmI f k (ds ++ es) = fmI f k ds ++ fmI f (k + ds.length) es
  | [], es, k => rfl
  | d :: ds, es, k => by
    have ih := fmI_app (f := f) ds es (k + 1)
    rw [List.length_cons, show k + (ds.length + 1) = k + 1 + ds.length by omega, List.cons_append]
    cases h : f k d with
    | none => rw [fmI_none h, fmI_none h]; exact ih
    | some y => rw [fmI_some h, fmI_some h, ih]; rfl
theorem fmI_len {f : Nat → DV → Option DV} : ∀ (ds : List DV) (k : Nat), (fmI f k ds).length ≤ ds.length
  | [], k => Nat.le_refl _
  | d :: ds, k => by
    have ih := fmI_len (f := f) ds (k + 1)
    unfold fmI
    cases f k d with
    | none => exact Nat.le_succ_of_le ih
    | some y => exact Nat.succ_le_succ ih
theorem lc_enumF {x : DV} {ds : List DV} (f : Nat → DV → Option DV) (hx : lstOf S x ds) (hz : ds.length ≤ 1000)
    (hs : ∀ pre d post S0 (R : DK) (N : Sr → Prop), ds = pre ++ d :: post → Sub S S0 → (∀ y S4, Sub S0 S4 → f pre.length d = some y → R y S4) → (∀ S4, Sub S0 S4 → f pre.length d = none → N S4) → g (.tup [.int pre.length, d]) (wipeS σ vs) S0 fun σ2 S2 => tt σ2 S2 fun k S3 => br k (te σ2 S3 R) (N S3))
    (hd : ∀ D S', Sub S S' → Fr S D → S' D = some (.lst (fmI f 0 ds)) → Q (.ref D) S') : ek (fun J S => LcQ J g tt te vs σ Q S) [x] S := by
  refine lc_enum hx (fun pre acc S' => Sub S S' ∧ acc = fmI f 0 pre) ⟨.refl, rfl⟩ (fun pre acc S' p => ?_) (fun pre d post acc S0 D e p n0 => ?_) fun acc S' D p n0 => ?_
  · cases x with
    | ref a => exact p.1 _ _ hx
    | scr ns => exact hx
    | _ => exact hx.elim
  · obtain ⟨s0, rfl⟩ := p
    have hD : S D = none := s0.nn n0
    have hl : (fmI f 0 pre).length ≤ 1000 := by
      have h1 := fmI_len (f := f) pre 0
      have h2 : ds.length = pre.length + (post.length + 1) := by rw [e]; simp
      omega
    refine hs pre d post (up S0 D (.lst (fmI f 0 pre))) _ _ e (s0.up2 n0) (fun y S4 s1 fy => ?_) fun S4 s1 fy => ?_
    · refine LcE.of (acc := fmI f 0 pre) (s1 _ _ up_same) hl ⟨((s0.up2 n0).trans s1).less hD, ?_⟩
      rw [fmI_app, Nat.zero_add, fmI_some fy]; rfl
    · refine LcP.of (acc := fmI f 0 pre) (s1 _ _ up_same) ⟨((s0.up2 n0).trans s1).less hD, ?_⟩
      rw [fmI_app, Nat.zero_add, fmI_none fy]
      exact (List.append_nil _).symm
  · obtain ⟨s0, rfl⟩ := p
    exact hd D _ (s0.up2 n0) (s0.nn n0) up_same
end
/-- a list whose items are as f says of the places, as texts -/
theorem strs_of {n : Nat} : ∀ {ys : List DV}, (∀ (i : Nat) y, ys[i]? = some y → ∃ w, y = .str w ∧ sOk n w) → ∃ ws, ys = ws.map DV.str ∧ txs n ws
  | [], _ => ⟨[], rfl, fun _ h => by cases h⟩
  | y :: ys, h => by
    obtain ⟨w, rfl, hw⟩ := h 0 y rfl
    obtain ⟨ws, rfl, hws⟩ := strs_of (ys := ys) fun i z e => h (i + 1) z e
    refine ⟨w :: ws, rfl, fun x m => ?_⟩
    rcases List.mem_cons.mp m with rfl | m
    · exact hw
    · exact hws x m
end Dv
set_option Elab.async false
set_option linter.all false
set_option maxRecDepth 100000
set_option maxHeartbeats 1000000
namespace Ty
open PySem PySem.Spec PyProof.Rows L2 Dv

/-! ### deeds, answers, rows, as plain values -/
inductive Deed where
  | add (n : Str) (a : Int) | take (n : Str) (a : Int) | move (n o : Str) (a : Int)
  | send (h n : Str) (a : Int) | fetch (h n : Str) (a : Int) | pass (h t n : Str) (a : Int)
def Deed.enc : Deed → DV
  | .add n a => .tup [.str "add", .str n, .int a]
  | .take n a => .tup [.str "take", .str n, .int a]
  | .move n o a => .tup [.str "move", .str n, .str o, .int a]
  | .send h n a => .tup [.str "send", .str h, .str n, .int a]
  | .fetch h n a => .tup [.str "fetch", .str h, .str n, .int a]
  | .pass h t n a => .tup [.str "pass", .str h, .str t, .str n, .int a]
def Deed.amt : Deed → Int
  | .add _ a => a | .take _ a => a | .move _ _ a => a | .send _ _ a => a | .fetch _ _ a => a | .pass _ _ _ a => a
def Deed.sized : Deed → Int → Deed
  | .add n _, a => .add n a | .take n _, a => .take n a | .move n o _, a => .move n o a | .send h n _, a => .send h n a | .fetch h n _, a => .fetch h n a | .pass h t n _, a => .pass h t n a
def Deed.names : Deed → List Str
  | .add n _ => [n] | .take n _ => [n] | .move n o _ => [n, o] | .send h n _ => [h, n] | .fetch h n _ => [h, n] | .pass h t n _ => [h, t, n]
structure Deed.ok (d : Deed) : Prop where
  lo : 1 ≤ d.amt
  hi : d.amt ≤ 1000000000000
  nm : txs 40 d.names
def Deed.far : Deed → Bool
  | .send .. => true | .fetch .. => true | .pass .. => true | _ => false
def Deed.words : Deed → List Str
  | .add .. => ["is", "full"] | .take .. => ["is", "short"] | .move .. => ["is", "short", "full"]
  | .send .. => ["is", "short", "no"] | .fetch .. => ["is", "full", "no"] | .pass .. => ["ok", "no"]
inductive Ans where
  | is1 (i : Int) | is2 (i j : Int) | short (i : Int) | full (i : Int) | no (h : Str) | ok
def Ans.enc : Ans → DV
  | .is1 i => .tup [.str "is", .int i]
  | .is2 i j => .tup [.str "is", .int i, .int j]
  | .short i => .tup [.str "short", .int i]
  | .full i => .tup [.str "full", .int i]
  | .no h => .tup [.str "no", .str h]
  | .ok => .tup [.str "ok"]
def Ans.gd : Ans → Prop
  | .no h => sOk 40 h
  | _ => True
inductive Rw where
  | next (n t : Int) | has (w : Str) (a : Int) | kept (n t : Int) (p q : Str) (d : Deed) (a : Ans)
  | came (n t : Int) (p q : Str) (d : Deed) | asked (n : Int) | done (n t : Int) (a : Ans)
def Rw.enc : Rw → DV
  | .next n t => .tup [.str "next", .int n, .int t]
  | .has w a => .tup [.str "has", .str w, .int a]
  | .kept n t p q d a => .tup [.str "kept", .int n, .int t, .str p, .str q, d.enc, a.enc]
  | .came n t p q d => .tup [.str "came", .int n, .int t, .str p, .str q, d.enc]
  | .asked n => .tup [.str "asked", .int n]
  | .done n t a => .tup [.str "done", .int n, .int t, a.enc]
def Rw.gd : Rw → Prop
  | .has w _ => sOk 40 w
  | .kept _ _ p q d a => sOk 40 p ∧ sOk 40 q ∧ d.ok ∧ a.gd
  | .came _ _ p q d => sOk 40 p ∧ sOk 40 q ∧ d.ok
  | .done _ _ a => a.gd
  | _ => True
theorem ok_add : PyData.strOk "add" = true := by decide +kernel
theorem ok_take : PyData.strOk "take" = true := by decide +kernel
theorem ok_move : PyData.strOk "move" = true := by decide +kernel
theorem ok_send : PyData.strOk "send" = true := by decide +kernel
theorem ok_fetch : PyData.strOk "fetch" = true := by decide +kernel
theorem ok_pass : PyData.strOk "pass" = true := by decide +kernel
theorem ok_is : PyData.strOk "is" = true := by decide +kernel
theorem ok_short : PyData.strOk "short" = true := by decide +kernel
theorem ok_full : PyData.strOk "full" = true := by decide +kernel
theorem ok_no : PyData.strOk "no" = true := by decide +kernel
theorem ok_ok : PyData.strOk "ok" = true := by decide +kernel
theorem ok_next : PyData.strOk "next" = true := by decide +kernel
theorem ok_has : PyData.strOk "has" = true := by decide +kernel
theorem ok_kept : PyData.strOk "kept" = true := by decide +kernel
theorem ok_came : PyData.strOk "came" = true := by decide +kernel
theorem ok_asked : PyData.strOk "asked" = true := by decide +kernel
theorem ok_done : PyData.strOk "done" = true := by decide +kernel
theorem Deed.good {d : Deed} (h : d.ok) : good 1 d.enc := by
  have nm := h.nm
  cases d <;> refine good_tup (all_cons (good_str ?_) ?_)
  all_goals first | exact ok_add | exact ok_take | exact ok_move | exact ok_send | exact ok_fetch | exact ok_pass | skip
  all_goals (repeat (first | exact all_nil | refine all_cons good_int ?_ | refine all_cons (good_str (nm _ (by simp [Deed.names])).2) ?_))
theorem Ans.good {a : Ans} (h : a.gd) : good 1 a.enc := by
  cases a <;> refine good_tup (all_cons (good_str ?_) ?_)
  all_goals first | exact ok_is | exact ok_short | exact ok_full | exact ok_no | exact ok_ok | skip
  all_goals (repeat (first | exact all_nil | refine all_cons good_int ?_ | refine all_cons (good_str (And.right h)) ?_))
theorem Rw.good {r : Rw} (h : r.gd) : good 2 r.enc := by
  cases r <;> refine good_tup (all_cons (good_str ?_) ?_)
  all_goals first | exact ok_next | exact ok_has | exact ok_kept | exact ok_came | exact ok_asked | exact ok_done | skip
  case next => exact all_cons good_int (all_cons good_int all_nil)
  case has => exact all_cons (good_str h.2) (all_cons good_int all_nil)
  case kept => exact all_cons good_int (all_cons good_int (all_cons (good_str h.1.2) (all_cons (good_str h.2.1.2) (all_cons (Deed.good h.2.2.1) (all_cons (Ans.good h.2.2.2) all_nil)))))
  case came => exact all_cons good_int (all_cons good_int (all_cons (good_str h.1.2) (all_cons (good_str h.2.1.2) (all_cons (Deed.good h.2.2) all_nil))))
  case asked => exact all_cons good_int all_nil
  case done => exact all_cons good_int (all_cons good_int (all_cons (Ans.good h) all_nil))
theorem rows_good {rows : List Rw} (h : ∀ r, r ∈ rows → r.gd) : ∀ d, d ∈ rows.map Rw.enc → Dv.good 2 d := fun d m => by
  obtain ⟨r, hr, rfl⟩ := List.mem_map.mp m
  exact Rw.good (h r hr)
/-! menus: four lists of texts -/
structure Words (S : Sr) (a : Addr) (ws : List Str) (n : Nat) : Prop where
  l : S a = some (.lst (ws.map DV.str))
  t : txs 40 ws
  lo : n ≤ ws.length
  hi : ws.length ≤ 20
theorem Words.sub {S S' : Sr} {a : Addr} {ws : List Str} {n : Nat} (h : Words S a ws n) (s : Dv.Sub S S') : Words S' a ws n := ⟨s _ _ h.l, h.t, h.lo, h.hi⟩
structure Menus (S : Sr) (m a1 a2 a3 a4 : Addr) (w1 w2 w3 w4 : List Str) : Prop where
  m : S m = some (.lst [.ref a1, .ref a2, .ref a3, .ref a4])
  l1 : Words S a1 w1 2
  l2 : Words S a2 w2 2
  l3 : Words S a3 w3 1
  l4 : Words S a4 w4 1
theorem Menus.sub {S S' : Sr} {m a1 a2 a3 a4 : Addr} {w1 w2 w3 w4 : List Str} (h : Menus S m a1 a2 a3 a4 w1 w2 w3 w4) (s : Dv.Sub S S') : Menus S' m a1 a2 a3 a4 w1 w2 w3 w4 := ⟨s _ _ h.m, h.l1.sub s, h.l2.sub s, h.l3.sub s, h.l4.sub s⟩
end Ty
set_option Elab.async false
set_option linter.all false
set_option maxRecDepth 100000
set_option maxHeartbeats 1000000
namespace Dv
open PySem PySem.Spec PyProof.Rows L2

/-! all but the object at r stays -/
def Kp (r : Addr) (S S' : Sr) : Prop := ∀ c o, c ≠ r → S c = some o → S' c = some o
theorem Kp.refl {r : Addr} {S : Sr} : Kp r S S := fun _ _ _ h => h
theorem Kp.at {r a : Addr} {S S' : Sr} {o : MO} (k : Kp r S S') (n : a ≠ r) (h : S a = some o) : S' a = some o := k a o n h
theorem Kp.trans {r : Addr} {S S1 S2 : Sr} (h : Kp r S S1) (k : Kp r S1 S2) : Kp r S S2 := fun c o n e => k c o n (h c o n e)
theorem Kp.sub {r : Addr} {S S1 S2 : Sr} (h : Kp r S S1) (k : Sub S1 S2) : Kp r S S2 := fun c o n e => k c o (h c o n e)
theorem Kp.of {r : Addr} {S S1 : Sr} (k : Sub S S1) : Kp r S S1 := fun c o n e => k c o e
theorem Kp.up2 {r p : Addr} {S S1 : Sr} {o : MO} (h : Kp r S S1) (n : Fr S1 p) : Kp r S (up S1 p o) := h.sub (.new n)
theorem Kp.set {r : Addr} {S S1 : Sr} {o : MO} (h : Kp r S S1) : Kp r S (up S1 r o) := fun c u n e => by rw [up_ne n]; exact h c u n e
theorem Kp.upF {r p : Addr} {S S1 : Sr} {o : MO} (h : Kp r S S1) (n : Fr S p) : Kp r S (up S1 p o) := fun c u m e => by rw [up_ne (sne e n)]; exact h c u m e
theorem Kp.sub2 {r : Addr} {S S1 S2 : Sr} (s : Sub S S1) (k : Kp r S1 S2) (n : Fr S r) : Sub S S2 := fun c o e => k c o (sne e n) (s c o e)
theorem Kp.tr2 {r q : Addr} {S S1 S2 : Sr} (s : Kp q S S1) (k : Kp r S1 S2) (n : Fr S r) : Kp q S S2 := fun c o m e => k c o (sne e n) (s c o m e)
theorem Kp.fr {r p : Addr} {S S1 : Sr} (k : Kp r S S1) (h : Fr S1 p) (n : p ≠ r) : Fr S p := by
  unfold Fr at h ⊢
  cases q : S p with
  | none => rfl
  | some o => rw [k p o n q] at h; cases h
theorem lstOf_ref {S : Sr} {a : Addr} {ds : List DV} (h : S a = some (.lst ds)) : lstOf S (.ref a) ds := h
end Dv
namespace Ty
open PySem PySem.Spec PyProof.Rows L2 Dv
def Deed.w0 : Deed → Str
  | .add .. => "add" | .take .. => "take" | .move .. => "move" | .send .. => "send" | .fetch .. => "fetch" | .pass .. => "pass"
theorem ix_amt {S : Sr} {Q : DK} (d : Deed) (q : Q (.int d.amt) S) : rIx2 d.enc (.int (-1)) S Q := by cases d <;> exact w_ixT rfl q
theorem ix_w0 {S : Sr} {Q : DK} (d : Deed) (q : Q (.str d.w0) S) : rIx2 d.enc (.int 0) S Q := by cases d <;> exact w_ixT rfl q
theorem ix_1 {S : Sr} {Q : DK} (d : Deed) (o : d.ok) (q : ∀ w, w ∈ d.names → Q (.str w) S) : rIx2 d.enc (.int 1) S Q := by
  cases d <;> exact w_ixT rfl (q _ (by simp [Deed.names]))
end Ty
set_option Elab.async false
set_option linter.all false
set_option maxRecDepth 100000
set_option maxHeartbeats 1000000
namespace Dv
open PySem PySem.Spec PyProof.Rows L2

section
variable {g : DG} {tt : DT} {te : DE} {vs : List Nat} {σ : DSt} {Q : DK} {S : Sr}
/-- a comprehension over a list of values of a type of ours -/
theorem lc_mapF {α : Type} (enc : α → DV) {l : List α} {x : Addr} (f : α → Option DV) (hx : S x = some (.lst (l.map enc))) (hz : l.length ≤ 1000)
    (hs : ∀ a S0 (R : DK) (N : Sr → Prop), a ∈ l → Sub S S0 → (∀ y S4, Sub S0 S4 → f a = some y → R y S4) → (∀ S4, Sub S0 S4 → f a = none → N S4) → g (enc a) (wipeS σ vs) S0 fun σ2 S2 => tt σ2 S2 fun k S3 => br k (te σ2 S3 R) (N S3))
    (hd : ∀ D S', Sub S S' → Fr S D → S' D = some (.lst (l.filterMap f)) → Q (.ref D) S') : lk (fun J S => LcQ J g tt te vs σ Q S) (.ref x) S := by
  refine lc_lst (x := .ref x) (ds := l.map enc) hx (fun pre acc S' => Sub S S' ∧ acc = (l.take pre.length).filterMap f) ⟨.refl, rfl⟩ (fun pre acc S' p => p.1 _ _ hx) (fun pre d post acc S0 D e p n0 => ?_) fun acc S' D p n0 => ?_
  · obtain ⟨s0, rfl⟩ := p
    have hD : Fr S D := s0.nn n0
    have hlt : pre.length < l.length := by
      have := congrArg List.length e
      simp at this; omega
    have hd : d = enc l[pre.length] := by
      have e1 : (l.map enc)[pre.length]? = some d := by rw [e]; simp
      rw [List.getElem?_map, List.getElem?_eq_getElem hlt] at e1
      exact (Option.some.inj e1).symm
    subst hd
    have hl : ((l.take pre.length).filterMap f).length ≤ 1000 := by
      have h1 := List.length_filterMap_le f (l.take pre.length)
      rw [List.length_take] at h1
      omega
    have et : l.take (pre ++ [enc l[pre.length]]).length = l.take pre.length ++ [l[pre.length]] := by
      rw [List.length_append]
      exact List.take_succ_eq_append_getElem hlt
    refine hs l[pre.length] (up S0 D (.lst ((l.take pre.length).filterMap f))) _ _ (List.getElem_mem hlt) (s0.up2 n0) (fun y S4 s1 fy => ?_) fun S4 s1 fy => ?_
    · refine LcE.of (acc := (l.take pre.length).filterMap f) (s1 _ _ up_same) hl ⟨((s0.up2 n0).trans s1).less hD, ?_⟩
      rw [et, List.filterMap_append]
      simp [fy]
    · refine LcP.of (acc := (l.take pre.length).filterMap f) (s1 _ _ up_same) ⟨((s0.up2 n0).trans s1).less hD, ?_⟩
      rw [et, List.filterMap_append]
      simp [fy]
  · obtain ⟨s0, rfl⟩ := p
    refine hd D _ (s0.up2 n0) (s0.nn n0) ?_
    rw [up_same, List.length_map, List.take_length]
end
theorem w_neS {S : Sr} {Q : DK} {i j : Str} (q : Q (.bl (!(i == j))) S) : rNeD (.str i) (.str j) S Q := ⟨i == j, .inl rfl, q⟩
/-! dicts of whole numbers -/
def intsK (kvs : List (Key × DV)) : Prop := ∀ kv, kv ∈ kvs → ∃ i, kv.2 = .int i
structure Book (S : Sr) (b : Addr) (n : Nat) (kvs : List (Key × DV)) : Prop where
  d : S b = some (.dK kvs)
  i : intsK kvs
  n : kvs.length ≤ n
theorem Book.sub {S S' : Sr} {b : Addr} {n : Nat} {kvs : List (Key × DV)} (h : Book S b n kvs) (s : Sub S S') : Book S' b n kvs := ⟨s _ _ h.d, h.i, h.n⟩
theorem intsK.get {kvs : List (Key × DV)} (h : intsK kvs) (k : Key) : ∃ i, (vD kvs k).getD (.int 0) = .int i := by
  unfold vD
  cases q : kvs.find? fun kv => decide (kv.1 = k) with
  | none => exact ⟨0, rfl⟩
  | some kv =>
    obtain ⟨i, e⟩ := h kv (List.mem_of_find?_eq_some q)
    exact ⟨i, e⟩
theorem intsK.put {kvs : List (Key × DV)} (h : intsK kvs) (k : Key) (i : Int) : intsK (pD kvs k (.int i)) := by
  unfold pD
  split
  · intro kv m
    obtain ⟨kv', m', e⟩ := List.mem_map.mp m
    by_cases c : kv'.1 = k
    · rw [if_pos c] at e; subst e; exact ⟨i, rfl⟩
    · rw [if_neg c] at e; subst e; exact h _ m'
  · intro kv m
    rcases List.mem_append.mp m with m | m
    · exact h kv m
    · rw [List.mem_singleton.mp m]; exact ⟨i, rfl⟩
theorem intsK.merge : ∀ {more kvs : List (Key × DV)}, intsK kvs → intsK more → intsK (mergeD kvs more)
  | [], _, h, _ => h
  | (k, v) :: r, kvs, h, hm => by
    obtain ⟨i, e⟩ := hm (k, v) (List.mem_cons_self ..)
    have e : v = .int i := e
    subst e
    exact intsK.merge (more := r) (kvs := pD kvs k (.int i)) (h.put k i) fun kv m => hm kv (List.mem_cons_of_mem _ m)
theorem len_merge : ∀ {more kvs : List (Key × DV)}, (mergeD kvs more).length ≤ kvs.length + more.length
  | [], _ => Nat.le_refl _
  | (k, v) :: r, kvs => by
    have := len_merge (more := r) (kvs := pD kvs k v)
    have := len_pD kvs k v
    show (mergeD (pD kvs k v) r).length ≤ _
    rw [List.length_cons]
    omega
theorem w_getI {S : Sr} {Q : DK} {a : Addr} {kvs : List (Key × DV)} {y : Str} (h : S a = some (.dK kvs)) (hi : intsK kvs) (q : ∀ i, Q (.int i) S) : getk a Q (.str y) (.int 0) S := by
  obtain ⟨i, e⟩ := hi.get (.inr y)
  exact w_getS h (by rw [e]; exact q i)
/-! lists of lists of data -/
theorem deepOf {S : Sr} {n : Nat} : ∀ {xs : List Addr}, (∀ x, x ∈ xs → ∃ ds, S x = some (.lst ds) ∧ ∀ d, d ∈ ds → good n d) →
    ∃ ps, Pys S (xs.map DV.ref) ps ∧ PyData.canLayAll0 ps = true ∧ PyData.depthAll ps ≤ n + 1 ∧ ps.length = xs.length ∧ ∀ (i : Nat) x, xs[i]? = some x → ∃ ds, S x = some (.lst ds) ∧ ps[i]? = some (.list (toPs ds))
  | [], _ => ⟨[], .nil, rfl, Nat.zero_le _, rfl, fun _ _ e => by cases e⟩
  | x :: xs, h => by
    obtain ⟨ps, h1, h2, h3, h4, h5⟩ := deepOf (xs := xs) fun y m => h y (List.mem_cons_of_mem _ m)
    obtain ⟨ds, e, hg⟩ := h x (List.mem_cons_self ..)
    obtain ⟨g1, g2⟩ := goods hg
    refine ⟨.list (toPs ds) :: ps, .cons (.lst e (.of g1)) h1, ?_, ?_, by simp [h4], fun i y ey => ?_⟩
    · show (PyData.canLayAll0 (toPs ds) && PyData.canLayAll0 ps) = true
      rw [lays_of g1, h2]; rfl
    · show max (PyData.depthAll (toPs ds) + 1) (PyData.depthAll ps) ≤ n + 1
      omega
    · cases i with
      | zero => simp at ey; subst ey; exact ⟨ds, e, rfl⟩
      | succ i => exact h5 i y (by simpa using ey)
theorem shaped_list {ps : List PyData} {n : Nat} (h : PyData.canLayAll0 ps = true) (d : PyData.depthAll ps ≤ n) (l : n ≤ 63) : SeqAt.shaped (.list ps) = true := by
  unfold SeqAt.shaped
  have e : PyData.depth (.list ps) ≤ 64 := by show PyData.depthAll ps + 1 ≤ 64; omega
  rw [decide_eq_true e, Bool.and_true]
  exact h
/-- a list of lists, and the empty one -/
theorem EqD.nilL {S : Sr} {a b : Addr} {xs : List Addr} {n : Nat} (ha : S a = some (.lst (xs.map DV.ref))) (hb : S b = some (.lst [])) (hx : ∀ x, x ∈ xs → ∃ ds, S x = some (.lst ds) ∧ ∀ d, d ∈ ds → good n d) (l : n ≤ 60) : EqD S (.ref a) (.ref b) (decide (xs = [])) := by
  obtain ⟨ps, h1, h2, h3, h4, _⟩ := deepOf hx
  refine .inr ⟨_, _, .lst ha h1, .lst hb .nil, shaped_list h2 h3 (by omega), rfl, ?_⟩
  cases xs with
  | nil => cases ps with
    | nil => rfl
    | cons _ _ => simp at h4
  | cons _ _ => cases ps with
    | nil => simp at h4
    | cons _ _ => rfl
/-- a list of lists: the first one that is like x is taken out -/
theorem w_rem {S : Sr} {Q : DK} {a x : Addr} {xs : List Addr} {n : Nat} (ha : S a = some (.lst (xs.map DV.ref))) (hx : ∀ x, x ∈ xs → ∃ ds, S x = some (.lst ds) ∧ ∀ d, d ∈ ds → good n d) (l : n ≤ 60) (hm : x ∈ xs)
    (q : ∀ ys : List Addr, (∀ y, y ∈ ys → y ∈ xs) → ys.length ≤ xs.length → Q .non (up S a (.lst (ys.map DV.ref)))) : rRem (.ref a) [.ref x] S Q := by
  obtain ⟨ps, h1, h2, h3, h4, h5⟩ := deepOf hx
  obtain ⟨i, hi, e⟩ := List.getElem_of_mem hm
  obtain ⟨ds, e1, e2⟩ := h5 i x (by rw [List.getElem?_eq_getElem hi, e])
  obtain ⟨ds', e1', hg⟩ := hx x hm
  rw [e1] at e1'; cases e1'
  obtain ⟨g1, g2⟩ := goods hg
  have hs : SeqAt.shaped (.list (toPs ds)) = true := goods.shaped hg (by omega)
  have hex : ∃ p, p ∈ ps ∧ PyData.eqv p (.list (toPs ds)) = true := ⟨_, List.mem_of_getElem? e2, eqvs_toP g1⟩
  have hj : ps.findIdx (fun p => PyData.eqv p (.list (toPs ds))) < ps.length := List.findIdx_lt_length.mpr hex
  refine ⟨_, ps, .list (toPs ds), ps.findIdx (fun p => PyData.eqv p (.list (toPs ds))), _, ha, h1, .lst e1 (.of g1), shaped_list h2 h3 (by omega), hs, List.getElem?_eq_getElem hj, List.findIdx_getElem (w := hj), fun m z hm ez => ?_, ?_⟩
  · have hml : m < ps.length := by omega
    rw [List.getElem?_eq_getElem hml] at ez
    cases ez
    have := List.not_of_lt_findIdx hm
    simpa using this
  · have e3 : (xs.map DV.ref).eraseIdx (ps.findIdx fun p => PyData.eqv p (.list (toPs ds))) = (xs.eraseIdx (ps.findIdx fun p => PyData.eqv p (.list (toPs ds)))).map DV.ref := by
      rw [List.eraseIdx_eq_take_drop_succ, List.eraseIdx_eq_take_drop_succ, List.map_append, List.map_take, List.map_drop]
    rw [e3]
    exact q _ (fun y m => List.mem_of_mem_eraseIdx m) (List.length_eraseIdx_le _ _)
/-- parts of lists of texts -/
theorem cutD_map {α : Type} (f : α → DV) (xs : List α) (l u : Option Int) : ∃ ys : List α, cutD (xs.map f) l u = ys.map f ∧ (∀ y, y ∈ ys → y ∈ xs) ∧ ys.length ≤ xs.length := by
  refine ⟨(xs.drop (HT.sIx xs.length 0 l)).take (HT.sIx xs.length xs.length u - HT.sIx xs.length 0 l), ?_, fun y m => List.mem_of_mem_drop (List.mem_of_mem_take m), ?_⟩
  · unfold cutD
    rw [List.length_map, List.map_take, List.map_drop]
  · rw [List.length_take, List.length_drop]; omega
/-- a loop over a list of values of a type of ours -/
theorem for_map {α : Type} (enc : α → DV) {l : List α} {x : Addr} {g : DG} {tb : DS} {n : DSt → Sr → Prop} {r : DK} {b c : DSt → Sr → Prop} {σ : DSt} {S : Sr} (hx : S x = some (.lst (l.map enc))) (P : List α → DSt → Sr → Prop) (h0 : P [] σ S) (hl : ∀ pre σ S, P pre σ S → S x = some (.lst (l.map enc)))
    (hs : ∀ pre a post σ S, l = pre ++ a :: post → P pre σ S → g (enc a) σ S fun σ2 S2 => tb ⟨P (pre ++ [a]), r, n, P (pre ++ [a])⟩ σ2 S2)
    (hd : ∀ σ S, P l σ S → n σ S) : lk (fun J S => ForQ J g tb ⟨n, r, b, c⟩ σ S) (.ref x) S := by
  refine for_lst (x := .ref x) (ds := l.map enc) (D := ⟨n, r, b, c⟩) hx (fun pre σ S => P (l.take pre.length) σ S) h0 (fun pre σ S p => hl _ σ S p) (fun pre d post σ S e p => ?_) fun σ S p => hd σ S ?_
  · have hlt : pre.length < l.length := by
      have := congrArg List.length e
      simp at this; omega
    have hd : d = enc l[pre.length] := by
      have e1 : (l.map enc)[pre.length]? = some d := by rw [e]; simp
      rw [List.getElem?_map, List.getElem?_eq_getElem hlt] at e1
      exact (Option.some.inj e1).symm
    subst hd
    have et : l.take (pre ++ [enc l[pre.length]]).length = l.take pre.length ++ [l[pre.length]] := by
      rw [List.length_append]
      exact List.take_succ_eq_append_getElem hlt
    have := hs (l.take pre.length) l[pre.length] (l.drop (pre.length + 1)) σ S (by rw [← List.drop_eq_getElem_cons hlt, List.take_append_drop]) p
    rw [et]
    exact this
  · rw [List.length_map, List.take_length] at p
    exact p
theorem for_mapE {α : Type} {K : PySem.W.Frag} {Q : DK} (enc : α → DV) {l : List α} {x : Addr} {g : DG} {tb : DS} {σ : DSt} {S : Sr} (hx : S x = some (.lst (l.map enc))) (P : List α → DSt → Sr → Prop) (h0 : P [] σ S) (hl : ∀ pre σ S, P pre σ S → S x = some (.lst (l.map enc)))
    (hs : ∀ pre a post σ S, l = pre ++ a :: post → P pre σ S → g (enc a) σ S fun σ2 S2 => tb ⟨P (pre ++ [a]), fun d S => Opens K S (Q d), fun _ S => Opens K S (Q .non), P (pre ++ [a])⟩ σ2 S2)
    (hd : ∀ σ S, P l σ S → Opens K S (Q .non)) : lk (fun J S => ForQ J g tb (dEnd K Q) σ S) (.ref x) S :=
  for_map enc (n := fun _ S => Opens K S (Q .non)) (r := fun d S => Opens K S (Q d)) (b := fun _ _ => False) (c := fun _ _ => False) hx P h0 hl hs hd
end Dv
set_option Elab.async false
set_option linter.all false
set_option maxRecDepth 100000
set_option maxHeartbeats 4000000
namespace K72
open PySem PySem.Spec PyProof.Rows L2 Dv
def top (i : Nat) : Stmt := PySem.Challenge.pw_oncedoor_k72_too_near.main.body.getD i (.Pass ⟨0, 0, 0, 0⟩)
abbrev s_came_rows : Stmt := top 1
abbrev N_came_rows : List Str := ["rows", "found", "row"]
theorem sc_came_rows : FnScope N_came_rows ["rows"] (defScope s_came_rows) := ⟨rfl, rfl, rfl, by decide +kernel, rfl, by decide +kernel, by decide +kernel⟩
abbrev s_kept_of : Stmt := top 2
abbrev N_kept_of : List Str := ["rows", "came", "found", "row", "number", "turn", "answer", "asker", "key", "deed"]
theorem sc_kept_of : FnScope N_kept_of ["rows"] (defScope s_kept_of) := ⟨rfl, rfl, rfl, by decide +kernel, rfl, by decide +kernel, by decide +kernel⟩
abbrev s_too_near : Stmt := top 4
abbrev N_too_near : List Str := ["rows", "life", "places", "told", "later", "entry", "ahead", "place", "row"]
theorem sc_too_near : FnScope N_too_near ["rows", "life"] (defScope s_too_near) := ⟨rfl, rfl, rfl, by decide +kernel, rfl, by decide +kernel, by decide +kernel⟩
abbrev s_l_deck : Stmt := top 6
abbrev N_l_deck : List Str := ["_law_script"]
theorem sc_l_deck : FnScope N_l_deck ["_law_script"] (defScope s_l_deck) := ⟨rfl, rfl, rfl, by decide +kernel, rfl, by decide +kernel, by decide +kernel⟩
abbrev s_l_draw : Stmt := top 7
abbrev N_l_draw : List Str := ["_law_deck_here", "_law_many", "_law_cell", "_law_number"]
theorem sc_l_draw : FnScope N_l_draw ["_law_deck_here", "_law_many"] (defScope s_l_draw) := ⟨rfl, rfl, rfl, by decide +kernel, rfl, by decide +kernel, by decide +kernel⟩
abbrev s_l_unlike : Stmt := top 8
abbrev N_l_unlike : List Str := ["_law_deck_here", "_law_signs", "_law_longest", "_law_many", "_law_word", "_law_size", "_law_at", "_law_first", "_law_ends", "_law_k"]
theorem sc_l_unlike : FnScope N_l_unlike ["_law_deck_here", "_law_signs", "_law_longest", "_law_many"] (defScope s_l_unlike) := ⟨rfl, rfl, rfl, by decide +kernel, rfl, by decide +kernel, by decide +kernel⟩
abbrev s_l_menus : Stmt := top 13
abbrev N_l_menus : List Str := ["_law_deck_here", "_law_letters", "_law_menus_here", "_law_word", "_law_many", "_law_askers", "_law_k"]
theorem sc_l_menus : FnScope N_l_menus ["_law_deck_here"] (defScope s_l_menus) := ⟨rfl, rfl, rfl, by decide +kernel, rfl, by decide +kernel, by decide +kernel⟩
abbrev s_l_end : Stmt := top 9
abbrev N_l_end : List Str := ["_law_deck_here", "_law_many"]
theorem sc_l_end : FnScope N_l_end ["_law_deck_here", "_law_many"] (defScope s_l_end) := ⟨rfl, rfl, rfl, by decide +kernel, rfl, by decide +kernel, by decide +kernel⟩
abbrev s_l_deed : Stmt := top 10
abbrev N_l_deed : List Str := ["_law_deck_here", "_law_names", "_law_houses", "_law_amount", "_law_at", "_law_name", "_law_other", "_law_spot_here", "_law_house", "_law_there", "_law_some"]
theorem sc_l_deed : FnScope N_l_deed ["_law_deck_here", "_law_names", "_law_houses"] (defScope s_l_deed) := ⟨rfl, rfl, rfl, by decide +kernel, rfl, by decide +kernel, by decide +kernel⟩
abbrev s_l_spot : Stmt := top 14
abbrev N_l_spot : List Str := ["_law_deck_here", "_law_menus_here"]
theorem sc_l_spot : FnScope N_l_spot ["_law_deck_here", "_law_menus_here"] (defScope s_l_spot) := ⟨rfl, rfl, rfl, by decide +kernel, rfl, by decide +kernel, by decide +kernel⟩
abbrev s_l_changes : Stmt := top 20
abbrev N_l_changes : List Str := ["_law_deed_here", "_law_answer_here"]
theorem sc_l_changes : FnScope N_l_changes ["_law_deed_here", "_law_answer_here"] (defScope s_l_changes) := ⟨rfl, rfl, rfl, by decide +kernel, rfl, by decide +kernel, by decide +kernel⟩
abbrev s_l_changed : Stmt := top 21
abbrev N_l_changed : List Str := ["_law_book", "_law_deed_here", "_law_answer_here", "_law_name", "_law_by"]
theorem sc_l_changed : FnScope N_l_changed ["_law_book", "_law_deed_here", "_law_answer_here"] (defScope s_l_changed) := ⟨rfl, rfl, rfl, by decide +kernel, rfl, by decide +kernel, by decide +kernel⟩
abbrev s_l_sized : Stmt := top 22
abbrev N_l_sized : List Str := ["_law_deck_here", "_law_book", "_law_deed_here", "_law_name", "_law_have", "_law_some", "_law_amount"]
theorem sc_l_sized : FnScope N_l_sized ["_law_deck_here", "_law_book", "_law_deed_here"] (defScope s_l_sized) := ⟨rfl, rfl, rfl, by decide +kernel, rfl, by decide +kernel, by decide +kernel⟩
abbrev s_l_early : Stmt := top 18
abbrev N_l_early : List Str := ["_law_book", "_law_deed_here", "_law_amount", "_law_name", "_law_have"]
theorem sc_l_early : FnScope N_l_early ["_law_book", "_law_deed_here"] (defScope s_l_early) := ⟨rfl, rfl, rfl, by decide +kernel, rfl, by decide +kernel, by decide +kernel⟩
abbrev s_l_lates : Stmt := top 19
abbrev N_l_lates : List Str := ["_law_book", "_law_deed_here", "_law_behind"]
theorem sc_l_lates : FnScope N_l_lates ["_law_book", "_law_deed_here"] (defScope s_l_lates) := ⟨rfl, rfl, rfl, by decide +kernel, rfl, by decide +kernel, by decide +kernel⟩
abbrev s_l_right : Stmt := top 23
abbrev N_l_right : List Str := ["_law_deck_here", "_law_book", "_law_one", "_law_due_here", "_law_far", "_law_some"]
theorem sc_l_right : FnScope N_l_right ["_law_deck_here", "_law_book", "_law_one"] (defScope s_l_right) := ⟨rfl, rfl, rfl, by decide +kernel, rfl, by decide +kernel, by decide +kernel⟩
abbrev s_l_lived : Stmt := top 24
abbrev N_l_lived : List Str := ["_law_deck_here", "_law_rows", "_law_menus_here", "_law_many", "_law_book", "_law_under", "_law_words_here", "_law_number", "_law_turn", "_law_k", "_law_way", "_law_deed_here", "_law_one", "_law_answer_here", "_law_row"]
theorem sc_l_lived : FnScope N_l_lived ["_law_deck_here", "_law_rows", "_law_menus_here", "_law_many"] (defScope s_l_lived) := ⟨rfl, rfl, rfl, by decide +kernel, rfl, by decide +kernel, by decide +kernel⟩
abbrev s_l_words : Stmt := top 11
abbrev N_l_words : List Str := ["_law_deed_here", "_law_asked", "_law_words_here", "_law_some", "_law_word"]
theorem sc_l_words : FnScope N_l_words ["_law_deed_here", "_law_asked"] (defScope s_l_words) := ⟨rfl, rfl, rfl, by decide +kernel, rfl, by decide +kernel, by decide +kernel⟩
abbrev s_l_answer : Stmt := top 12
abbrev N_l_answer : List Str := ["_law_deck_here", "_law_deed_here", "_law_word", "_law_amount", "_law_low", "_law_high"]
theorem sc_l_answer : FnScope N_l_answer ["_law_deck_here", "_law_deed_here", "_law_word"] (defScope s_l_answer) := ⟨rfl, rfl, rfl, by decide +kernel, rfl, by decide +kernel, by decide +kernel⟩
abbrev s_l_kept : Stmt := top 15
abbrev N_l_kept : List Str := ["_law_deck_here", "_law_menus_here", "_law_number", "_law_turn", "_law_deed_here", "_law_words_here", "_law_answer_here"]
theorem sc_l_kept : FnScope N_l_kept ["_law_deck_here", "_law_menus_here", "_law_number", "_law_turn"] (defScope s_l_kept) := ⟨rfl, rfl, rfl, by decide +kernel, rfl, by decide +kernel, by decide +kernel⟩
abbrev s_l_head : Stmt := top 16
abbrev N_l_head : List Str := ["_law_deck_here", "_law_menus_here", "_law_number", "_law_turn", "_law_rows", "_law_name", "_law_last", "_law_k"]
theorem sc_l_head : FnScope N_l_head ["_law_deck_here", "_law_menus_here"] (defScope s_l_head) := ⟨rfl, rfl, rfl, by decide +kernel, rfl, by decide +kernel, by decide +kernel⟩
abbrev s_l_some_head : Stmt := top 25
abbrev N_l_some_head : List Str := ["_law_deck_here", "_law_menus_here", "_law_rows"]
theorem sc_l_some_head : FnScope N_l_some_head ["_law_deck_here", "_law_menus_here"] (defScope s_l_some_head) := ⟨rfl, rfl, rfl, by decide +kernel, rfl, by decide +kernel, by decide +kernel⟩
abbrev s_l_entries : Stmt := top 26
abbrev N_l_entries : List Str := ["_law_rows", "_law_came", "_law_found", "_law_k", "_law_row"]
theorem sc_l_entries : FnScope N_l_entries ["_law_rows"] (defScope s_l_entries) := ⟨rfl, rfl, rfl, by decide +kernel, rfl, by decide +kernel, by decide +kernel⟩
abbrev s_l_due : Stmt := top 27
abbrev N_l_due : List Str := ["_law_rows", "_law_life_here", "_law_best", "_law_some", "_law_k", "_law_spot_here", "_law_turn", "_law_j", "_law_other", "_law_later"]
theorem sc_l_due : FnScope N_l_due ["_law_rows", "_law_life_here"] (defScope s_l_due) := ⟨rfl, rfl, rfl, by decide +kernel, rfl, by decide +kernel, by decide +kernel⟩
abbrev s_l_life : Stmt := top 28
abbrev N_l_life : List Str := ["_law_deck_here", "_law_rows", "_law_turns", "_law_way", "_law_one", "_law_other", "_law_k", "_law_spot_here", "_law_turn"]
theorem sc_l_life : FnScope N_l_life ["_law_deck_here", "_law_rows"] (defScope s_l_life) := ⟨rfl, rfl, rfl, by decide +kernel, rfl, by decide +kernel, by decide +kernel⟩
abbrev s_l_told : Stmt := top 29
abbrev N_l_told : List Str := ["_law_rows", "_law_life_here", "_law_kept_here", "_law_found", "_law_number"]
theorem sc_l_told : FnScope N_l_told ["_law_rows", "_law_life_here"] (defScope s_l_told) := ⟨rfl, rfl, rfl, by decide +kernel, rfl, by decide +kernel, by decide +kernel⟩
abbrev s_law : Stmt := top 30
abbrev N_law : List Str := ["_law_script", "_law_deck_here", "_law_menus_here", "_law_turn", "_law_some", "_law_rows", "_law_life_here", "_law_due_here"]
theorem sc_law : FnScope N_law ["_law_script"] (defScope s_law) := ⟨rfl, rfl, rfl, by decide +kernel, rfl, by decide +kernel, by decide +kernel⟩
theorem bb_abs : bootBuiltins "abs" = some (.builtin "abs") := by decide +kernel
theorem bb_bool : bootBuiltins "bool" = some (.type "bool") := by decide +kernel
theorem bb_dict : bootBuiltins "dict" = some (.type "dict") := by decide +kernel
theorem bb_int : bootBuiltins "int" = some (.type "int") := by decide +kernel
theorem bb_isinstance : bootBuiltins "isinstance" = some (.builtin "isinstance") := by decide +kernel
theorem bb_len : bootBuiltins "len" = some (.builtin "len") := by decide +kernel
theorem bb_list : bootBuiltins "list" = some (.type "list") := by decide +kernel
theorem bb_max : bootBuiltins "max" = some (.builtin "max") := by decide +kernel
theorem bb_min : bootBuiltins "min" = some (.builtin "min") := by decide +kernel
theorem bb_sorted : bootBuiltins "sorted" = some (.builtin "sorted") := by decide +kernel
theorem bb_sum : bootBuiltins "sum" = some (.builtin "sum") := by decide +kernel
theorem bb_tuple : bootBuiltins "tuple" = some (.type "tuple") := by decide +kernel
structure FnG (K : PySem.W.Frag) (mg : Str → Option Value) (x qual : Str) (st : Stmt) (ps : List Str) where
  a : Addr
  fd : FuncData
  F : FunD K x qual (defArgs st) (defBody st) (defScope st) [] [] a fd
  m : mg x = some (.ref a)
  b : Binds K fd ps []
structure Glb (K : PySem.W.Frag) (mg : Str → Option Value) where
  came_rows : FnG K mg "came_rows" "came_rows" s_came_rows ["rows"]
  kept_of : FnG K mg "kept_of" "kept_of" s_kept_of ["rows"]
  too_near : FnG K mg "too_near" "too_near" s_too_near ["rows", "life"]
  l_deck : FnG K mg "_law_deck" "_law_deck" s_l_deck ["_law_script"]
  l_draw : FnG K mg "_law_draw" "_law_draw" s_l_draw ["_law_deck_here", "_law_many"]
  l_unlike : FnG K mg "_law_unlike" "_law_unlike" s_l_unlike ["_law_deck_here", "_law_signs", "_law_longest", "_law_many"]
  l_menus : FnG K mg "_law_menus" "_law_menus" s_l_menus ["_law_deck_here"]
  l_end : FnG K mg "_law_end" "_law_end" s_l_end ["_law_deck_here", "_law_many"]
  l_deed : FnG K mg "_law_deed" "_law_deed" s_l_deed ["_law_deck_here", "_law_names", "_law_houses"]
  l_spot : FnG K mg "_law_spot" "_law_spot" s_l_spot ["_law_deck_here", "_law_menus_here"]
  l_changes : FnG K mg "_law_changes" "_law_changes" s_l_changes ["_law_deed_here", "_law_answer_here"]
  l_changed : FnG K mg "_law_changed" "_law_changed" s_l_changed ["_law_book", "_law_deed_here", "_law_answer_here"]
  l_sized : FnG K mg "_law_sized" "_law_sized" s_l_sized ["_law_deck_here", "_law_book", "_law_deed_here"]
  l_early : FnG K mg "_law_early" "_law_early" s_l_early ["_law_book", "_law_deed_here"]
  l_lates : FnG K mg "_law_lates" "_law_lates" s_l_lates ["_law_book", "_law_deed_here"]
  l_right : FnG K mg "_law_right" "_law_right" s_l_right ["_law_deck_here", "_law_book", "_law_one"]
  l_lived : FnG K mg "_law_lived" "_law_lived" s_l_lived ["_law_deck_here", "_law_rows", "_law_menus_here", "_law_many"]
  l_words : FnG K mg "_law_words" "_law_words" s_l_words ["_law_deed_here", "_law_asked"]
  l_answer : FnG K mg "_law_answer" "_law_answer" s_l_answer ["_law_deck_here", "_law_deed_here", "_law_word"]
  l_kept : FnG K mg "_law_kept" "_law_kept" s_l_kept ["_law_deck_here", "_law_menus_here", "_law_number", "_law_turn"]
  l_head : FnG K mg "_law_head" "_law_head" s_l_head ["_law_deck_here", "_law_menus_here"]
  l_some_head : FnG K mg "_law_some_head" "_law_some_head" s_l_some_head ["_law_deck_here", "_law_menus_here"]
  l_entries : FnG K mg "_law_entries" "_law_entries" s_l_entries ["_law_rows"]
  l_due : FnG K mg "_law_due" "_law_due" s_l_due ["_law_rows", "_law_life_here"]
  l_life : FnG K mg "_law_life" "_law_life" s_l_life ["_law_deck_here", "_law_rows"]
  l_told : FnG K mg "_law_told" "_law_told" s_l_told ["_law_rows", "_law_life_here"]
  law : FnG K mg "law" "law" s_law ["_law_script"]
  n_abs : mg "abs" = none
  n_bool : mg "bool" = none
  n_dict : mg "dict" = none
  n_enumerate : mg "enumerate" = none
  n_int : mg "int" = none
  n_isinstance : mg "isinstance" = none
  n_len : mg "len" = none
  n_list : mg "list" = none
  n_max : mg "max" = none
  n_min : mg "min" = none
  n_range : mg "range" = none
  n_sorted : mg "sorted" = none
  n_sum : mg "sum" = none
  n_tuple : mg "tuple" = none
end K72
set_option Elab.async false
set_option linter.all false
set_option maxRecDepth 100000
set_option maxHeartbeats 1000000
namespace K72
open PySem PySem.Spec PyProof.Rows L2 Dv Ty
local macro_rules | `(tactic| walk_at "sub") => `(tactic| first | with_reducible exact Sub.refl | assumption | ((with_reducible refine Sub.up2 ?_ (by assumption)); walk_at "sub") | ((with_reducible refine Sub.upF ?_ (by first | assumption | exact Sub.nn (by assumption) (by assumption))); walk_at "sub") | ((with_reducible refine Sub.trans ?_ (by assumption)); walk_at "sub") | ((with_reducible refine Kp.sub2 ?h1 (by assumption) ?h2); (case h2 => walk_at "fr"); (case h1 => walk_at "sub")))
local macro_rules | `(tactic| walk_at "kp") => `(tactic| first | exact Kp.refl | assumption | ((with_reducible refine Kp.set ?_); walk_at "kp") | ((with_reducible refine Kp.up2 ?_ (by assumption)); walk_at "kp") | ((with_reducible refine Kp.upF ?_ ?h); (case h => walk_at "fr"); walk_at "kp") | ((with_reducible refine Kp.sub ?_ (by assumption)); walk_at "kp") | ((with_reducible refine Kp.trans ?_ (by assumption)); walk_at "kp") | ((with_reducible refine Kp.tr2 ?h1 (by assumption) ?h2); (case h2 => walk_at "fr"); (case h1 => walk_at "kp")) | (refine Kp.of ?_; walk_at "sub"))
local macro_rules | `(tactic| walk_at "keep") => `(tactic| first | with_reducible exact Keep.refl | assumption | ((with_reducible refine Keep.up2 ?_ (by assumption)); walk_at "keep") | ((with_reducible refine Keep.sub ?_ (by assumption)); walk_at "keep") | ((with_reducible refine Keep.trans ?_ (by assumption)); walk_at "keep"))
local macro_rules | `(tactic| walk_at "ne") => `(tactic| first | assumption | (apply Ne.symm; assumption) | ((with_reducible refine sneF (S := ?S) (o := ?o) ?h1 ?h2); (case h2 => assumption); (case h1 => walk_at "fact")) | ((with_reducible refine Ne.symm (sneF (S := ?S) (o := ?o) ?h1 ?h2)); (case h2 => assumption); (case h1 => walk_at "fact")))
local macro_rules | `(tactic| walk_at "fact") => `(tactic| first | assumption | exact up_same | ((with_reducible refine up_at (by assumption) ?_); walk_at "fact") | ((with_reducible refine up_at2 ?h ?_); (case h => walk_at "ne"); walk_at "fact") | ((with_reducible refine Sub.at (by assumption) ?_); walk_at "fact") | ((with_reducible refine Kp.at (by assumption) ?h ?_); (case h => walk_at "ne"); walk_at "fact"))
local macro_rules | `(tactic| walk_at "sok") => `(tactic| first | assumption | (refine sOk_lit ?_; decide +kernel) | ((with_reducible refine sOk.cut ?_ _ _); walk_at "sok") | ((with_reducible refine sOk.app (n := ?n) (m := ?m) ?h1 ?h2); (case h1 => walk_at "sok"); (case h2 => walk_at "sok")))
local macro_rules | `(tactic| walk_at "fr") => `(tactic| first | assumption | ((refine Sub.nn (S' := ?S') ?h1 ?h2); (case h2 => assumption); (case h1 => walk_at "sub")))
local macro_rules | `(tactic| walk_at "len") => `(tactic| first | (refine sOk.le (n := ?n) ?h1 ?h2; (case h1 => walk_at "sok"); (case h2 => decide)) | omega | decide +kernel)
local macro_rules | `(tactic| walk_at "ints") => `(tactic| first | exact all_nil | (refine all_cons ⟨_, rfl, by omega, by omega⟩ ?_; walk_at "ints") | (refine all_cons ⟨_, rfl⟩ ?_; walk_at "ints"))
local macro_rules | `(tactic| walk_at "d2") => `(tactic| fail "d2")
local macro_rules | `(tactic| walk_at "d1") => `(tactic| first
  | with_reducible refine w_seqE ?_
  | with_reducible refine w_retE ?_
  | with_reducible refine w_nextE ?_
  | with_reducible refine w_rtE ?_
  | with_reducible refine w_nxE ?_
  | with_reducible refine w_asgE ?_
  | with_reducible refine w_dropE ?_
  | with_reducible refine w_retNE ?_
  | with_reducible refine w_seq ?_
  | ((with_reducible refine w_var (d := ?d) ?h ?_); (case h => exact rfl))
  | with_reducible refine w_con ?_
  | with_reducible refine w_cons ?_
  | with_reducible refine w_nil ?_
  | with_reducible refine w_op ?_
  | with_reducible refine w_call ?_
  | with_reducible refine w_asg ?_
  | with_reducible refine w_name ?_
  | with_reducible refine w_ret ?_
  | with_reducible refine w_retE ?_
  | with_reducible refine w_if ?_
  | with_reducible refine w_test ?_
  | with_reducible refine w_tk ?_
  | with_reducible refine w_seqE ?_
  | with_reducible refine w_drop ?_
  | with_reducible refine w_next ?_
  | with_reducible refine w_nextE ?_
  | with_reducible refine w_nx ?_
  | with_reducible refine w_ct ?_
  | with_reducible refine w_rt ?_
  | with_reducible refine w_rtE ?_
  | with_reducible refine w_nxE ?_
  | with_reducible refine w_bk ?_
  | with_reducible refine w_retN ?_
  | with_reducible refine w_retNE ?_
  | with_reducible refine w_asgE ?_
  | with_reducible refine w_dropE ?_
  | with_reducible refine w_cont ?_
  | with_reducible refine w_break ?_
  | with_reducible refine w_for ?_
  | with_reducible refine w_lc ?_
  | with_reducible refine w_iL ?_
  | with_reducible refine w_iT ?_
  | with_reducible refine w_iE ?_
  | with_reducible refine w_iR1 ?_
  | with_reducible refine w_iR2 ?_
  | with_reducible refine w_iR3 ?_
  | with_reducible refine w_tkI ?_
  | with_reducible refine w_and ?_
  | with_reducible refine w_or ?_
  | with_reducible refine w_not ?_
  | with_reducible refine w_yes ?_
  | with_reducible refine w_andV ?_
  | with_reducible refine w_orV ?_
  | with_reducible refine w_notV ?_
  | with_reducible refine w_ifE ?_
  | with_reducible refine w_un ?_
  | with_reducible refine w_neg ?_
  | with_reducible refine w_tup ?_
  | with_reducible refine w_lst ?_
  | ((with_reducible refine w_tupk ?h ?_); (case h => exact rfl))
  | ((with_reducible refine w_lstk ?h ?_); (case h => exact rfl))
  | with_reducible refine w_int0 ?_
  | with_reducible refine w_addI ?_
  | with_reducible refine w_cb ?_
  | with_reducible refine w_sl ?_
  | with_reducible refine w_no ?_
  | with_reducible refine w_part ?_
  | with_reducible refine w_partk ?_
  | with_reducible refine w_bm ?_
  | with_reducible refine w_bmS ?_
  | with_reducible refine w_get2 ?_
  | with_reducible refine w_newK ?_
  | with_reducible refine w_isi ?_
  | with_reducible refine w_nnil ?_
  | with_reducible refine w_ncons ?_
  | with_reducible refine w_nsub ?_
  | with_reducible refine w_brT ?_
  | with_reducible refine w_brF ?_
  | with_reducible refine w_brB ?_
  | with_reducible refine w_ltI ?_
  | with_reducible refine w_ltS ?_
  | with_reducible refine w_eqI ?_
  | with_reducible refine w_neI ?_
  | with_reducible refine w_neB ?_
  | with_reducible refine w_isN ?_
  | with_reducible refine w_isT ?_
  | with_reducible refine w_isI ?_
  | with_reducible refine w_isS ?_
  | with_reducible refine w_isR ?_
  | with_reducible refine w_ntN ?_
  | with_reducible refine w_ntT ?_
  | with_reducible refine w_ntI ?_
  | with_reducible refine w_ntS ?_
  | with_reducible refine w_ntR ?_
  | with_reducible refine w_slT ?_
  | with_reducible refine w_lenT ?_
  | with_reducible refine w_intI ?_
  | with_reducible refine w_intB ?_
  | with_reducible refine w_max ?_
  | with_reducible refine w_min ?_
  | with_reducible refine w_abs ?_
  | with_reducible refine w_pow12 ?_
  | with_reducible refine w_pow18 ?_
  | with_reducible refine w_pow9 ?_
  | with_reducible refine w_pow10 ?_
  | with_reducible refine w_pow11 ?_
  | ((with_reducible refine w_mod ?h ?_); (case h => omega))
  | ((with_reducible refine w_mulL ?h1 ?h2 ?_); (case h1 => omega); (case h2 => omega))
  | ((with_reducible refine w_mulR ?h1 ?h2 ?_); (case h1 => omega); (case h2 => omega))
  | ((with_reducible refine w_fdiv ?h1 ?h2 ?_); (case h1 => omega); (case h2 => omega))
  | ((with_reducible refine w_ixT (z := ?z) ?h ?_); (case h => exact rfl))
  | ((with_reducible refine w_ixL (xs := ?xs) (z := ?z) ?h ?e ?_); (case h => walk_at "fact"); (case e => exact rfl))
  | ((with_reducible refine w_draw ?h ?h0 ?h1 ?_); (case h => walk_at "fact"); (case h0 => omega); (case h1 => omega))
  | ((with_reducible refine w_lenLS (ws := ?xs) ?h ?_); (case h => walk_at "fact"))
  | ((with_reducible refine w_lenL (xs := ?xs) ?h ?_); (case h => walk_at "fact"))
  | ((with_reducible refine w_bmL (ds := ?xs) ?h ?_); (case h => walk_at "fact"))
  | ((with_reducible refine w_app (ds := ?xs) ?h ?hl ?_); (case h => walk_at "fact"); (case hl => simp only [List.length_append, List.length_cons, List.length_nil, List.length_map]; omega))
  | ((with_reducible refine w_addT ?h ?_); (case h => exact rfl))
  | ((with_reducible refine w_addS2 (n := ?n) (m := ?m) ?h1 ?h2 ?h ?_); (case h1 => walk_at "sok"); (case h2 => walk_at "sok"); (case h => exact rfl))
  | ((with_reducible refine w_slS ?h ?_); (case h => walk_at "len"))
  | ((with_reducible refine w_lenS ?h ?_); (case h => walk_at "len"))
  | ((with_reducible refine w_slL (xs := ?xs) ?h ?_); (case h => walk_at "fact"))
  | ((with_reducible refine w_listR (xs := ?xs) ?h ?_); (case h => walk_at "fact"))
  | ((with_reducible refine w_gk (kvs := ?xs) ?h ?_); (case h => walk_at "fact"))
  | ((with_reducible refine w_getS (kvs := ?xs) ?h ?_); (case h => walk_at "fact"))
  | ((with_reducible refine w_eqSt ?h ?_); (case h => decide +kernel))
  | ((with_reducible refine w_eqSf ?h ?_); (case h => decide +kernel))
  | ((with_reducible refine w_neSt ?h ?_); (case h => decide +kernel))
  | ((with_reducible refine w_neSf ?h ?_); (case h => decide +kernel))
  | ((with_reducible refine w_inT (k := true) ?h1 ?h2 ?h3 ?_); (case h1 => exact rfl); (case h2 => exact rfl); (case h3 => decide +kernel))
  | ((with_reducible refine w_inT (k := false) ?h1 ?h2 ?h3 ?_); (case h1 => exact rfl); (case h2 => exact rfl); (case h3 => decide +kernel))
  | ((with_reducible refine w_r1 ?h1 ?h2 ?_); (case h1 => omega); (case h2 => omega))
  | ((with_reducible refine w_r2 ?h1 ?h2 ?h3 ?h4 ?_); (case h1 => omega); (case h2 => omega); (case h3 => omega); (case h4 => omega))
  | ((with_reducible refine w_r3 ?h1 ?h2 ?h3 ?h4 ?_); (case h1 => omega); (case h2 => omega); (case h3 => omega); (case h4 => omega))
  | ((with_reducible refine w_brD ?h ?_); (case h => first | assumption | omega))
  | ((with_reducible refine w_brN ?h ?_); (case h => first | assumption | omega))
  | ((with_reducible refine w_putL (xs := ?xs) (j := ?j) ?h ?e ?_); (case h => walk_at "fact"); (case e => exact rfl))
  | ((with_reducible refine w_pop0 (ds := ?xs) (d := ?d) ?h ?_); (case h => walk_at "fact"))
  | ((with_reducible refine w_ins0 (ds := ?xs) ?h ?hl ?_); (case h => walk_at "fact"); (case hl => simp only [List.length_append, List.length_cons, List.length_nil, List.length_map]; omega))
  | with_reducible refine w_disp ?_
  | with_reducible refine w_dpcons ?_
  | with_reducible refine w_dpnil ?_
  | ((with_reducible refine w_dispk (kvs := ?kvs) ?h ?e ?l ?_); (case h => walk_at "fact"); (case e => exact rfl); (case l => exact rfl))
  | walk_at "d2"
  | with_reducible intro _)
local macro_rules | `(tactic| walk_at "d") => `(tactic| repeat' (walk_at "d1"))
local macro_rules | `(tactic| walk_at "two") => `(tactic| first | with_reducible refine br_dec (fun _ => ?_) (fun _ => ?_) | with_reducible refine br_b (fun _ => ?_) (fun _ => ?_))
abbrev sp_l_draw := spDraw
abbrev sp_l_deck := spDeck
def t_l_draw (K : PySem.W.Frag) : DS := (sSeq (sAsg (dOp rAdd (dOp rIx2 (dVar 0) (dCon (.int 2))) (dCon (.int 1))) (nSub (dVar 0) (dCon (.int 2))))
    (sSeq (sAsg (dOp rIx2 (dVar 0) (dCon (.int 1))) (nName 2))
    (sSeq (sIf (dTest (dOp rNeD (dOp rIx2 (dVar 0) (dCon (.int 0))) (dLst dNil))) (sSeq (sAsg (dBM "list" rPopA (dOp rIx2 (dVar 0) (dCon (.int 0))) (dCons (dCon (.int 0)) dNil)) (nName 2))
    (sIf (dTest (dOp (rInt0 fun i j => .bl (decide (j ≤ i))) (dVar 2) (dOp (rInt CPow fun i j => .int (i ^ j.toNat)) (dCon (.int 10)) (dCon (.int 18))))) (sSeq (sDrop (dBM "list" rIns (dOp rIx2 (dVar 0) (dCon (.int 0))) (dCons (dCon (.int 0)) (dCons (dOp (rInt CDivW fun i j => .int (i / j)) (dVar 2) (dVar 1)) dNil))))
    (sRet (dOp (rInt (fun _ j => 0 < j) fun i j => .int (i % j)) (dVar 2) (dVar 1)))) sNext)) sNext)
    (sSeq (sAsg (dOp (rInt (fun _ j => 0 < j) fun i j => .int (i % j)) (dOp rAdd (dOp rAdd (dOp (rInt CMul fun i j => .int (i * j)) (dOp (rInt (fun _ j => 0 < j) fun i j => .int (i % j)) (dVar 2) (dCon (.int 2147483629))) (dCon (.int 16807))) (dOp (rInt CMul fun i j => .int (i * j)) (dCon (.int 69621)) (dOp rIx2 (dVar 0) (dCon (.int 2))))) (dCon (.int 7919))) (dCon (.int 2147483629))) (nName 3))
    (sSeq (sAsg (dOp (rInt (fun _ j => 0 < j) fun i j => .int (i % j)) (dOp (rInt CMul fun i j => .int (i * j)) (dVar 3) (dVar 3)) (dCon (.int 2147483587))) (nName 3))
    (sRet (dOp (rInt (fun _ j => 0 < j) fun i j => .int (i % j)) (dOp (rInt CDivW fun i j => .int (i / j)) (dOp (rInt (fun _ j => 0 < j) fun i j => .int (i % j)) (dOp (rInt CMul fun i j => .int (i * j)) (dVar 3) (dOp rAdd (dVar 3) (dCon (.int 48271)))) (dCon (.int 2147483563))) (dCon (.int 64))) (dVar 1))))))))
def t_l_deck (K : PySem.W.Frag) : DS := (sRet (dLst (dCons (dCb rList2 (dCons (dSl (dVar 0) dNo (dPart (dCon (.int 63)))) dNil)) (dCons (dOp rAdd (dCon (.int 48271)) (dOp (rInt (fun _ j => 0 < j) fun i j => .int (i % j)) (dCb rSum2 (dCons (dSl (dVar 0) dNo (dPart (dCon (.int 63)))) dNil)) (dCon (.int 2147483629)))) (dCons (dCon (.int 0)) dNil)))))
def sp_l_end (K : PySem.W.Frag) : SpD := fun ds S Q _ => ∃ (a : Addr) (m : Int), ds = [.ref a, .int m] ∧ S a = some (deckB K) ∧ 0 < m ∧ m ≤ 1152921504606846976 ∧ ∀ n S', 0 ≤ n → n < m → Dv.Sub S S' → Q (.int n) S'
def t_l_end (K : PySem.W.Frag) : DS := (sRet (dOp rIx2 (dLst (dCons (dCon (.int 0)) (dCons (dOp (rInt0 fun i j => .int (i - j)) (dVar 1) (dCon (.int 1))) (dCons (dCall (sp_l_draw K) Ed0 (dCons (dVar 0) (dCons (dVar 1) dNil))) (dCons (dCall (sp_l_draw K) Ed0 (dCons (dVar 0) (dCons (dVar 1) dNil))) dNil))))) (dCall (sp_l_draw K) Ed0 (dCons (dVar 0) (dCons (dCon (.int 4)) dNil)))))
def sp_l_unlike (K : PySem.W.Frag) : SpD := fun ds S Q _ => ∃ (a : Addr) (z : Str) (l m : Int), ds = [.ref a, .str z, .int l, .int m] ∧ S a = some (deckB K) ∧ sOk 40 z ∧ 0 < z.length ∧ 0 < l ∧ l ≤ 12 ∧ 0 ≤ m ∧ m ≤ 20 ∧
  ∀ p (ws : List Str) S', Dv.Sub S S' → Fr S p → S' p = some (.lst (ws.map DV.str)) → txs 40 ws → (ws.length : Int) = m → Q (.ref p) S'
def t_l_unlike (K : PySem.W.Frag) : DS := (sSeq (sAsg (dBM "str" rJoin (dCon (.str "")) (dCons (dLc (iR1 (dCons (dVar 2) dNil)) (nName 9) dYes (dOp rIx2 (dVar 1) (dCall (sp_l_draw K) Ed0 (dCons (dVar 0) (dCons (dCb rLen2 (dCons (dVar 1) dNil)) dNil)))) [9]) dNil)) (nName 4))
    (sSeq (sIf (dTest (dOp rEqD (dCall (sp_l_draw K) Ed0 (dCons (dVar 0) (dCons (dCon (.int 3)) dNil))) (dCon (.int 0)))) (sRet (dLc (iR1 (dCons (dVar 3) dNil)) (nName 9) dYes (dSl (dVar 4) dNo (dPart (dOp rAdd (dVar 9) (dCon (.int 1))))) [9])) sNext)
    (sSeq (sAsg (dOp rAdd (dCon (.int 1)) (dCall (sp_l_draw K) Ed0 (dCons (dVar 0) (dCons (dVar 2) dNil)))) (nName 5))
    (sSeq (sAsg (dCall (sp_l_draw K) Ed0 (dCons (dVar 0) (dCons (dVar 5) dNil))) (nName 6))
    (sSeq (sAsg (dCall (sp_l_draw K) Ed0 (dCons (dVar 0) (dCons (dCb rLen2 (dCons (dVar 1) dNil)) dNil))) (nName 7))
    (sSeq (sAsg (dTup (dCons (dSl (dVar 4) dNo (dPart (dVar 6))) (dCons (dSl (dVar 4) (dPart (dOp rAdd (dVar 6) (dCon (.int 1)))) (dPart (dVar 5))) dNil))) (nName 8))
    (sRet (dLc (iR1 (dCons (dVar 3) dNil)) (nName 9) dYes (dOp rAdd (dOp rAdd (dOp rIx2 (dVar 8) (dCon (.int 0))) (dOp rIx2 (dVar 1) (dOp (rInt (fun _ j => 0 < j) fun i j => .int (i % j)) (dOp rAdd (dVar 7) (dVar 9)) (dCb rLen2 (dCons (dVar 1) dNil))))) (dOp rIx2 (dVar 8) (dCon (.int 1)))) [9]))))))))
def sp_l_menus (K : PySem.W.Frag) : SpD := fun ds S Q _ => ∃ (a : Addr), ds = [.ref a] ∧ S a = some (deckB K) ∧ ∀ m a1 a2 a3 a4 w1 w2 w3 w4 S', Dv.Sub S S' → Menus S' m a1 a2 a3 a4 w1 w2 w3 w4 → Q (.ref m) S'
def t_l_menus (K : PySem.W.Frag) : DS := (sSeq (sAsg (dCon (.str "abcdefghijklmnopqrstuvwxyz")) (nName 1))
    (sSeq (sAsg (dLst (dCons (dCall (sp_l_unlike K) Ed0 (dCons (dVar 0) (dCons (dVar 1) (dCons (dCon (.int 8)) (dCons (dOp rAdd (dCon (.int 2)) (dCall (sp_l_draw K) Ed0 (dCons (dVar 0) (dCons (dCon (.int 5)) dNil)))) dNil))))) dNil)) (nName 2))
    (sSeq (sDrop (dBM "list" rApp (dVar 2) (dCons (dCall (sp_l_unlike K) Ed0 (dCons (dVar 0) (dCons (dVar 1) (dCons (dCon (.int 8)) (dCons (dOp rAdd (dCon (.int 2)) (dCall (sp_l_draw K) Ed0 (dCons (dVar 0) (dCons (dCon (.int 5)) dNil)))) dNil))))) dNil)))
    (sSeq (sDrop (dBM "list" rApp (dVar 2) (dCons (dCall (sp_l_unlike K) Ed0 (dCons (dVar 0) (dCons (dVar 1) (dCons (dCon (.int 8)) (dCons (dOp rAdd (dCon (.int 1)) (dCall (sp_l_draw K) Ed0 (dCons (dVar 0) (dCons (dCon (.int 6)) dNil)))) dNil))))) dNil)))
    (sSeq (sDrop (dBM "list" rApp (dVar 2) (dCons (dCall (sp_l_unlike K) Ed0 (dCons (dVar 0) (dCons (dOp rAdd (dVar 1) (dCon (.str "0123456789"))) (dCons (dCon (.int 12)) (dCons (dOp rAdd (dCon (.int 1)) (dCall (sp_l_draw K) Ed0 (dCons (dVar 0) (dCons (dCon (.int 6)) dNil)))) dNil))))) dNil)))
    (sSeq (sIf (dTest (dOp rEqD (dCall (sp_l_draw K) Ed0 (dCons (dVar 0) (dCons (dCon (.int 4)) dNil))) (dCon (.int 2)))) (sSeq (sAsg (dBM "str" rJoin (dCon (.str "")) (dCons (dLc (iR1 (dCons (dCon (.int 8)) dNil)) (nName 6) dYes (dOp rIx2 (dVar 1) (dCall (sp_l_draw K) Ed0 (dCons (dVar 0) (dCons (dCon (.int 26)) dNil)))) [6]) dNil)) (nName 3))
    (sSeq (sAsg (dOp rAdd (dCon (.int 2)) (dCall (sp_l_draw K) Ed0 (dCons (dVar 0) (dCons (dCon (.int 5)) dNil)))) (nName 4))
    (sSeq (sAsg (dLc (iR1 (dCons (dVar 4) dNil)) (nName 6) dYes (dSl (dVar 3) dNo (dPart (dOp rAdd (dVar 6) (dCon (.int 1))))) [6]) (nName 5))
    (sAsg (dOp rAdd (dSl (dVar 2) dNo (dPart (dCon (.int 2)))) (dLst (dCons (dVar 5) (dCons (dLc (iR1 (dCons (dVar 4) dNil)) (nName 6) dYes (dSl (dVar 3) (dPart (dOp rAdd (dVar 6) (dCon (.int 1)))) dNo) [6]) dNil)))) (nName 2))))) sNext)
    (sRet (dVar 2))))))))
theorem lettersOk : sOk 40 "abcdefghijklmnopqrstuvwxyz" := ⟨by decide +kernel, by decide +kernel⟩
theorem letters0 : 0 < ("abcdefghijklmnopqrstuvwxyz" : Str).length := by decide +kernel
theorem letters2Ok : sOk 40 (("abcdefghijklmnopqrstuvwxyz" : Str) ++ "0123456789") := ⟨by decide +kernel, by decide +kernel⟩
theorem letters20 : 0 < (("abcdefghijklmnopqrstuvwxyz" : Str) ++ "0123456789").length := by decide +kernel
theorem letters26 : (26 : Int) ≤ (("abcdefghijklmnopqrstuvwxyz" : Str).length : Int) := by decide +kernel
theorem rd_l_draw (K : PySem.W.Frag) : ∀ ds S Q (Ed : DXK), sp_l_draw K ds S Q Ed → Opens K S (t_l_draw K (dEnd K Q) (startS N_l_draw ds)) := by
  rintro _ S Q _ ⟨a, m, rfl, ha, m0, m1, q⟩
  refine deck_open ha fun b cells seed cnt S1 d k => ?_
  have la := d.la
  have lb := d.lb
  have nab := d.ne
  have len := d.len
  have mm : ∀ x : Int, 0 ≤ x % m ∧ x % m < m := fun x => ⟨Int.emod_nonneg _ (by omega), Int.emod_lt_of_pos _ m0⟩
  unfold t_l_draw
  walk_at "d"
  rename_i p hp
  have npa : p ≠ a := fun z => by subst z; have hp : up _ _ _ _ = none := hp; rw [up_same] at hp; cases hp
  have npb : p ≠ b := fun z => by subst z; have hp : up _ _ _ _ = none := hp; rw [up_ne (Ne.symm nab), lb] at hp; cases hp
  cases cells with
  | nil =>
    refine w_neD (k := true) (EqD.refL (n := 0) (xs := []) (by walk_at "fact") up_same all_nil (by decide)) ?_
    walk_at "d"
    refine k _ [] seed _ ⟨by walk_at "fact", by walk_at "fact", nab, by simp⟩ (fun c o h1 h2 e => by walk_at "fact") _ (q _ (mm _).1 (mm _).2)
  | cons c cs =>
    have len2 : cs.length ≤ 62 := by simp at len; omega
    rw [List.map_cons] at lb
    refine w_neD (k := false) (EqD.consNil (n := 0) (by walk_at "fact") up_same (all_cons good_int good_ints) (by decide)) ?_
    walk_at "d"
    refine br_dec (fun _ => ?_) (fun _ => ?_)
    · walk_at "d"
      refine k _ (c / m :: cs) seed _ ⟨by walk_at "fact", by walk_at "fact", nab, len⟩ (fun c o h1 h2 e => by walk_at "fact") _ (q _ (mm _).1 (mm _).2)
    · walk_at "d"
      refine k _ cs seed _ ⟨by walk_at "fact", by walk_at "fact", nab, by omega⟩ (fun c o h1 h2 e => by walk_at "fact") _ (q _ (mm _).1 (mm _).2)
theorem rd_l_end (K : PySem.W.Frag) : ∀ ds S Q (Ed : DXK), sp_l_end K ds S Q Ed → Opens K S (t_l_end K (dEnd K Q) (startS N_l_end ds)) := by
  rintro _ S Q _ ⟨a, m, rfl, ha, m0, m1, q⟩
  refine Opens.here ?_
  unfold t_l_end
  walk_at "d"
  refine pickI 0 (m - 1) (by walk_at "fact") (by assumption) (by simp only [List.length_cons, List.length_nil]; omega) (by walk_at "ints") fun i _ _ => ?_
  exact Opens.here (q _ _ (by omega) (by omega) (by walk_at "sub"))
theorem rd_l_unlike (K : PySem.W.Frag) : ∀ ds S Q (Ed : DXK), sp_l_unlike K ds S Q Ed → Opens K S (t_l_unlike K (dEnd K Q) (startS N_l_unlike ds)) := by
  rintro _ S Q _ ⟨a, z, l, m, rfl, ha, hz, hz0, l0, l1, m0, m1, q⟩
  have hzl := hz.1
  refine Opens.here ?_
  unfold t_l_unlike
  walk_at "d"
  refine lc_rngT (fun _ y => ∃ w, y = .str w ∧ sOk 1 w) (by omega) (fun i S0 R hi s0 r => ?_) (fun D ys S' s1 hn hD hl ht => ?_)
  · walk_at "d"
    exact ixS hz (by decide) (by assumption) (by assumption) fun w hw => r _ _ (by walk_at "sub") ⟨w, rfl, hw⟩
  obtain ⟨ws, rfl, hw⟩ := strs_of ht
  walk_at "d"
  refine w_join0 (n := 12) (m := 1) hD hw (by simp at hl; omega) (by decide) fun w hw => ?_
  walk_at "d"
  walk_at "two"
  · walk_at "d"
    refine lc_rngT (fun _ y => ∃ w, y = .str w ∧ sOk 40 w) (by omega) (fun i S0 R hi s0 r => ?_) (fun D ys S' s1 hn hD hl ht => ?_)
    · walk_at "d"
      exact r _ _ (by walk_at "sub") ⟨_, rfl, (hw.cut _ _).mono (by decide)⟩
    · obtain ⟨ws, rfl, hw⟩ := strs_of ht
      exact Opens.here (q _ ws _ (by walk_at "sub") (Sub.nn (by assumption) hn) hD hw (by simp at hl; omega))
  · walk_at "d"
    refine lc_rngT (fun _ y => ∃ w, y = .str w ∧ sOk 40 w) (by omega) (fun i S0 R hi s0 r => ?_) (fun D ys S' s1 hn hD hl ht => ?_)
    · walk_at "d"
      refine ixS hz (by decide) (Int.emod_nonneg _ (by omega)) (Int.emod_lt_of_pos _ (by omega)) fun w1 hw1 => ?_
      walk_at "d"
      exact r _ _ (by walk_at "sub") ⟨_, rfl, sOk.mono (by walk_at "sok") (by decide)⟩
    · obtain ⟨ws, rfl, hw⟩ := strs_of ht
      exact Opens.here (q _ ws _ (by walk_at "sub") (Sub.nn (by assumption) hn) hD hw (by simp at hl; omega))
theorem rd_l_menus (K : PySem.W.Frag) : ∀ ds S Q (Ed : DXK), sp_l_menus K ds S Q Ed → Opens K S (t_l_menus K (dEnd K Q) (startS N_l_menus ds)) := by
  rintro _ S Q _ ⟨a, rfl, ha, q⟩
  refine Opens.here ?_
  unfold t_l_menus
  walk_at "d"
  refine ⟨_, _, _, _, rfl, by walk_at "fact", lettersOk, letters0, by decide, by decide, by omega, by omega, fun p1 w1 S1 s1 n1 h1 t1 l1 => ?_⟩
  walk_at "d"
  refine ⟨_, _, _, _, rfl, by walk_at "fact", lettersOk, letters0, by decide, by decide, by omega, by omega, fun p2 w2 S2 s2 n2 h2 t2 l2 => ?_⟩
  walk_at "d"
  refine ⟨_, _, _, _, rfl, by walk_at "fact", lettersOk, letters0, by decide, by decide, by omega, by omega, fun p3 w3 S3 s3 n3 h3 t3 l3 => ?_⟩
  walk_at "d"
  refine ⟨_, _, _, _, rfl, by walk_at "fact", letters2Ok, letters20, by decide, by decide, by omega, by omega, fun p4 w4 S4 s4 n4 h4 t4 l4 => ?_⟩
  walk_at "d"
  walk_at "two"
  · walk_at "d"
    refine lc_rngT (fun _ y => ∃ w, y = .str w ∧ sOk 1 w) (by omega) (fun i S0 R hi s0 r => ?_) (fun D ys S' s5 hn hD hl ht => ?_)
    · walk_at "d"
      exact ixS lettersOk (by decide) (by assumption) (Int.lt_of_lt_of_le (by assumption) letters26) fun w hw => r _ _ (by walk_at "sub") ⟨w, rfl, hw⟩
    obtain ⟨ws, rfl, hw⟩ := strs_of ht
    walk_at "d"
    refine w_join0 (n := 8) (m := 1) hD hw (by simp at hl; omega) (by decide) fun w hw => ?_
    walk_at "d"
    refine lc_rngT (fun _ y => ∃ w, y = .str w ∧ sOk 40 w) (by omega) (fun i S0 R hi s0 r => ?_) (fun D3 ys S6 s6 hn3 hD3 hl3 ht3 => ?_)
    · walk_at "d"
      exact r _ _ (by walk_at "sub") ⟨_, rfl, (hw.cut _ _).mono (by decide)⟩
    obtain ⟨w3', rfl, hw3⟩ := strs_of ht3
    walk_at "d"
    refine lc_rngT (fun _ y => ∃ w, y = .str w ∧ sOk 40 w) (by omega) (fun i S0 R hi s0 r => ?_) (fun D4 ys S7 s7 hn4 hD4 hl4 ht4 => ?_)
    · walk_at "d"
      exact r _ _ (by walk_at "sub") ⟨_, rfl, (hw.cut _ _).mono (by decide)⟩
    obtain ⟨w4', rfl, hw4⟩ := strs_of ht4
    walk_at "d"
    refine w_addL (xs := [.ref p1, .ref p2]) (ys := [.ref D3, .ref D4]) (by walk_at "fact") (by walk_at "fact") (by simp) ?_
    walk_at "d"
    refine Opens.here (q _ p1 p2 D3 D4 w1 w2 w3' w4' _ (by walk_at "sub") ⟨?_, ⟨?_, t1, by omega, by omega⟩, ⟨?_, t2, by omega, by omega⟩, ⟨?_, hw3, by simp at hl3; omega, by simp at hl3; omega⟩, ⟨?_, hw4, by simp at hl4; omega, by simp at hl4; omega⟩⟩) <;> walk_at "fact"
  · walk_at "d"
    refine Opens.here (q _ p1 p2 p3 p4 w1 w2 w3 w4 _ (by walk_at "sub") ⟨?_, ⟨?_, t1, by omega, by omega⟩, ⟨?_, t2, by omega, by omega⟩, ⟨?_, t3, by omega, by omega⟩, ⟨?_, t4, by omega, by omega⟩⟩) <;> walk_at "fact"
end K72
set_option Elab.async false
set_option linter.all false
set_option maxRecDepth 100000
set_option maxHeartbeats 1000000
namespace K72
open PySem PySem.Spec PyProof.Rows L2 Dv Ty
local macro_rules | `(tactic| walk_at "sub") => `(tactic| first | with_reducible exact Sub.refl | assumption | ((with_reducible refine Sub.up2 ?_ (by assumption)); walk_at "sub") | ((with_reducible refine Sub.upF ?_ (by first | assumption | exact Sub.nn (by assumption) (by assumption))); walk_at "sub") | ((with_reducible refine Sub.trans ?_ (by assumption)); walk_at "sub") | ((with_reducible refine Kp.sub2 ?h1 (by assumption) ?h2); (case h2 => walk_at "fr"); (case h1 => walk_at "sub")))
local macro_rules | `(tactic| walk_at "kp") => `(tactic| first | exact Kp.refl | assumption | ((with_reducible refine Kp.set ?_); walk_at "kp") | ((with_reducible refine Kp.up2 ?_ (by assumption)); walk_at "kp") | ((with_reducible refine Kp.upF ?_ ?h); (case h => walk_at "fr"); walk_at "kp") | ((with_reducible refine Kp.sub ?_ (by assumption)); walk_at "kp") | ((with_reducible refine Kp.trans ?_ (by assumption)); walk_at "kp") | ((with_reducible refine Kp.tr2 ?h1 (by assumption) ?h2); (case h2 => walk_at "fr"); (case h1 => walk_at "kp")) | (refine Kp.of ?_; walk_at "sub"))
local macro_rules | `(tactic| walk_at "keep") => `(tactic| first | with_reducible exact Keep.refl | assumption | ((with_reducible refine Keep.up2 ?_ (by assumption)); walk_at "keep") | ((with_reducible refine Keep.sub ?_ (by assumption)); walk_at "keep") | ((with_reducible refine Keep.trans ?_ (by assumption)); walk_at "keep"))
local macro_rules | `(tactic| walk_at "ne") => `(tactic| first | assumption | (apply Ne.symm; assumption) | ((with_reducible refine sneF (S := ?S) (o := ?o) ?h1 ?h2); (case h2 => assumption); (case h1 => walk_at "fact")) | ((with_reducible refine Ne.symm (sneF (S := ?S) (o := ?o) ?h1 ?h2)); (case h2 => assumption); (case h1 => walk_at "fact")))
local macro_rules | `(tactic| walk_at "fact") => `(tactic| first | assumption | exact up_same | ((with_reducible refine up_at (by assumption) ?_); walk_at "fact") | ((with_reducible refine up_at2 ?h ?_); (case h => walk_at "ne"); walk_at "fact") | ((with_reducible refine Sub.at (by assumption) ?_); walk_at "fact") | ((with_reducible refine Kp.at (by assumption) ?h ?_); (case h => walk_at "ne"); walk_at "fact"))
local macro_rules | `(tactic| walk_at "sok") => `(tactic| first | assumption | (refine sOk_lit ?_; decide +kernel) | ((with_reducible refine sOk.cut ?_ _ _); walk_at "sok") | ((with_reducible refine sOk.app (n := ?n) (m := ?m) ?h1 ?h2); (case h1 => walk_at "sok"); (case h2 => walk_at "sok")))
local macro_rules | `(tactic| walk_at "fr") => `(tactic| first | assumption | ((refine Sub.nn (S' := ?S') ?h1 ?h2); (case h2 => assumption); (case h1 => walk_at "sub")))
local macro_rules | `(tactic| walk_at "len") => `(tactic| first | (refine sOk.le (n := ?n) ?h1 ?h2; (case h1 => walk_at "sok"); (case h2 => decide)) | omega | decide +kernel)
local macro_rules | `(tactic| walk_at "ints") => `(tactic| first | exact all_nil | (refine all_cons ⟨_, rfl, by omega, by omega⟩ ?_; walk_at "ints") | (refine all_cons ⟨_, rfl⟩ ?_; walk_at "ints"))
local macro_rules | `(tactic| walk_at "d2") => `(tactic| fail "d2")
local macro_rules | `(tactic| walk_at "d1") => `(tactic| first
  | with_reducible refine w_seqE ?_
  | with_reducible refine w_retE ?_
  | with_reducible refine w_nextE ?_
  | with_reducible refine w_rtE ?_
  | with_reducible refine w_nxE ?_
  | with_reducible refine w_asgE ?_
  | with_reducible refine w_dropE ?_
  | with_reducible refine w_retNE ?_
  | with_reducible refine w_seq ?_
  | ((with_reducible refine w_var (d := ?d) ?h ?_); (case h => exact rfl))
  | with_reducible refine w_con ?_
  | with_reducible refine w_cons ?_
  | with_reducible refine w_nil ?_
  | with_reducible refine w_op ?_
  | with_reducible refine w_call ?_
  | with_reducible refine w_asg ?_
  | with_reducible refine w_name ?_
  | with_reducible refine w_ret ?_
  | with_reducible refine w_retE ?_
  | with_reducible refine w_if ?_
  | with_reducible refine w_test ?_
  | with_reducible refine w_tk ?_
  | with_reducible refine w_seqE ?_
  | with_reducible refine w_drop ?_
  | with_reducible refine w_next ?_
  | with_reducible refine w_nextE ?_
  | with_reducible refine w_nx ?_
  | with_reducible refine w_ct ?_
  | with_reducible refine w_rt ?_
  | with_reducible refine w_rtE ?_
  | with_reducible refine w_nxE ?_
  | with_reducible refine w_bk ?_
  | with_reducible refine w_retN ?_
  | with_reducible refine w_retNE ?_
  | with_reducible refine w_asgE ?_
  | with_reducible refine w_dropE ?_
  | with_reducible refine w_cont ?_
  | with_reducible refine w_break ?_
  | with_reducible refine w_for ?_
  | with_reducible refine w_lc ?_
  | with_reducible refine w_iL ?_
  | with_reducible refine w_iT ?_
  | with_reducible refine w_iE ?_
  | with_reducible refine w_iR1 ?_
  | with_reducible refine w_iR2 ?_
  | with_reducible refine w_iR3 ?_
  | with_reducible refine w_tkI ?_
  | with_reducible refine w_and ?_
  | with_reducible refine w_or ?_
  | with_reducible refine w_not ?_
  | with_reducible refine w_yes ?_
  | with_reducible refine w_andV ?_
  | with_reducible refine w_orV ?_
  | with_reducible refine w_notV ?_
  | with_reducible refine w_ifE ?_
  | with_reducible refine w_un ?_
  | with_reducible refine w_neg ?_
  | with_reducible refine w_tup ?_
  | with_reducible refine w_lst ?_
  | ((with_reducible refine w_tupk ?h ?_); (case h => exact rfl))
  | ((with_reducible refine w_lstk ?h ?_); (case h => exact rfl))
  | with_reducible refine w_int0 ?_
  | with_reducible refine w_addI ?_
  | with_reducible refine w_cb ?_
  | with_reducible refine w_sl ?_
  | with_reducible refine w_no ?_
  | with_reducible refine w_part ?_
  | with_reducible refine w_partk ?_
  | with_reducible refine w_bm ?_
  | with_reducible refine w_bmS ?_
  | with_reducible refine w_get2 ?_
  | with_reducible refine w_newK ?_
  | with_reducible refine w_isi ?_
  | with_reducible refine w_nnil ?_
  | with_reducible refine w_ncons ?_
  | with_reducible refine w_nsub ?_
  | with_reducible refine w_brT ?_
  | with_reducible refine w_brF ?_
  | with_reducible refine w_brB ?_
  | with_reducible refine w_ltI ?_
  | with_reducible refine w_ltS ?_
  | with_reducible refine w_eqI ?_
  | with_reducible refine w_neI ?_
  | with_reducible refine w_neB ?_
  | with_reducible refine w_isN ?_
  | with_reducible refine w_isT ?_
  | with_reducible refine w_isI ?_
  | with_reducible refine w_isS ?_
  | with_reducible refine w_isR ?_
  | with_reducible refine w_ntN ?_
  | with_reducible refine w_ntT ?_
  | with_reducible refine w_ntI ?_
  | with_reducible refine w_ntS ?_
  | with_reducible refine w_ntR ?_
  | with_reducible refine w_slT ?_
  | with_reducible refine w_lenT ?_
  | with_reducible refine w_intI ?_
  | with_reducible refine w_intB ?_
  | with_reducible refine w_max ?_
  | with_reducible refine w_min ?_
  | with_reducible refine w_abs ?_
  | with_reducible refine w_pow12 ?_
  | with_reducible refine w_pow18 ?_
  | with_reducible refine w_pow9 ?_
  | with_reducible refine w_pow10 ?_
  | with_reducible refine w_pow11 ?_
  | ((with_reducible refine w_mod ?h ?_); (case h => omega))
  | ((with_reducible refine w_mulL ?h1 ?h2 ?_); (case h1 => omega); (case h2 => omega))
  | ((with_reducible refine w_mulR ?h1 ?h2 ?_); (case h1 => omega); (case h2 => omega))
  | ((with_reducible refine w_fdiv ?h1 ?h2 ?_); (case h1 => omega); (case h2 => omega))
  | ((with_reducible refine w_ixT (z := ?z) ?h ?_); (case h => exact rfl))
  | ((with_reducible refine w_ixL (xs := ?xs) (z := ?z) ?h ?e ?_); (case h => walk_at "fact"); (case e => exact rfl))
  | ((with_reducible refine w_draw ?h ?h0 ?h1 ?_); (case h => walk_at "fact"); (case h0 => omega); (case h1 => omega))
  | ((with_reducible refine w_lenLS (ws := ?xs) ?h ?_); (case h => walk_at "fact"))
  | ((with_reducible refine w_lenL (xs := ?xs) ?h ?_); (case h => walk_at "fact"))
  | ((with_reducible refine w_bmL (ds := ?xs) ?h ?_); (case h => walk_at "fact"))
  | ((with_reducible refine w_app (ds := ?xs) ?h ?hl ?_); (case h => walk_at "fact"); (case hl => simp only [List.length_append, List.length_cons, List.length_nil, List.length_map]; omega))
  | ((with_reducible refine w_addT ?h ?_); (case h => exact rfl))
  | ((with_reducible refine w_addS2 (n := ?n) (m := ?m) ?h1 ?h2 ?h ?_); (case h1 => walk_at "sok"); (case h2 => walk_at "sok"); (case h => exact rfl))
  | ((with_reducible refine w_slS ?h ?_); (case h => walk_at "len"))
  | ((with_reducible refine w_lenS ?h ?_); (case h => walk_at "len"))
  | ((with_reducible refine w_slL (xs := ?xs) ?h ?_); (case h => walk_at "fact"))
  | ((with_reducible refine w_listR (xs := ?xs) ?h ?_); (case h => walk_at "fact"))
  | ((with_reducible refine w_gk (kvs := ?xs) ?h ?_); (case h => walk_at "fact"))
  | ((with_reducible refine w_getS (kvs := ?xs) ?h ?_); (case h => walk_at "fact"))
  | ((with_reducible refine w_eqSt ?h ?_); (case h => decide +kernel))
  | ((with_reducible refine w_eqSf ?h ?_); (case h => decide +kernel))
  | ((with_reducible refine w_neSt ?h ?_); (case h => decide +kernel))
  | ((with_reducible refine w_neSf ?h ?_); (case h => decide +kernel))
  | ((with_reducible refine w_inT (k := true) ?h1 ?h2 ?h3 ?_); (case h1 => exact rfl); (case h2 => exact rfl); (case h3 => decide +kernel))
  | ((with_reducible refine w_inT (k := false) ?h1 ?h2 ?h3 ?_); (case h1 => exact rfl); (case h2 => exact rfl); (case h3 => decide +kernel))
  | ((with_reducible refine w_r1 ?h1 ?h2 ?_); (case h1 => omega); (case h2 => omega))
  | ((with_reducible refine w_r2 ?h1 ?h2 ?h3 ?h4 ?_); (case h1 => omega); (case h2 => omega); (case h3 => omega); (case h4 => omega))
  | ((with_reducible refine w_r3 ?h1 ?h2 ?h3 ?h4 ?_); (case h1 => omega); (case h2 => omega); (case h3 => omega); (case h4 => omega))
  | ((with_reducible refine w_brD ?h ?_); (case h => first | assumption | omega))
  | ((with_reducible refine w_brN ?h ?_); (case h => first | assumption | omega))
  | ((with_reducible refine w_putL (xs := ?xs) (j := ?j) ?h ?e ?_); (case h => walk_at "fact"); (case e => exact rfl))
  | ((with_reducible refine w_pop0 (ds := ?xs) (d := ?d) ?h ?_); (case h => walk_at "fact"))
  | ((with_reducible refine w_ins0 (ds := ?xs) ?h ?hl ?_); (case h => walk_at "fact"); (case hl => simp only [List.length_append, List.length_cons, List.length_nil, List.length_map]; omega))
  | with_reducible refine w_disp ?_
  | with_reducible refine w_dpcons ?_
  | with_reducible refine w_dpnil ?_
  | ((with_reducible refine w_dispk (kvs := ?kvs) ?h ?e ?l ?_); (case h => walk_at "fact"); (case e => exact rfl); (case l => exact rfl))
  | walk_at "d2"
  | with_reducible intro _)
local macro_rules | `(tactic| walk_at "d") => `(tactic| repeat' (walk_at "d1"))
local macro_rules | `(tactic| walk_at "two") => `(tactic| first | with_reducible refine br_dec (fun _ => ?_) (fun _ => ?_) | with_reducible refine br_b (fun _ => ?_) (fun _ => ?_))
def sp_l_deed (K : PySem.W.Frag) : SpD := fun ds S Q _ => ∃ (a n h : Addr) (wn wh : List Str), ds = [.ref a, .ref n, .ref h] ∧ S a = some (deckB K) ∧ Words S n wn 2 ∧ Words S h wh 2 ∧ ∀ (d : Deed) S', Dv.Sub S S' → d.ok → Q d.enc S'
def t_l_deed (K : PySem.W.Frag) : DS := (sSeq (sAsg (dOp rIx2 (dLst (dCons (dOp rAdd (dCon (.int 1)) (dCall (sp_l_draw K) Ed0 (dCons (dVar 0) (dCons (dCon (.int 9)) dNil)))) (dCons (dOp rAdd (dCon (.int 1)) (dCall (sp_l_end K) Ed0 (dCons (dVar 0) (dCons (dOp (rInt CPow fun i j => .int (i ^ j.toNat)) (dCon (.int 10)) (dCon (.int 12))) dNil)))) dNil))) (dCall (sp_l_draw K) Ed0 (dCons (dVar 0) (dCons (dCon (.int 2)) dNil)))) (nName 3))
    (sSeq (sAsg (dCall (sp_l_draw K) Ed0 (dCons (dVar 0) (dCons (dCb rLen2 (dCons (dVar 1) dNil)) dNil))) (nName 4))
    (sSeq (sAsg (dOp rIx2 (dVar 1) (dVar 4)) (nName 5))
    (sSeq (sAsg (dOp rIx2 (dVar 1) (dOp (rInt (fun _ j => 0 < j) fun i j => .int (i % j)) (dOp rAdd (dOp rAdd (dVar 4) (dCon (.int 1))) (dCall (sp_l_draw K) Ed0 (dCons (dVar 0) (dCons (dOp (rInt0 fun i j => .int (i - j)) (dCb rLen2 (dCons (dVar 1) dNil)) (dCon (.int 1))) dNil)))) (dCb rLen2 (dCons (dVar 1) dNil)))) (nName 6))
    (sSeq (sAsg (dCall (sp_l_draw K) Ed0 (dCons (dVar 0) (dCons (dCb rLen2 (dCons (dVar 2) dNil)) dNil))) (nName 7))
    (sSeq (sAsg (dOp rIx2 (dVar 2) (dVar 7)) (nName 8))
    (sSeq (sAsg (dOp rIx2 (dVar 2) (dOp (rInt (fun _ j => 0 < j) fun i j => .int (i % j)) (dOp rAdd (dOp rAdd (dVar 7) (dCon (.int 1))) (dCall (sp_l_draw K) Ed0 (dCons (dVar 0) (dCons (dOp (rInt0 fun i j => .int (i - j)) (dCb rLen2 (dCons (dVar 2) dNil)) (dCon (.int 1))) dNil)))) (dCb rLen2 (dCons (dVar 2) dNil)))) (nName 9))
    (sSeq (sAsg (dLst (dCons (dTup (dCons (dCon (.str "add")) (dCons (dVar 5) (dCons (dVar 3) dNil)))) (dCons (dTup (dCons (dCon (.str "take")) (dCons (dVar 5) (dCons (dVar 3) dNil)))) (dCons (dTup (dCons (dCon (.str "move")) (dCons (dVar 5) (dCons (dVar 6) (dCons (dVar 3) dNil))))) dNil)))) (nName 10))
    (sSeq (sAsg (dOp rAdd (dVar 10) (dLst (dCons (dTup (dCons (dCon (.str "send")) (dCons (dVar 8) (dCons (dVar 5) (dCons (dVar 3) dNil))))) (dCons (dTup (dCons (dCon (.str "fetch")) (dCons (dVar 8) (dCons (dVar 5) (dCons (dVar 3) dNil))))) (dCons (dTup (dCons (dCon (.str "pass")) (dCons (dVar 8) (dCons (dVar 9) (dCons (dVar 5) (dCons (dVar 3) dNil)))))) dNil))))) (nName 10))
    (sRet (dOp rIx2 (dVar 10) (dCall (sp_l_draw K) Ed0 (dCons (dVar 0) (dCons (dCon (.int 6)) dNil))))))))))))))
def sp_l_spot (K : PySem.W.Frag) : SpD := fun ds S Q _ => ∃ (a m a1 a2 a3 a4 : Addr) (w1 w2 w3 w4 : List Str), ds = [.ref a, .ref m] ∧ S a = some (deckB K) ∧ Menus S m a1 a2 a3 a4 w1 w2 w3 w4 ∧ ∀ (p q : Str) S', Dv.Sub S S' → p ∈ w3 → q ∈ w4 → Q (.tup [.str p, .str q]) S'
def t_l_spot (K : PySem.W.Frag) : DS := (sRet (dTup (dCons (dOp rIx2 (dOp rIx2 (dVar 1) (dCon (.int 2))) (dCall (sp_l_draw K) Ed0 (dCons (dVar 0) (dCons (dCb rLen2 (dCons (dOp rIx2 (dVar 1) (dCon (.int 2))) dNil)) dNil)))) (dCons (dOp rIx2 (dOp rIx2 (dVar 1) (dCon (.int 3))) (dCall (sp_l_draw K) Ed0 (dCons (dVar 0) (dCons (dCb rLen2 (dCons (dOp rIx2 (dVar 1) (dCon (.int 3))) dNil)) dNil)))) dNil))))
theorem rd_l_spot (K : PySem.W.Frag) : ∀ ds S Q (Ed : DXK), sp_l_spot K ds S Q Ed → Opens K S (t_l_spot K (dEnd K Q) (startS N_l_spot ds)) := by
  rintro _ S Q _ ⟨a, m, a1, a2, a3, a4, w1, w2, w3, w4, rfl, ha, M, q⟩
  have hm := M.m
  have h3 := M.l3.l
  have h4 := M.l4.l
  have l3 := M.l3.lo
  have l4 := M.l4.lo
  have z3 := M.l3.hi
  have z4 := M.l4.hi
  refine Opens.here ?_
  unfold t_l_spot
  walk_at "d"
  refine pickS h3 (by assumption) (by assumption) fun p hp => ?_
  walk_at "d"
  refine pickS h4 (by assumption) (by assumption) fun p2 hp2 => ?_
  walk_at "d"
  exact Opens.here (q _ _ _ (by walk_at "sub") hp hp2)
theorem mod2 {x n : Int} (h : 0 < n) : 0 ≤ x % n ∧ x % n < n := ⟨Int.emod_nonneg _ (by omega), Int.emod_lt_of_pos _ h⟩
theorem rd_l_deed (K : PySem.W.Frag) : ∀ ds S Q (Ed : DXK), sp_l_deed K ds S Q Ed → Opens K S (t_l_deed K (dEnd K Q) (startS N_l_deed ds)) := by
  rintro _ S Q _ ⟨a, n, h, wn, wh, rfl, ha, Mn, Mh, q⟩
  have hn := Mn.l
  have hh := Mh.l
  have ln := Mn.lo
  have lh := Mh.lo
  have zn := Mn.hi
  have zh := Mh.hi
  refine Opens.here ?_
  unfold t_l_deed
  walk_at "d"
  refine ⟨_, _, rfl, by walk_at "fact", by omega, by omega, fun e1 S1 _ _ s1 => ?_⟩
  walk_at "d"
  refine pickI 1 1000000000000 (by walk_at "fact") (by assumption) (by simp only [List.length_cons, List.length_nil]; omega) (by walk_at "ints") fun amt _ _ => ?_
  walk_at "d"
  refine pickS (by walk_at "fact") (by assumption) (by assumption) fun name hname => ?_
  walk_at "d"
  refine pickS (by walk_at "fact") (mod2 (by omega)).1 (mod2 (by omega)).2 fun other hother => ?_
  walk_at "d"
  refine pickS (by walk_at "fact") (by assumption) (by assumption) fun house hhouse => ?_
  walk_at "d"
  refine pickS (by walk_at "fact") (mod2 (by omega)).1 (mod2 (by omega)).2 fun there hthere => ?_
  walk_at "d"
  have n1 := Mn.t _ hname
  have n2 := Mn.t _ hother
  have n3 := Mh.t _ hhouse
  have n4 := Mh.t _ hthere
  refine w_addL (xs := [Deed.enc (.add name amt), Deed.enc (.take name amt), Deed.enc (.move name other amt)]) (ys := [Deed.enc (.send house name amt), Deed.enc (.fetch house name amt), Deed.enc (.pass house there name amt)]) (by walk_at "fact") (by walk_at "fact") (by simp) ?_
  walk_at "d"
  refine pick (fun x => ∃ d : Deed, x = d.enc ∧ d.ok) (by walk_at "fact") (by assumption) (by simp; omega) ?_ fun x ⟨d, e, o⟩ => ?_
  · refine all_cons ⟨_, rfl, ⟨by assumption, by assumption, ?_⟩⟩ (all_cons ⟨_, rfl, ⟨by assumption, by assumption, ?_⟩⟩ (all_cons ⟨_, rfl, ⟨by assumption, by assumption, ?_⟩⟩ (all_cons ⟨_, rfl, ⟨by assumption, by assumption, ?_⟩⟩ (all_cons ⟨_, rfl, ⟨by assumption, by assumption, ?_⟩⟩ (all_cons ⟨_, rfl, ⟨by assumption, by assumption, ?_⟩⟩ all_nil)))))
    all_goals (intro w hw; simp only [Deed.names, List.mem_cons, List.not_mem_nil, or_false] at hw; rcases hw with rfl | rfl | rfl <;> assumption)
  · subst e
    exact Opens.here (q _ _ (by walk_at "sub") o)
theorem lt_ble {n : Nat} (h : n.ble 1000 = true) : n < 16777216 := Nat.lt_of_le_of_lt (Nat.le_of_ble_eq_true h) (by decide)
theorem lstOf_ref {S : Sr} {a : Addr} {ds : List DV} (h : S a = some (.lst ds)) : lstOf S (.ref a) ds := h
theorem flat_in {ds pre post : List DV} {d : DV} (h : ds.all flatD = true) (e : ds = pre ++ d :: post) : flatD d = true := List.all_eq_true.mp h d (by rw [e]; simp)
def Deed.some (d : Deed) (asked : Bool) : List Str := if d.far then d.words.filter fun w => (inF (.str w) [.str "short", .str "full"] != asked) else d.words
def sp_l_words (K : PySem.W.Frag) : SpD := fun ds S Q _ => ∃ (d : Deed) (asked : Bool), ds = [d.enc, .bl asked] ∧ ∀ p S', Dv.Sub S S' → Fr S p → S' p = some (.lst ((Deed.some d asked).map DV.str)) → Q (.ref p) S'
def t_l_words (K : PySem.W.Frag) : DS := (sSeq (sAsg (dDisp (((dCon (.str "add")), (dLst (dCons (dCon (.str "is")) (dCons (dCon (.str "full")) dNil)))) :: (((dCon (.str "take")), (dLst (dCons (dCon (.str "is")) (dCons (dCon (.str "short")) dNil)))) :: (((dCon (.str "move")), (dLst (dCons (dCon (.str "is")) (dCons (dCon (.str "short")) (dCons (dCon (.str "full")) dNil))))) :: (((dCon (.str "pass")), (dLst (dCons (dCon (.str "ok")) (dCons (dCon (.str "no")) dNil)))) :: []))))) (nName 2))
    (sSeq (sAsg (dLst (dCons (dCon (.str "is")) (dCons (dCon (.str "short")) (dCons (dCon (.str "no")) dNil)))) (nSub (dVar 2) (dCon (.str "send"))))
    (sSeq (sAsg (dLst (dCons (dCon (.str "is")) (dCons (dCon (.str "full")) (dCons (dCon (.str "no")) dNil)))) (nSub (dVar 2) (dCon (.str "fetch"))))
    (sSeq (sAsg (dOp rIx2 (dVar 2) (dOp rIx2 (dVar 0) (dCon (.int 0)))) (nName 3))
    (sSeq (sIf (dTest (dOp rInD (dOp rIx2 (dVar 0) (dCon (.int 0))) (dTup (dCons (dCon (.str "add")) (dCons (dCon (.str "take")) (dCons (dCon (.str "move")) dNil)))))) (sRet (dVar 3)) sNext)
    (sRet (dLc (iL (dVar 3)) (nName 4) (dTest (dOp rNeD (dOp rInD (dVar 4) (dTup (dCons (dCon (.str "short")) (dCons (dCon (.str "full")) dNil)))) (dVar 1))) (dVar 4) [4])))))))
theorem rd_l_words (K : PySem.W.Frag) : ∀ ds S Q (Ed : DXK), sp_l_words K ds S Q Ed → Opens K S (t_l_words K (dEnd K Q) (startS N_l_words ds)) := by
  rintro _ S Q _ ⟨d, asked, rfl, q⟩
  refine Opens.here ?_
  unfold t_l_words
  walk_at "d"
  rename_i p0 hp0 p1 hp1 p2 hp2 p3 hp3 p4 hp4 p5 hp5
  refine w_putKs (by walk_at "fact") (lt_ble (by kernel_rfl)) ?_
  walk_at "d"
  rename_i p6 hp6
  refine w_putKs (by walk_at "fact") (lt_ble (by kernel_rfl)) ?_
  walk_at "d"
  cases d <;> dsimp only [Deed.enc] <;> walk_at "d"
  case add n amt =>
    refine w_ixKs (z := .ref p1) (by walk_at "fact") (by kernel_rfl) ?_
    walk_at "d"
    exact Opens.here (q _ _ (by walk_at "sub") (by walk_at "fr") (by walk_at "fact"))
  case take n amt =>
    refine w_ixKs (z := .ref p2) (by walk_at "fact") (by kernel_rfl) ?_
    walk_at "d"
    exact Opens.here (q _ _ (by walk_at "sub") (by walk_at "fr") (by walk_at "fact"))
  case move n o amt =>
    refine w_ixKs (z := .ref p3) (by walk_at "fact") (by kernel_rfl) ?_
    walk_at "d"
    exact Opens.here (q _ _ (by walk_at "sub") (by walk_at "fr") (by walk_at "fact"))
  case send h n amt =>
    refine w_ixKs (z := .ref p5) (by walk_at "fact") (by kernel_rfl) ?_
    walk_at "d"
    refine lc_lstF (fun d => if (inF d [.str "short", .str "full"] != asked) then some d else none) (ds := [.str "is", .str "short", .str "no"]) (lstOf_ref (by walk_at "fact")) (by simp) (fun pre d post S0 R N e s0 r n => ?_) (fun D S' s1 hD hl => ?_)
    · have hf : flatD d = true := flat_in (ds := [.str "is", .str "short", .str "no"]) rfl e
      walk_at "d"
      refine w_inT (k := inF d [.str "short", .str "full"]) hf rfl rfl ?_
      walk_at "d"
      refine br_b (fun hb => ?_) (fun hb => ?_)
      · exact n _ (by walk_at "sub") (by simp [bne, hb])
      · walk_at "d"
        exact r _ _ (by walk_at "sub") (by simp [bne, hb])
    · refine Opens.here (q _ _ (by walk_at "sub") (by walk_at "fr") ?_)
      rw [hl]
      cases asked <;> kernel_rfl
  case fetch h n amt =>
    refine w_ixKs (z := .ref p6) (by walk_at "fact") (by kernel_rfl) ?_
    walk_at "d"
    refine lc_lstF (fun d => if (inF d [.str "short", .str "full"] != asked) then some d else none) (ds := [.str "is", .str "full", .str "no"]) (lstOf_ref (by walk_at "fact")) (by simp) (fun pre d post S0 R N e s0 r n => ?_) (fun D S' s1 hD hl => ?_)
    · have hf : flatD d = true := flat_in (ds := [.str "is", .str "full", .str "no"]) rfl e
      walk_at "d"
      refine w_inT (k := inF d [.str "short", .str "full"]) hf rfl rfl ?_
      walk_at "d"
      refine br_b (fun hb => ?_) (fun hb => ?_)
      · exact n _ (by walk_at "sub") (by simp [bne, hb])
      · walk_at "d"
        exact r _ _ (by walk_at "sub") (by simp [bne, hb])
    · refine Opens.here (q _ _ (by walk_at "sub") (by walk_at "fr") ?_)
      rw [hl]
      cases asked <;> kernel_rfl
  case pass h t n amt =>
    refine w_ixKs (z := .ref p4) (by walk_at "fact") (by kernel_rfl) ?_
    walk_at "d"
    refine lc_lstF (fun d => if (inF d [.str "short", .str "full"] != asked) then some d else none) (ds := [.str "ok", .str "no"]) (lstOf_ref (by walk_at "fact")) (by simp) (fun pre d post S0 R N e s0 r n => ?_) (fun D S' s1 hD hl => ?_)
    · have hf : flatD d = true := flat_in (ds := [.str "ok", .str "no"]) rfl e
      walk_at "d"
      refine w_inT (k := inF d [.str "short", .str "full"]) hf rfl rfl ?_
      walk_at "d"
      refine br_b (fun hb => ?_) (fun hb => ?_)
      · exact n _ (by walk_at "sub") (by simp [bne, hb])
      · walk_at "d"
        exact r _ _ (by walk_at "sub") (by simp [bne, hb])
    · refine Opens.here (q _ _ (by walk_at "sub") (by walk_at "fr") ?_)
      rw [hl]
      cases asked <;> kernel_rfl
end K72
set_option Elab.async false
set_option linter.all false
set_option maxRecDepth 100000
set_option maxHeartbeats 1000000
namespace K72
open PySem PySem.Spec PyProof.Rows L2 Dv Ty
local macro_rules | `(tactic| walk_at "sub") => `(tactic| first | with_reducible exact Sub.refl | assumption | ((with_reducible refine Sub.up2 ?_ (by assumption)); walk_at "sub") | ((with_reducible refine Sub.upF ?_ (by first | assumption | exact Sub.nn (by assumption) (by assumption))); walk_at "sub") | ((with_reducible refine Sub.trans ?_ (by assumption)); walk_at "sub") | ((with_reducible refine Kp.sub2 ?h1 (by assumption) ?h2); (case h2 => walk_at "fr"); (case h1 => walk_at "sub")))
local macro_rules | `(tactic| walk_at "kp") => `(tactic| first | exact Kp.refl | assumption | ((with_reducible refine Kp.set ?_); walk_at "kp") | ((with_reducible refine Kp.up2 ?_ (by assumption)); walk_at "kp") | ((with_reducible refine Kp.upF ?_ ?h); (case h => walk_at "fr"); walk_at "kp") | ((with_reducible refine Kp.sub ?_ (by assumption)); walk_at "kp") | ((with_reducible refine Kp.trans ?_ (by assumption)); walk_at "kp") | ((with_reducible refine Kp.tr2 ?h1 (by assumption) ?h2); (case h2 => walk_at "fr"); (case h1 => walk_at "kp")) | (refine Kp.of ?_; walk_at "sub"))
local macro_rules | `(tactic| walk_at "keep") => `(tactic| first | with_reducible exact Keep.refl | assumption | ((with_reducible refine Keep.up2 ?_ (by assumption)); walk_at "keep") | ((with_reducible refine Keep.sub ?_ (by assumption)); walk_at "keep") | ((with_reducible refine Keep.trans ?_ (by assumption)); walk_at "keep"))
local macro_rules | `(tactic| walk_at "ne") => `(tactic| first | assumption | (apply Ne.symm; assumption) | ((with_reducible refine sneF (S := ?S) (o := ?o) ?h1 ?h2); (case h2 => assumption); (case h1 => walk_at "fact")) | ((with_reducible refine Ne.symm (sneF (S := ?S) (o := ?o) ?h1 ?h2)); (case h2 => assumption); (case h1 => walk_at "fact")))
local macro_rules | `(tactic| walk_at "fact") => `(tactic| first | assumption | exact up_same | ((with_reducible refine up_at (by assumption) ?_); walk_at "fact") | ((with_reducible refine up_at2 ?h ?_); (case h => walk_at "ne"); walk_at "fact") | ((with_reducible refine Sub.at (by assumption) ?_); walk_at "fact") | ((with_reducible refine Kp.at (by assumption) ?h ?_); (case h => walk_at "ne"); walk_at "fact"))
local macro_rules | `(tactic| walk_at "sok") => `(tactic| first | assumption | (refine sOk_lit ?_; decide +kernel) | ((with_reducible refine sOk.cut ?_ _ _); walk_at "sok") | ((with_reducible refine sOk.app (n := ?n) (m := ?m) ?h1 ?h2); (case h1 => walk_at "sok"); (case h2 => walk_at "sok")))
local macro_rules | `(tactic| walk_at "fr") => `(tactic| first | assumption | ((refine Sub.nn (S' := ?S') ?h1 ?h2); (case h2 => assumption); (case h1 => walk_at "sub")))
local macro_rules | `(tactic| walk_at "len") => `(tactic| first | (refine sOk.le (n := ?n) ?h1 ?h2; (case h1 => walk_at "sok"); (case h2 => decide)) | omega | decide +kernel)
local macro_rules | `(tactic| walk_at "ints") => `(tactic| first | exact all_nil | (refine all_cons ⟨_, rfl, by omega, by omega⟩ ?_; walk_at "ints") | (refine all_cons ⟨_, rfl⟩ ?_; walk_at "ints"))
local macro_rules | `(tactic| walk_at "d2") => `(tactic| fail "d2")
local macro_rules | `(tactic| walk_at "d1") => `(tactic| first
  | with_reducible refine w_seqE ?_
  | with_reducible refine w_retE ?_
  | with_reducible refine w_nextE ?_
  | with_reducible refine w_rtE ?_
  | with_reducible refine w_nxE ?_
  | with_reducible refine w_asgE ?_
  | with_reducible refine w_dropE ?_
  | with_reducible refine w_retNE ?_
  | with_reducible refine w_seq ?_
  | ((with_reducible refine w_var (d := ?d) ?h ?_); (case h => exact rfl))
  | with_reducible refine w_con ?_
  | with_reducible refine w_cons ?_
  | with_reducible refine w_nil ?_
  | with_reducible refine w_op ?_
  | with_reducible refine w_call ?_
  | with_reducible refine w_asg ?_
  | with_reducible refine w_name ?_
  | with_reducible refine w_ret ?_
  | with_reducible refine w_retE ?_
  | with_reducible refine w_if ?_
  | with_reducible refine w_test ?_
  | with_reducible refine w_tk ?_
  | with_reducible refine w_seqE ?_
  | with_reducible refine w_drop ?_
  | with_reducible refine w_next ?_
  | with_reducible refine w_nextE ?_
  | with_reducible refine w_nx ?_
  | with_reducible refine w_ct ?_
  | with_reducible refine w_rt ?_
  | with_reducible refine w_rtE ?_
  | with_reducible refine w_nxE ?_
  | with_reducible refine w_bk ?_
  | with_reducible refine w_retN ?_
  | with_reducible refine w_retNE ?_
  | with_reducible refine w_asgE ?_
  | with_reducible refine w_dropE ?_
  | with_reducible refine w_cont ?_
  | with_reducible refine w_break ?_
  | with_reducible refine w_for ?_
  | with_reducible refine w_lc ?_
  | with_reducible refine w_iL ?_
  | with_reducible refine w_iT ?_
  | with_reducible refine w_iE ?_
  | with_reducible refine w_iR1 ?_
  | with_reducible refine w_iR2 ?_
  | with_reducible refine w_iR3 ?_
  | with_reducible refine w_tkI ?_
  | with_reducible refine w_and ?_
  | with_reducible refine w_or ?_
  | with_reducible refine w_not ?_
  | with_reducible refine w_yes ?_
  | with_reducible refine w_andV ?_
  | with_reducible refine w_orV ?_
  | with_reducible refine w_notV ?_
  | with_reducible refine w_ifE ?_
  | with_reducible refine w_un ?_
  | with_reducible refine w_neg ?_
  | with_reducible refine w_tup ?_
  | with_reducible refine w_lst ?_
  | ((with_reducible refine w_tupk ?h ?_); (case h => exact rfl))
  | ((with_reducible refine w_lstk ?h ?_); (case h => exact rfl))
  | with_reducible refine w_int0 ?_
  | with_reducible refine w_addI ?_
  | with_reducible refine w_cb ?_
  | with_reducible refine w_sl ?_
  | with_reducible refine w_no ?_
  | with_reducible refine w_part ?_
  | with_reducible refine w_partk ?_
  | with_reducible refine w_bm ?_
  | with_reducible refine w_bmS ?_
  | with_reducible refine w_get2 ?_
  | with_reducible refine w_newK ?_
  | with_reducible refine w_isi ?_
  | with_reducible refine w_nnil ?_
  | with_reducible refine w_ncons ?_
  | with_reducible refine w_nsub ?_
  | with_reducible refine w_brT ?_
  | with_reducible refine w_brF ?_
  | with_reducible refine w_brB ?_
  | with_reducible refine w_ltI ?_
  | with_reducible refine w_ltS ?_
  | with_reducible refine w_eqI ?_
  | with_reducible refine w_neI ?_
  | with_reducible refine w_neB ?_
  | with_reducible refine w_isN ?_
  | with_reducible refine w_isT ?_
  | with_reducible refine w_isI ?_
  | with_reducible refine w_isS ?_
  | with_reducible refine w_isR ?_
  | with_reducible refine w_ntN ?_
  | with_reducible refine w_ntT ?_
  | with_reducible refine w_ntI ?_
  | with_reducible refine w_ntS ?_
  | with_reducible refine w_ntR ?_
  | with_reducible refine w_slT ?_
  | with_reducible refine w_lenT ?_
  | with_reducible refine w_intI ?_
  | with_reducible refine w_intB ?_
  | with_reducible refine w_max ?_
  | with_reducible refine w_min ?_
  | with_reducible refine w_abs ?_
  | with_reducible refine w_pow12 ?_
  | with_reducible refine w_pow18 ?_
  | with_reducible refine w_pow9 ?_
  | with_reducible refine w_pow10 ?_
  | with_reducible refine w_pow11 ?_
  | ((with_reducible refine w_mod ?h ?_); (case h => omega))
  | ((with_reducible refine w_mulL ?h1 ?h2 ?_); (case h1 => omega); (case h2 => omega))
  | ((with_reducible refine w_mulR ?h1 ?h2 ?_); (case h1 => omega); (case h2 => omega))
  | ((with_reducible refine w_fdiv ?h1 ?h2 ?_); (case h1 => omega); (case h2 => omega))
  | ((with_reducible refine w_ixT (z := ?z) ?h ?_); (case h => exact rfl))
  | ((with_reducible refine w_ixL (xs := ?xs) (z := ?z) ?h ?e ?_); (case h => walk_at "fact"); (case e => exact rfl))
  | ((with_reducible refine w_draw ?h ?h0 ?h1 ?_); (case h => walk_at "fact"); (case h0 => omega); (case h1 => omega))
  | ((with_reducible refine w_lenLS (ws := ?xs) ?h ?_); (case h => walk_at "fact"))
  | ((with_reducible refine w_lenL (xs := ?xs) ?h ?_); (case h => walk_at "fact"))
  | ((with_reducible refine w_bmL (ds := ?xs) ?h ?_); (case h => walk_at "fact"))
  | ((with_reducible refine w_app (ds := ?xs) ?h ?hl ?_); (case h => walk_at "fact"); (case hl => simp only [List.length_append, List.length_cons, List.length_nil, List.length_map]; omega))
  | ((with_reducible refine w_addT ?h ?_); (case h => exact rfl))
  | ((with_reducible refine w_addS2 (n := ?n) (m := ?m) ?h1 ?h2 ?h ?_); (case h1 => walk_at "sok"); (case h2 => walk_at "sok"); (case h => exact rfl))
  | ((with_reducible refine w_slS ?h ?_); (case h => walk_at "len"))
  | ((with_reducible refine w_lenS ?h ?_); (case h => walk_at "len"))
  | ((with_reducible refine w_slL (xs := ?xs) ?h ?_); (case h => walk_at "fact"))
  | ((with_reducible refine w_listR (xs := ?xs) ?h ?_); (case h => walk_at "fact"))
  | ((with_reducible refine w_gk (kvs := ?xs) ?h ?_); (case h => walk_at "fact"))
  | ((with_reducible refine w_getS (kvs := ?xs) ?h ?_); (case h => walk_at "fact"))
  | ((with_reducible refine w_eqSt ?h ?_); (case h => decide +kernel))
  | ((with_reducible refine w_eqSf ?h ?_); (case h => decide +kernel))
  | ((with_reducible refine w_neSt ?h ?_); (case h => decide +kernel))
  | ((with_reducible refine w_neSf ?h ?_); (case h => decide +kernel))
  | ((with_reducible refine w_inT (k := true) ?h1 ?h2 ?h3 ?_); (case h1 => exact rfl); (case h2 => exact rfl); (case h3 => decide +kernel))
  | ((with_reducible refine w_inT (k := false) ?h1 ?h2 ?h3 ?_); (case h1 => exact rfl); (case h2 => exact rfl); (case h3 => decide +kernel))
  | ((with_reducible refine w_r1 ?h1 ?h2 ?_); (case h1 => omega); (case h2 => omega))
  | ((with_reducible refine w_r2 ?h1 ?h2 ?h3 ?h4 ?_); (case h1 => omega); (case h2 => omega); (case h3 => omega); (case h4 => omega))
  | ((with_reducible refine w_r3 ?h1 ?h2 ?h3 ?h4 ?_); (case h1 => omega); (case h2 => omega); (case h3 => omega); (case h4 => omega))
  | ((with_reducible refine w_brD ?h ?_); (case h => first | assumption | omega))
  | ((with_reducible refine w_brN ?h ?_); (case h => first | assumption | omega))
  | ((with_reducible refine w_putL (xs := ?xs) (j := ?j) ?h ?e ?_); (case h => walk_at "fact"); (case e => exact rfl))
  | ((with_reducible refine w_pop0 (ds := ?xs) (d := ?d) ?h ?_); (case h => walk_at "fact"))
  | ((with_reducible refine w_ins0 (ds := ?xs) ?h ?hl ?_); (case h => walk_at "fact"); (case hl => simp only [List.length_append, List.length_cons, List.length_nil, List.length_map]; omega))
  | with_reducible refine w_disp ?_
  | with_reducible refine w_dpcons ?_
  | with_reducible refine w_dpnil ?_
  | ((with_reducible refine w_dispk (kvs := ?kvs) ?h ?e ?l ?_); (case h => walk_at "fact"); (case e => exact rfl); (case l => exact rfl))
  | walk_at "d2"
  | with_reducible intro _)
local macro_rules | `(tactic| walk_at "d") => `(tactic| repeat' (walk_at "d1"))
local macro_rules | `(tactic| walk_at "two") => `(tactic| first | with_reducible refine br_dec (fun _ => ?_) (fun _ => ?_) | with_reducible refine br_b (fun _ => ?_) (fun _ => ?_))
local macro_rules | `(tactic| walk_at "d2") => `(tactic| first
  | ((with_reducible show sp_l_end _ _ _ _ _); refine ⟨_, _, rfl, ?h, ?h0, ?h1, ?_⟩; (case h => walk_at "fact"); (case h0 => omega); (case h1 => omega); intro _ _ _ _ _)
  | ((with_reducible refine ix_amt _ ?_))
  | ((with_reducible refine ix_w0 _ ?_)))
def Deed.isPass : Deed → Bool
  | .pass .. => true | _ => false
theorem w0_pass (d : Deed) : (d.w0 == "pass") = Deed.isPass d := by cases d <;> (dsimp only [Deed.w0, Deed.isPass]; decide +kernel)
theorem ix_no {S : Sr} {Q : DK} (d : Deed) (o : d.ok) {k : Int} (h0 : 0 ≤ k) (h1 : k < 2) (q : ∀ w, w ∈ d.names → Q (.str w) S) : rIx2 d.enc (.int (1 + k * (if (d.w0 == "pass") = true then 1 else 0))) S Q := by
  have e : k = 0 ∨ k = 1 := by omega
  rw [w0_pass]
  cases d <;> dsimp only [Deed.isPass] <;> rcases e with rfl | rfl <;> exact w_ixT rfl (q _ (by simp [Deed.names]))
theorem mem_app {α : Type} {P : α → Prop} {l : List α} {x : α} (h : ∀ y, y ∈ l → P y) (hx : P x) : ∀ y, y ∈ l ++ [x] → P y := fun y m => by
  rcases List.mem_append.mp m with m | m
  · exact h y m
  · rw [List.mem_singleton.mp m]; exact hx
theorem mem_app2 {rows : List Rw} {x : Rw} (h : ∀ n t an, Rw.done n t an ∉ rows) (hx : ∀ n t an, x ≠ Rw.done n t an) : ∀ n t an, Rw.done n t an ∉ rows ++ [x] := fun n t an m => by
  rcases List.mem_append.mp m with m | m
  · exact h _ _ _ m
  · exact hx n t an (List.mem_singleton.mp m).symm
def sp_l_answer (K : PySem.W.Frag) : SpD := fun ds S Q _ => ∃ (a : Addr) (d : Deed) (w : Str), ds = [.ref a, d.enc, .str w] ∧ S a = some (deckB K) ∧ d.ok ∧ w ∈ (["is", "short", "full", "no", "ok"] : List Str) ∧ ∀ (an : Ans) S', Dv.Sub S S' → an.gd → Q an.enc S'
def t_l_answer (K : PySem.W.Frag) : DS := (sSeq (sAsg (dOp rIx2 (dVar 1) (dUn uNeg (dCon (.int 1)))) (nName 3))
    (sSeq (sAsg (dCall (sp_l_end K) Ed0 (dCons (dVar 0) (dCons (dOp rAdd (dOp (rInt0 fun i j => .int (i - j)) (dOp (rInt CPow fun i j => .int (i ^ j.toNat)) (dCon (.int 10)) (dCon (.int 12))) (dVar 3)) (dCon (.int 1))) dNil))) (nName 4))
    (sSeq (sAsg (dOp rAdd (dVar 3) (dCall (sp_l_end K) Ed0 (dCons (dVar 0) (dCons (dOp rAdd (dOp (rInt0 fun i j => .int (i - j)) (dOp (rInt CPow fun i j => .int (i ^ j.toNat)) (dCon (.int 10)) (dCon (.int 12))) (dVar 3)) (dCon (.int 1))) dNil)))) (nName 5))
    (sSeq (sIf (dTest (dOp rEqD (dVar 2) (dCon (.str "no")))) (sRet (dTup (dCons (dCon (.str "no")) (dCons (dOp rIx2 (dVar 1) (dOp rAdd (dCon (.int 1)) (dOp (rInt CMul fun i j => .int (i * j)) (dCall (sp_l_draw K) Ed0 (dCons (dVar 0) (dCons (dCon (.int 2)) dNil))) (dCb rInt2 (dCons (dOp rEqD (dOp rIx2 (dVar 1) (dCon (.int 0))) (dCon (.str "pass"))) dNil))))) dNil)))) sNext)
    (sSeq (sIf (dTest (dOp rEqD (dVar 2) (dCon (.str "ok")))) (sRet (dTup (dCons (dCon (.str "ok")) dNil))) sNext)
    (sSeq (sIf (dTest (dOp rEqD (dVar 2) (dCon (.str "short")))) (sRet (dTup (dCons (dCon (.str "short")) (dCons (dCall (sp_l_end K) Ed0 (dCons (dVar 0) (dCons (dVar 3) dNil))) dNil)))) sNext)
    (sSeq (sIf (dTest (dOp rEqD (dVar 2) (dCon (.str "full")))) (sRet (dTup (dCons (dCon (.str "full")) (dCons (dOp (rInt0 fun i j => .int (i - j)) (dOp (rInt CPow fun i j => .int (i ^ j.toNat)) (dCon (.int 10)) (dCon (.int 12))) (dCall (sp_l_end K) Ed0 (dCons (dVar 0) (dCons (dVar 3) dNil)))) dNil)))) sNext)
    (sSeq (sIf (dTest (dOp rEqD (dOp rIx2 (dVar 1) (dCon (.int 0))) (dCon (.str "move")))) (sRet (dTup (dCons (dCon (.str "is")) (dCons (dVar 4) (dCons (dVar 5) dNil))))) sNext)
    (sRet (dTup (dCons (dCon (.str "is")) (dCons (dOp rIx2 (dLst (dCons (dVar 4) (dCons (dVar 5) dNil))) (dCb rInt2 (dCons (dOp rInD (dOp rIx2 (dVar 1) (dCon (.int 0))) (dTup (dCons (dCon (.str "add")) (dCons (dCon (.str "fetch")) dNil)))) dNil))) dNil))))))))))))
theorem rd_l_answer (K : PySem.W.Frag) : ∀ ds S Q (Ed : DXK), sp_l_answer K ds S Q Ed → Opens K S (t_l_answer K (dEnd K Q) (startS N_l_answer ds)) := by
  rintro _ S Q _ ⟨a, d, w, rfl, ha, ok, hw, q⟩
  have lo := ok.lo
  have hi := ok.hi
  refine Opens.here ?_
  unfold t_l_answer
  walk_at "d"
  simp only [List.mem_cons, List.not_mem_nil, or_false] at hw
  rcases hw with rfl | rfl | rfl | rfl | rfl <;> walk_at "d"
  · refine w_eqS ?_
    walk_at "d"
    refine br_b (fun hb => ?_) (fun hb => ?_)
    · walk_at "d"
      exact Opens.here (q (.is2 _ _) _ (by walk_at "sub") trivial)
    · walk_at "d"
      refine w_inT (k := inF (.str d.w0) [.str "add", .str "fetch"]) rfl rfl rfl ?_
      walk_at "d"
      refine pickZ (by walk_at "fact") (by split <;> omega) (by simp only [List.length_cons, List.length_nil]; split <;> omega) (all_cons ⟨_, rfl⟩ (all_cons ⟨_, rfl⟩ all_nil)) fun i => ?_
      walk_at "d"
      exact Opens.here (q (.is1 _) _ (by walk_at "sub") trivial)
  · exact Opens.here (q (.short _) _ (by walk_at "sub") trivial)
  · exact Opens.here (q (.full _) _ (by walk_at "sub") trivial)
  · refine w_eqS ?_
    walk_at "d"
    refine ix_no d ok (by assumption) (by assumption) fun w hw => ?_
    walk_at "d"
    exact Opens.here (q (.no w) _ (by walk_at "sub") (ok.nm w hw))
  · exact Opens.here (q .ok _ (by walk_at "sub") trivial)
theorem some_len (d : Deed) (b : Bool) : (Deed.some d b).length ≤ 3 := by
  cases d <;> cases b <;> exact Nat.le_of_ble_eq_true (by kernel_rfl)
theorem some_pos (d : Deed) : 0 < (Deed.some d true).length := by
  cases d <;> exact Nat.le_of_ble_eq_true (n := 1) (by kernel_rfl)
theorem some_mem (d : Deed) (b : Bool) : ∀ w, w ∈ Deed.some d b → w ∈ (["is", "short", "full", "no", "ok"] : List Str) := by
  intro w hw
  have : w ∈ d.words := by
    unfold Deed.some at hw
    split at hw
    · exact (List.mem_filter.mp hw).1
    · exact hw
  cases d <;> simp only [Deed.words, List.mem_cons, List.not_mem_nil, or_false] at this ⊢ <;> (rcases this with rfl | rfl | rfl <;> simp) <;> (rcases this with rfl | rfl <;> simp)
def sp_l_kept (K : PySem.W.Frag) : SpD := fun ds S Q _ => ∃ (a m a1 a2 a3 a4 : Addr) (w1 w2 w3 w4 : List Str) (n t : Int), ds = [.ref a, .ref m, .int n, .int t] ∧ S a = some (deckB K) ∧ Menus S m a1 a2 a3 a4 w1 w2 w3 w4 ∧
  ∀ (p q : Str) (d : Deed) (an : Ans) S', Dv.Sub S S' → (Rw.kept n t p q d an).gd → Q (Rw.kept n t p q d an).enc S'
def t_l_kept (K : PySem.W.Frag) : DS := (sSeq (sAsg (dCall (sp_l_deed K) Ed0 (dCons (dVar 0) (dCons (dOp rIx2 (dVar 1) (dCon (.int 0))) (dCons (dOp rIx2 (dVar 1) (dCon (.int 1))) dNil)))) (nName 4))
    (sSeq (sAsg (dOp rAdd (dCall (sp_l_words K) Ed0 (dCons (dVar 4) (dCons (dCon (.bl true)) dNil))) (dCall (sp_l_words K) Ed0 (dCons (dVar 4) (dCons (dCon (.bl false)) dNil)))) (nName 5))
    (sSeq (sAsg (dCall (sp_l_answer K) Ed0 (dCons (dVar 0) (dCons (dVar 4) (dCons (dOp rIx2 (dVar 5) (dCall (sp_l_draw K) Ed0 (dCons (dVar 0) (dCons (dCb rLen2 (dCons (dVar 5) dNil)) dNil)))) dNil)))) (nName 6))
    (sRet (dOp rAdd (dOp rAdd (dTup (dCons (dCon (.str "kept")) (dCons (dVar 2) (dCons (dVar 3) dNil)))) (dCall (sp_l_spot K) Ed0 (dCons (dVar 0) (dCons (dVar 1) dNil)))) (dTup (dCons (dVar 4) (dCons (dVar 6) dNil))))))))
theorem rd_l_kept (K : PySem.W.Frag) : ∀ ds S Q (Ed : DXK), sp_l_kept K ds S Q Ed → Opens K S (t_l_kept K (dEnd K Q) (startS N_l_kept ds)) := by
  rintro _ S Q _ ⟨a, m, a1, a2, a3, a4, w1, w2, w3, w4, n, t, rfl, ha, M, q⟩
  have hm := M.m
  refine Opens.here ?_
  unfold t_l_kept
  walk_at "d"
  refine ⟨_, _, _, _, _, rfl, by walk_at "fact", M.l1, M.l2, fun d S1 s1 dok => ?_⟩
  walk_at "d"
  refine ⟨_, _, rfl, fun p2 S2 s2 n2 h2 => ?_⟩
  walk_at "d"
  refine ⟨_, _, rfl, fun p3 S3 s3 n3 h3 => ?_⟩
  walk_at "d"
  have l1 := some_len d true
  have l2 := some_len d false
  have l3 := some_pos d
  refine w_addL (xs := (Deed.some d true).map DV.str) (ys := (Deed.some d false).map DV.str) (by walk_at "fact") (by walk_at "fact") (by simp only [List.length_map]; omega) ?_
  rw [← List.map_append]
  have l4 : (Deed.some d true ++ Deed.some d false).length = (Deed.some d true).length + (Deed.some d false).length := List.length_append
  walk_at "d"
  refine pickS (ws := Deed.some d true ++ Deed.some d false) (by walk_at "fact") (by assumption) (by assumption) fun w hw => ?_
  have hw2 : w ∈ (["is", "short", "full", "no", "ok"] : List Str) := (List.mem_append.mp hw).elim (some_mem _ _ _) (some_mem _ _ _)
  walk_at "d"
  refine ⟨_, _, _, rfl, by walk_at "fact", dok, hw2, fun an S4 s4 ga => ?_⟩
  walk_at "d"
  refine ⟨_, _, _, _, _, _, _, _, _, _, rfl, by walk_at "fact", M.sub (by walk_at "sub"), fun p q2 S5 s5 hp hq => ?_⟩
  walk_at "d"
  exact Opens.here (q p q2 d an _ (by walk_at "sub") ⟨M.l3.t _ hp, M.l4.t _ hq, dok, ga⟩)
def sp_l_head (K : PySem.W.Frag) : SpD := fun ds S Q _ => ∃ (a m a1 a2 a3 a4 : Addr) (w1 w2 w3 w4 : List Str), ds = [.ref a, .ref m] ∧ S a = some (deckB K) ∧ Menus S m a1 a2 a3 a4 w1 w2 w3 w4 ∧
  ∀ r (rows : List Rw) S', Dv.Sub S S' → Fr S r → S' r = some (.lst (rows.map Rw.enc)) → (∀ x, x ∈ rows → x.gd) → (∀ n t an, Rw.done n t an ∉ rows) → rows.length ≤ 40 → Q (.ref r) S'
def t_l_head (K : PySem.W.Frag) : DS := (sSeq (sAsg (dOp rIx2 (dLst (dCons (dOp rAdd (dCon (.int 1)) (dCall (sp_l_draw K) Ed0 (dCons (dVar 0) (dCons (dCon (.int 12)) dNil)))) (dCons (dOp rAdd (dCon (.int 7)) (dCall (sp_l_draw K) Ed0 (dCons (dVar 0) (dCons (dCon (.int 900000)) dNil)))) dNil))) (dCall (sp_l_draw K) Ed0 (dCons (dVar 0) (dCons (dCon (.int 2)) dNil)))) (nName 2))
    (sSeq (sAsg (dCall (sp_l_end K) Ed0 (dCons (dVar 0) (dCons (dOp (rInt CMul fun i j => .int (i * j)) (dCon (.int 5)) (dOp (rInt CPow fun i j => .int (i ^ j.toNat)) (dCon (.int 10)) (dCon (.int 11)))) dNil))) (nName 3))
    (sSeq (sAsg (dLst (dCons (dTup (dCons (dCon (.str "next")) (dCons (dVar 2) (dCons (dVar 3) dNil)))) dNil)) (nName 4))
    (sSeq (sFor (iL (dCb rSorted2 (dCons (dOp rIx2 (dVar 1) (dCon (.int 0))) dNil))) (nName 5) (sIf (dTest (dOp (rInt0 fun i j => .bl (decide (j < i))) (dCall (sp_l_draw K) Ed0 (dCons (dVar 0) (dCons (dCon (.int 3)) dNil))) (dCon (.int 0)))) (sDrop (dBM "list" rApp (dVar 4) (dCons (dTup (dCons (dCon (.str "has")) (dCons (dVar 5) (dCons (dOp rAdd (dCon (.int 1)) (dCall (sp_l_end K) Ed0 (dCons (dVar 0) (dCons (dOp (rInt CPow fun i j => .int (i ^ j.toNat)) (dCon (.int 10)) (dCon (.int 12))) dNil)))) dNil)))) dNil))) sNext))
    (sSeq (sAsg (dCon (.int 0)) (nName 6))
    (sSeq (sFor (iR1 (dCons (dCall (sp_l_draw K) Ed0 (dCons (dVar 0) (dCons (dCon (.int 7)) dNil))) dNil)) (nName 7) (sSeq (sAsg (dOp rAdd (dOp rAdd (dVar 6) (dCon (.int 1))) (dOp rIx2 (dLst (dCons (dCon (.int 0)) (dCons (dCon (.int 0)) (dCons (dCall (sp_l_draw K) Ed0 (dCons (dVar 0) (dCons (dCon (.int 9)) dNil))) dNil)))) (dCall (sp_l_draw K) Ed0 (dCons (dVar 0) (dCons (dCon (.int 3)) dNil))))) (nName 6))
    (sIf (dTest (dOp rLt2 (dVar 6) (dVar 2))) (sDrop (dBM "list" rApp (dVar 4) (dCons (dCall (sp_l_kept K) Ed0 (dCons (dVar 0) (dCons (dVar 1) (dCons (dVar 6) (dCons (dCall (sp_l_end K) Ed0 (dCons (dVar 0) (dCons (dOp rAdd (dVar 3) (dCon (.int 1))) dNil))) dNil))))) dNil))) sNext)))
    (sRet (dVar 4))))))))
theorem rd_l_head (K : PySem.W.Frag) : ∀ ds S Q (Ed : DXK), sp_l_head K ds S Q Ed → Opens K S (t_l_head K (dEnd K Q) (startS N_l_head ds)) := by
  rintro _ S Q _ ⟨a, m, a1, a2, a3, a4, w1, w2, w3, w4, rfl, ha, M, q⟩
  have hm := M.m
  have h1 := M.l1.l
  have z1 := M.l1.hi
  refine Opens.here ?_
  unfold t_l_head
  walk_at "d"
  refine pickI 1 1000000 (by walk_at "fact") (by assumption) (by simp only [List.length_cons, List.length_nil]; omega) (by walk_at "ints") fun number _ _ => ?_
  walk_at "d"
  rename_i turn S1 tlo thi s1 r hr
  refine .inl ⟨w1, lstOf_ref (by walk_at "fact"), by omega, fun ys D perm srt hD0 => ?_⟩
  have hD : Fr _ D := hD0
  have yl := perm.length_eq
  have yt : txs 40 ys := fun w hw => M.l1.t w (perm.mem_iff.mp hw)
  have f1 : Dv.Sub S (up (up S1 r (MO.lst [DV.tup [DV.str "next", DV.int number, DV.int turn]])) D (MO.lst (ys.map DV.str))) := by walk_at "sub"
  have f2 : (up (up S1 r (MO.lst [DV.tup [DV.str "next", DV.int number, DV.int turn]])) D (MO.lst (ys.map DV.str))) r = some (.lst ([Rw.next number turn].map Rw.enc)) := by walk_at "fact"
  have f3 : (up (up S1 r (MO.lst [DV.tup [DV.str "next", DV.int number, DV.int turn]])) D (MO.lst (ys.map DV.str))) D = some (.lst (ys.map DV.str)) := up_same
  have f4 : D ≠ r := by walk_at "ne"
  have f5 : Fr S r := by walk_at "fr"
  generalize up (up S1 r (MO.lst [DV.tup [DV.str "next", DV.int number, DV.int turn]])) D (MO.lst (ys.map DV.str)) = S2 at f1 f2 f3 ⊢
  refine for_lst (lstOf_ref f3) (fun pre σ S' => ∃ (o : Option DV) (rows : List Rw), σ = [some (.ref a), some (.ref m), some (.int number), some (.int turn), some (.ref r), o, none, none] ∧ Kp r S2 S' ∧ S' r = some (.lst (rows.map Rw.enc)) ∧ (∀ x, x ∈ rows → x.gd) ∧ (∀ n t an, Rw.done n t an ∉ rows) ∧ rows.length ≤ pre.length + 1) ?_ ?_ ?_ ?_
  · exact ⟨none, [Rw.next number turn], rfl, .refl, f2, fun x hx => by simp at hx; subst hx; trivial, fun n t an hx => by simp at hx, by simp⟩
  · rintro pre σ S' ⟨o, rows, rfl, k, hr', g, nd, len⟩
    exact lstOf_ref (by walk_at "fact")
  · rintro pre d post σ S' e ⟨o, rows, rfl, k, hr', g, nd, len⟩
    obtain ⟨w, hw, rfl⟩ : ∃ w, w ∈ ys ∧ d = .str w := by
      have : d ∈ ys.map DV.str := by rw [e]; simp
      obtain ⟨w, hw, e⟩ := List.mem_map.mp this
      exact ⟨w, hw, e.symm⟩
    have prel : pre.length + 1 ≤ ys.length := by
      have := congrArg List.length e
      simp at this
      omega
    walk_at "d"
    walk_at "two"
    · walk_at "d"
      exact ⟨_, rows ++ [.has w _], rfl, by walk_at "kp", by rw [List.map_append]; exact up_same, mem_app (x := Rw.has w _) g (yt w hw), mem_app2 nd (by intro n t an h; cases h), by simp; omega⟩
    · walk_at "d"
      exact ⟨_, rows, rfl, by walk_at "kp", by walk_at "fact", g, nd, by simp; omega⟩
  · rintro σ S' ⟨o, rows, rfl, k, hr', g, nd, len⟩
    have len2 : rows.length ≤ 21 := by simp at len; omega
    walk_at "d"
    rename_i n _ hn7
    refine for_rng (fun i σ S4 => ∃ (o5 o7 : Option DV) (last : Int) (rows : List Rw), σ = [some (.ref a), some (.ref m), some (.int number), some (.int turn), some (.ref r), o5, some (.int last), o7] ∧ Kp r S2 S4 ∧ S4 r = some (.lst (rows.map Rw.enc)) ∧ (∀ x, x ∈ rows → x.gd) ∧ (∀ n t an, Rw.done n t an ∉ rows) ∧ rows.length ≤ 21 + i) ?_ ?_ ?_
    · exact ⟨_, _, _, rows, rfl, k, hr', g, nd, len2⟩
    · rintro i σ S4 hi ⟨o5, o7, last, rows, rfl, k, hr', g, nd, len⟩
      walk_at "d"
      refine pickZ (by walk_at "fact") (by assumption) (by simp only [List.length_cons, List.length_nil]; omega) (by walk_at "ints") fun i => ?_
      walk_at "d"
      walk_at "two"
      · walk_at "d"
        refine ⟨_, _, _, _, _, _, _, _, _, _, _, _, rfl, by walk_at "fact", M.sub (by walk_at "sub"), fun p q2 d an S5 s5 gd => ?_⟩
        walk_at "d"
        exact ⟨_, _, _, rows ++ [_], rfl, by walk_at "kp", by rw [List.map_append]; exact up_same, mem_app g gd, mem_app2 nd (by intro n t an h; cases h), by simp; omega⟩
      · walk_at "d"
        exact ⟨_, _, _, rows, rfl, by walk_at "kp", by walk_at "fact", g, nd, by omega⟩
    · rintro σ S4 ⟨o5, o7, last, rows, rfl, k, hr', g, nd, len⟩
      walk_at "d"
      exact Opens.here (q r rows _ (by walk_at "sub") f5 hr' g nd (by omega))
def sp_l_some_head (K : PySem.W.Frag) : SpD := sp_l_head K
def t_l_some_head (K : PySem.W.Frag) : DS := (sSeq (sAsg (dLst dNil) (nName 2))
    (sSeq (sIf (dTest (dOp rEqD (dCall (sp_l_draw K) Ed0 (dCons (dVar 0) (dCons (dCon (.int 2)) dNil))) (dCon (.int 0)))) (sAsg (dCall (sp_l_head K) Ed0 (dCons (dVar 0) (dCons (dVar 1) dNil))) (nName 2)) sNext)
    (sRet (dVar 2))))
theorem rd_l_some_head (K : PySem.W.Frag) : ∀ ds S Q (Ed : DXK), sp_l_some_head K ds S Q Ed → Opens K S (t_l_some_head K (dEnd K Q) (startS N_l_some_head ds)) := by
  rintro _ S Q _ ⟨a, m, a1, a2, a3, a4, w1, w2, w3, w4, rfl, ha, M, q⟩
  refine Opens.here ?_
  unfold t_l_some_head
  walk_at "d"
  rename_i p hp _ _ _
  walk_at "two"
  · walk_at "d"
    refine ⟨_, _, _, _, _, _, _, _, _, _, rfl, by walk_at "fact", M.sub (by walk_at "sub"), fun r rows S1 s1 n1 h1 g nd len => ?_⟩
    walk_at "d"
    exact Opens.here (q r rows _ (by walk_at "sub") (by walk_at "fr") h1 g nd len)
  · walk_at "d"
    exact Opens.here (q p [] _ (by walk_at "sub") hp up_same (fun _ h => by cases h) (fun _ _ _ h => by cases h) (by simp))
end K72
set_option Elab.async false
set_option linter.all false
set_option maxRecDepth 100000
set_option maxHeartbeats 1000000
namespace K72
open PySem PySem.Spec PyProof.Rows L2 Dv Ty
local macro_rules | `(tactic| walk_at "sub") => `(tactic| first | with_reducible exact Sub.refl | assumption | ((with_reducible refine Sub.up2 ?_ (by assumption)); walk_at "sub") | ((with_reducible refine Sub.upF ?_ (by first | assumption | exact Sub.nn (by assumption) (by assumption))); walk_at "sub") | ((with_reducible refine Sub.trans ?_ (by assumption)); walk_at "sub") | ((with_reducible refine Kp.sub2 ?h1 (by assumption) ?h2); (case h2 => walk_at "fr"); (case h1 => walk_at "sub")))
local macro_rules | `(tactic| walk_at "kp") => `(tactic| first | exact Kp.refl | assumption | ((with_reducible refine Kp.set ?_); walk_at "kp") | ((with_reducible refine Kp.up2 ?_ (by assumption)); walk_at "kp") | ((with_reducible refine Kp.upF ?_ ?h); (case h => walk_at "fr"); walk_at "kp") | ((with_reducible refine Kp.sub ?_ (by assumption)); walk_at "kp") | ((with_reducible refine Kp.trans ?_ (by assumption)); walk_at "kp") | ((with_reducible refine Kp.tr2 ?h1 (by assumption) ?h2); (case h2 => walk_at "fr"); (case h1 => walk_at "kp")) | (refine Kp.of ?_; walk_at "sub"))
local macro_rules | `(tactic| walk_at "keep") => `(tactic| first | with_reducible exact Keep.refl | assumption | ((with_reducible refine Keep.up2 ?_ (by assumption)); walk_at "keep") | ((with_reducible refine Keep.sub ?_ (by assumption)); walk_at "keep") | ((with_reducible refine Keep.trans ?_ (by assumption)); walk_at "keep"))
local macro_rules | `(tactic| walk_at "ne") => `(tactic| first | assumption | (apply Ne.symm; assumption) | ((with_reducible refine sneF (S := ?S) (o := ?o) ?h1 ?h2); (case h2 => assumption); (case h1 => walk_at "fact")) | ((with_reducible refine Ne.symm (sneF (S := ?S) (o := ?o) ?h1 ?h2)); (case h2 => assumption); (case h1 => walk_at "fact")))
local macro_rules | `(tactic| walk_at "fact") => `(tactic| first | assumption | exact up_same | ((with_reducible refine up_at (by assumption) ?_); walk_at "fact") | ((with_reducible refine up_at2 ?h ?_); (case h => walk_at "ne"); walk_at "fact") | ((with_reducible refine Sub.at (by assumption) ?_); walk_at "fact") | ((with_reducible refine Kp.at (by assumption) ?h ?_); (case h => walk_at "ne"); walk_at "fact"))
local macro_rules | `(tactic| walk_at "sok") => `(tactic| first | assumption | (refine sOk_lit ?_; decide +kernel) | ((with_reducible refine sOk.cut ?_ _ _); walk_at "sok") | ((with_reducible refine sOk.app (n := ?n) (m := ?m) ?h1 ?h2); (case h1 => walk_at "sok"); (case h2 => walk_at "sok")))
local macro_rules | `(tactic| walk_at "fr") => `(tactic| first | assumption | ((refine Sub.nn (S' := ?S') ?h1 ?h2); (case h2 => assumption); (case h1 => walk_at "sub")))
local macro_rules | `(tactic| walk_at "len") => `(tactic| first | (refine sOk.le (n := ?n) ?h1 ?h2; (case h1 => walk_at "sok"); (case h2 => decide)) | omega | decide +kernel)
local macro_rules | `(tactic| walk_at "ints") => `(tactic| first | exact all_nil | (refine all_cons ⟨_, rfl, by omega, by omega⟩ ?_; walk_at "ints") | (refine all_cons ⟨_, rfl⟩ ?_; walk_at "ints"))
local macro_rules | `(tactic| walk_at "d2") => `(tactic| fail "d2")
local macro_rules | `(tactic| walk_at "d1") => `(tactic| first
  | with_reducible refine w_seqE ?_
  | with_reducible refine w_retE ?_
  | with_reducible refine w_nextE ?_
  | with_reducible refine w_rtE ?_
  | with_reducible refine w_nxE ?_
  | with_reducible refine w_asgE ?_
  | with_reducible refine w_dropE ?_
  | with_reducible refine w_retNE ?_
  | with_reducible refine w_seq ?_
  | ((with_reducible refine w_var (d := ?d) ?h ?_); (case h => exact rfl))
  | with_reducible refine w_con ?_
  | with_reducible refine w_cons ?_
  | with_reducible refine w_nil ?_
  | with_reducible refine w_op ?_
  | with_reducible refine w_call ?_
  | with_reducible refine w_asg ?_
  | with_reducible refine w_name ?_
  | with_reducible refine w_ret ?_
  | with_reducible refine w_retE ?_
  | with_reducible refine w_if ?_
  | with_reducible refine w_test ?_
  | with_reducible refine w_tk ?_
  | with_reducible refine w_seqE ?_
  | with_reducible refine w_drop ?_
  | with_reducible refine w_next ?_
  | with_reducible refine w_nextE ?_
  | with_reducible refine w_nx ?_
  | with_reducible refine w_ct ?_
  | with_reducible refine w_rt ?_
  | with_reducible refine w_rtE ?_
  | with_reducible refine w_nxE ?_
  | with_reducible refine w_bk ?_
  | with_reducible refine w_retN ?_
  | with_reducible refine w_retNE ?_
  | with_reducible refine w_asgE ?_
  | with_reducible refine w_dropE ?_
  | with_reducible refine w_cont ?_
  | with_reducible refine w_break ?_
  | with_reducible refine w_for ?_
  | with_reducible refine w_lc ?_
  | with_reducible refine w_iL ?_
  | with_reducible refine w_iT ?_
  | with_reducible refine w_iE ?_
  | with_reducible refine w_iR1 ?_
  | with_reducible refine w_iR2 ?_
  | with_reducible refine w_iR3 ?_
  | with_reducible refine w_tkI ?_
  | with_reducible refine w_and ?_
  | with_reducible refine w_or ?_
  | with_reducible refine w_not ?_
  | with_reducible refine w_yes ?_
  | with_reducible refine w_andV ?_
  | with_reducible refine w_orV ?_
  | with_reducible refine w_notV ?_
  | with_reducible refine w_ifE ?_
  | with_reducible refine w_un ?_
  | with_reducible refine w_neg ?_
  | with_reducible refine w_tup ?_
  | with_reducible refine w_lst ?_
  | ((with_reducible refine w_tupk ?h ?_); (case h => exact rfl))
  | ((with_reducible refine w_lstk ?h ?_); (case h => exact rfl))
  | with_reducible refine w_int0 ?_
  | with_reducible refine w_addI ?_
  | with_reducible refine w_cb ?_
  | with_reducible refine w_sl ?_
  | with_reducible refine w_no ?_
  | with_reducible refine w_part ?_
  | with_reducible refine w_partk ?_
  | with_reducible refine w_bm ?_
  | with_reducible refine w_bmS ?_
  | with_reducible refine w_get2 ?_
  | with_reducible refine w_newK ?_
  | with_reducible refine w_isi ?_
  | with_reducible refine w_nnil ?_
  | with_reducible refine w_ncons ?_
  | with_reducible refine w_nsub ?_
  | with_reducible refine w_brT ?_
  | with_reducible refine w_brF ?_
  | with_reducible refine w_brB ?_
  | with_reducible refine w_ltI ?_
  | with_reducible refine w_ltS ?_
  | with_reducible refine w_eqI ?_
  | with_reducible refine w_neI ?_
  | with_reducible refine w_neB ?_
  | with_reducible refine w_isN ?_
  | with_reducible refine w_isT ?_
  | with_reducible refine w_isI ?_
  | with_reducible refine w_isS ?_
  | with_reducible refine w_isR ?_
  | with_reducible refine w_ntN ?_
  | with_reducible refine w_ntT ?_
  | with_reducible refine w_ntI ?_
  | with_reducible refine w_ntS ?_
  | with_reducible refine w_ntR ?_
  | with_reducible refine w_slT ?_
  | with_reducible refine w_lenT ?_
  | with_reducible refine w_intI ?_
  | with_reducible refine w_intB ?_
  | with_reducible refine w_max ?_
  | with_reducible refine w_min ?_
  | with_reducible refine w_abs ?_
  | with_reducible refine w_pow12 ?_
  | with_reducible refine w_pow18 ?_
  | with_reducible refine w_pow9 ?_
  | with_reducible refine w_pow10 ?_
  | with_reducible refine w_pow11 ?_
  | ((with_reducible refine w_mod ?h ?_); (case h => omega))
  | ((with_reducible refine w_mulL ?h1 ?h2 ?_); (case h1 => omega); (case h2 => omega))
  | ((with_reducible refine w_mulR ?h1 ?h2 ?_); (case h1 => omega); (case h2 => omega))
  | ((with_reducible refine w_fdiv ?h1 ?h2 ?_); (case h1 => omega); (case h2 => omega))
  | ((with_reducible refine w_ixT (z := ?z) ?h ?_); (case h => exact rfl))
  | ((with_reducible refine w_ixL (xs := ?xs) (z := ?z) ?h ?e ?_); (case h => walk_at "fact"); (case e => exact rfl))
  | ((with_reducible refine w_draw ?h ?h0 ?h1 ?_); (case h => walk_at "fact"); (case h0 => omega); (case h1 => omega))
  | ((with_reducible refine w_lenLS (ws := ?xs) ?h ?_); (case h => walk_at "fact"))
  | ((with_reducible refine w_lenL (xs := ?xs) ?h ?_); (case h => walk_at "fact"))
  | ((with_reducible refine w_bmL (ds := ?xs) ?h ?_); (case h => walk_at "fact"))
  | ((with_reducible refine w_app (ds := ?xs) ?h ?hl ?_); (case h => walk_at "fact"); (case hl => simp only [List.length_append, List.length_cons, List.length_nil, List.length_map]; omega))
  | ((with_reducible refine w_addT ?h ?_); (case h => exact rfl))
  | ((with_reducible refine w_addS2 (n := ?n) (m := ?m) ?h1 ?h2 ?h ?_); (case h1 => walk_at "sok"); (case h2 => walk_at "sok"); (case h => exact rfl))
  | ((with_reducible refine w_slS ?h ?_); (case h => walk_at "len"))
  | ((with_reducible refine w_lenS ?h ?_); (case h => walk_at "len"))
  | ((with_reducible refine w_slL (xs := ?xs) ?h ?_); (case h => walk_at "fact"))
  | ((with_reducible refine w_listR (xs := ?xs) ?h ?_); (case h => walk_at "fact"))
  | ((with_reducible refine w_gk (kvs := ?xs) ?h ?_); (case h => walk_at "fact"))
  | ((with_reducible refine w_eqSt ?h ?_); (case h => decide +kernel))
  | ((with_reducible refine w_eqSf ?h ?_); (case h => decide +kernel))
  | ((with_reducible refine w_neSt ?h ?_); (case h => decide +kernel))
  | ((with_reducible refine w_neSf ?h ?_); (case h => decide +kernel))
  | ((with_reducible refine w_inT (k := true) ?h1 ?h2 ?h3 ?_); (case h1 => exact rfl); (case h2 => exact rfl); (case h3 => decide +kernel))
  | ((with_reducible refine w_inT (k := false) ?h1 ?h2 ?h3 ?_); (case h1 => exact rfl); (case h2 => exact rfl); (case h3 => decide +kernel))
  | ((with_reducible refine w_r1 ?h1 ?h2 ?_); (case h1 => omega); (case h2 => omega))
  | ((with_reducible refine w_r2 ?h1 ?h2 ?h3 ?h4 ?_); (case h1 => omega); (case h2 => omega); (case h3 => omega); (case h4 => omega))
  | ((with_reducible refine w_r3 ?h1 ?h2 ?h3 ?h4 ?_); (case h1 => omega); (case h2 => omega); (case h3 => omega); (case h4 => omega))
  | ((with_reducible refine w_brD ?h ?_); (case h => first | assumption | omega))
  | ((with_reducible refine w_brN ?h ?_); (case h => first | assumption | omega))
  | ((with_reducible refine w_putL (xs := ?xs) (j := ?j) ?h ?e ?_); (case h => walk_at "fact"); (case e => exact rfl))
  | ((with_reducible refine w_pop0 (ds := ?xs) (d := ?d) ?h ?_); (case h => walk_at "fact"))
  | ((with_reducible refine w_ins0 (ds := ?xs) ?h ?hl ?_); (case h => walk_at "fact"); (case hl => simp only [List.length_append, List.length_cons, List.length_nil, List.length_map]; omega))
  | with_reducible refine w_disp ?_
  | with_reducible refine w_dpcons ?_
  | with_reducible refine w_dpnil ?_
  | ((with_reducible refine w_dispk (kvs := ?kvs) ?h ?e ?l ?_); (case h => walk_at "fact"); (case e => exact rfl); (case l => exact rfl))
  | walk_at "d2"
  | with_reducible intro _)
local macro_rules | `(tactic| walk_at "d") => `(tactic| repeat' (walk_at "d1"))
local macro_rules | `(tactic| walk_at "dd") => `(tactic| repeat' (first | walk_at "d1" | walk_at "two"))
local macro_rules | `(tactic| walk_at "two") => `(tactic| first | with_reducible refine br_dec (fun _ => ?_) (fun _ => ?_) | with_reducible refine br_b (fun _ => ?_) (fun _ => ?_))
def Ans.a0 : Ans → Str
  | .is1 _ => "is" | .is2 _ _ => "is" | .short _ => "short" | .full _ => "full" | .no _ => "no" | .ok => "ok"
theorem ix_a0 {S : Sr} {Q : DK} (d : Ans) (q : Q (.str (Ans.a0 d)) S) : rIx2 d.enc (.int 0) S Q := by cases d <;> exact w_ixT rfl q
local macro_rules | `(tactic| walk_at "d2") => `(tactic| first
  | ((with_reducible show sp_l_end _ _ _ _ _); refine ⟨_, _, rfl, ?h, ?h0, ?h1, ?_⟩; (case h => walk_at "fact"); (case h0 => omega); (case h1 => omega); intro _ _ _ _ _)
  | ((with_reducible refine ix_amt _ ?_))
  | ((with_reducible refine ix_w0 _ ?_))
  | ((with_reducible refine ix_a0 _ ?_))
  | ((with_reducible refine w_getI (kvs := ?xs) ?h ?hi ?_); (case h => walk_at "fact"); (case hi => assumption)))
def sp_l_changes (K : PySem.W.Frag) : SpD := fun ds S Q _ => ∃ (d : Deed) (an : Ans), ds = [d.enc, an.enc] ∧
  ∀ p (cs : List (Str × Int)) S', Dv.Sub S S' → Fr S p → S' p = some (.lst (cs.map fun c => .tup [.str c.1, .int c.2])) → cs.length ≤ 2 → Q (.ref p) S'
def t_l_changes (K : PySem.W.Frag) : DS := (sSeq (sIf (dTest (dOp rNeD (dOp rIx2 (dVar 1) (dCon (.int 0))) (dCon (.str "is")))) (sRet (dLst dNil)) sNext)
    (sSeq (sIf (dTest (dOp rEqD (dOp rIx2 (dVar 0) (dCon (.int 0))) (dCon (.str "move")))) (sRet (dLst (dCons (dTup (dCons (dOp rIx2 (dVar 0) (dCon (.int 1))) (dCons (dUn uNeg (dOp rIx2 (dVar 0) (dCon (.int 3)))) dNil))) (dCons (dTup (dCons (dOp rIx2 (dVar 0) (dCon (.int 2))) (dCons (dOp rIx2 (dVar 0) (dCon (.int 3))) dNil))) dNil)))) sNext)
    (sRet (dLst (dCons (dTup (dCons (dOp rIx2 (dVar 0) (dUn uNeg (dCon (.int 2)))) (dCons (dOp rIx2 (dLst (dCons (dOp rIx2 (dVar 0) (dUn uNeg (dCon (.int 1)))) (dCons (dUn uNeg (dOp rIx2 (dVar 0) (dUn uNeg (dCon (.int 1))))) dNil))) (dCb rInt2 (dCons (dOp rInD (dOp rIx2 (dVar 0) (dCon (.int 0))) (dTup (dCons (dCon (.str "take")) (dCons (dCon (.str "send")) dNil)))) dNil))) dNil))) dNil)))))
theorem rd_l_changes (K : PySem.W.Frag) : ∀ ds S Q (Ed : DXK), sp_l_changes K ds S Q Ed → Opens K S (t_l_changes K (dEnd K Q) (startS N_l_changes ds)) := by
  rintro _ S Q _ ⟨d, an, rfl, q⟩
  refine Opens.here ?_
  unfold t_l_changes
  walk_at "d"
  refine w_neS ?_
  walk_at "d"
  refine br_b (fun hb => ?_) (fun hb => ?_)
  · cases d <;> dsimp only [Deed.enc, Deed.w0] <;> walk_at "d"
    · exact Opens.here (q _ [(_, _)] _ (by walk_at "sub") (by walk_at "fr") (by walk_at "fact") (by simp))
    · exact Opens.here (q _ [(_, _)] _ (by walk_at "sub") (by walk_at "fr") (by walk_at "fact") (by simp))
    · exact Opens.here (q _ [(_, _), (_, _)] _ (by walk_at "sub") (by walk_at "fr") (by walk_at "fact") (by simp))
    · exact Opens.here (q _ [(_, _)] _ (by walk_at "sub") (by walk_at "fr") (by walk_at "fact") (by simp))
    · exact Opens.here (q _ [(_, _)] _ (by walk_at "sub") (by walk_at "fr") (by walk_at "fact") (by simp))
    · exact Opens.here (q _ [(_, _)] _ (by walk_at "sub") (by walk_at "fr") (by walk_at "fact") (by simp))
  · walk_at "d"
    exact Opens.here (q _ [] _ (by walk_at "sub") (by walk_at "fr") (by walk_at "fact") (by simp))
def sp_l_changed (K : PySem.W.Frag) : SpD := fun ds S Q _ => ∃ (b : Addr) (d : Deed) (an : Ans) (n : Nat) (kvs : List (Key × DV)), ds = [.ref b, d.enc, an.enc] ∧ Book S b n kvs ∧ n ≤ 10000 ∧
  ∀ kvs' S', Kp b S S' → Book S' b (n + 2) kvs' → Q .non S'
def t_l_changed (K : PySem.W.Frag) : DS := (sFor (iL (dCall (sp_l_changes K) Ed0 (dCons (dVar 1) (dCons (dVar 2) dNil)))) (nTup 2 (nCons (nName 3) (nCons (nName 4) nNil))) (sAsg (dOp rAdd (dGet2 (dVar 0) (dVar 3) (dCon (.int 0))) (dVar 4)) (nSub (dVar 0) (dVar 3))))
theorem rd_l_changed (K : PySem.W.Frag) : ∀ ds S Q (Ed : DXK), sp_l_changed K ds S Q Ed → Opens K S (t_l_changed K (dEnd K Q) (startS N_l_changed ds)) := by
  rintro _ S Q _ ⟨b, d, an, n, kvs, rfl, B, nn, q⟩
  have hb := B.d
  refine Opens.here ?_
  unfold t_l_changed
  walk_at "d"
  refine ⟨_, _, rfl, fun p cs S1 s1 n1 h1 l1 => ?_⟩
  walk_at "d"
  refine for_mapE _ h1 (fun pre σ S' => ∃ (o3 o4 : Option DV) (kvs' : List (Key × DV)), σ = [some (.ref b), some d.enc, some an.enc, o3, o4] ∧ Kp b S1 S' ∧ Book S' b (n + pre.length) kvs') ?_ ?_ ?_ ?_
  · exact ⟨_, _, kvs, rfl, .refl, B.sub s1⟩
  · rintro pre σ S' ⟨o3, o4, kvs', rfl, k, B'⟩
    walk_at "fact"
  · rintro pre c post σ S' e ⟨o3, o4, kvs', rfl, k, B'⟩
    have hb' := B'.d
    have hi' := B'.i
    have hn' := B'.n
    have pl : pre.length + 1 ≤ cs.length := by
      have := congrArg List.length e
      simp at this; omega
    walk_at "d"
    refine w_ntup rfl ?_
    walk_at "d"
    rename_i i
    refine w_putKs (by walk_at "fact") (by omega) ?_
    walk_at "d"
    refine ⟨_, _, _, rfl, by walk_at "kp", up_same, B'.i.put _ _, ?_⟩
    have := len_pD kvs' (.inr c.1) (.int (i + c.2))
    simp only [List.length_append, List.length_cons, List.length_nil]
    omega
  · rintro σ S' ⟨o3, o4, kvs', rfl, k, B'⟩
    exact Opens.here (q kvs' _ (by walk_at "kp") ⟨B'.d, B'.i, by have := B'.n; omega⟩)
def sp_l_early (K : PySem.W.Frag) : SpD := fun ds S Q _ => ∃ (b : Addr) (d : Deed) (n : Nat) (kvs : List (Key × DV)), ds = [.ref b, d.enc] ∧ Book S b n kvs ∧
  ∀ v S', Dv.Sub S S' → (v = .non ∨ ∃ an : Ans, v = an.enc ∧ an.gd) → Q v S'
def t_l_early (K : PySem.W.Frag) : DS := (sSeq (sAsg (dOp rIx2 (dVar 1) (dUn uNeg (dCon (.int 1)))) (nName 2))
    (sSeq (sAsg (dOp rIx2 (dVar 1) (dUn uNeg (dCon (.int 2)))) (nName 3))
    (sSeq (sIf (dTest (dOp rEqD (dOp rIx2 (dVar 1) (dCon (.int 0))) (dCon (.str "move")))) (sAsg (dOp rIx2 (dVar 1) (dCon (.int 1))) (nName 3)) sNext)
    (sSeq (sAsg (dGet2 (dVar 0) (dVar 3) (dCon (.int 0))) (nName 4))
    (sSeq (sIf (dAnd (dTest (dOp rInD (dOp rIx2 (dVar 1) (dCon (.int 0))) (dTup (dCons (dCon (.str "take")) (dCons (dCon (.str "move")) (dCons (dCon (.str "send")) dNil)))))) (dTest (dOp rLt2 (dVar 4) (dVar 2)))) (sRet (dTup (dCons (dCon (.str "short")) (dCons (dVar 4) dNil)))) sNext)
    (sSeq (sIf (dAnd (dTest (dOp rInD (dOp rIx2 (dVar 1) (dCon (.int 0))) (dTup (dCons (dCon (.str "add")) (dCons (dCon (.str "fetch")) dNil))))) (dTest (dOp (rInt0 fun i j => .bl (decide (j < i))) (dOp rAdd (dVar 4) (dVar 2)) (dOp (rInt CPow fun i j => .int (i ^ j.toNat)) (dCon (.int 10)) (dCon (.int 12)))))) (sRet (dTup (dCons (dCon (.str "full")) (dCons (dVar 4) dNil)))) sNext)
    (sSeq (sIf (dAnd (dTest (dOp rEqD (dOp rIx2 (dVar 1) (dCon (.int 0))) (dCon (.str "move")))) (dTest (dOp (rInt0 fun i j => .bl (decide (j < i))) (dOp rAdd (dGet2 (dVar 0) (dOp rIx2 (dVar 1) (dCon (.int 2))) (dCon (.int 0))) (dVar 2)) (dOp (rInt CPow fun i j => .int (i ^ j.toNat)) (dCon (.int 10)) (dCon (.int 12)))))) (sRet (dTup (dCons (dCon (.str "full")) (dCons (dGet2 (dVar 0) (dOp rIx2 (dVar 1) (dCon (.int 2))) (dCon (.int 0))) dNil)))) sNext)
    (sSeq (sIf (dTest (dOp rEqD (dOp rIx2 (dVar 1) (dCon (.int 0))) (dCon (.str "move")))) (sRet (dTup (dCons (dCon (.str "is")) (dCons (dOp (rInt0 fun i j => .int (i - j)) (dVar 4) (dVar 2)) (dCons (dOp rAdd (dGet2 (dVar 0) (dOp rIx2 (dVar 1) (dCon (.int 2))) (dCon (.int 0))) (dVar 2)) dNil))))) sNext)
    (sSeq (sIf (dTest (dOp rInD (dOp rIx2 (dVar 1) (dCon (.int 0))) (dTup (dCons (dCon (.str "add")) (dCons (dCon (.str "take")) dNil))))) (sRet (dTup (dCons (dCon (.str "is")) (dCons (dOp rAdd (dVar 4) (dOp rIx2 (dLst (dCons (dVar 2) (dCons (dUn uNeg (dVar 2)) dNil))) (dCb rInt2 (dCons (dOp rEqD (dOp rIx2 (dVar 1) (dCon (.int 0))) (dCon (.str "take"))) dNil)))) dNil)))) sNext)
    (sRet (dCon .non)))))))))))
theorem rd_l_early (K : PySem.W.Frag) : ∀ ds S Q (Ed : DXK), sp_l_early K ds S Q Ed → Opens K S (t_l_early K (dEnd K Q) (startS N_l_early ds)) := by
  rintro _ S Q _ ⟨b, d, n, kvs, rfl, B, q⟩
  have hb := B.d
  have hi := B.i
  refine Opens.here ?_
  unfold t_l_early
  walk_at "d"
  cases d <;> dsimp only [Deed.enc, Deed.w0, Deed.amt] <;> walk_at "dd"
  all_goals first
    | exact Opens.here (q _ _ (by walk_at "sub") (.inl rfl))
    | exact Opens.here (q _ _ (by walk_at "sub") (.inr ⟨.short _, rfl, trivial⟩))
    | exact Opens.here (q _ _ (by walk_at "sub") (.inr ⟨.full _, rfl, trivial⟩))
    | exact Opens.here (q _ _ (by walk_at "sub") (.inr ⟨.is1 _, rfl, trivial⟩))
    | exact Opens.here (q _ _ (by walk_at "sub") (.inr ⟨.is2 _ _, rfl, trivial⟩))
def sp_l_lates (K : PySem.W.Frag) : SpD := fun ds S Q _ => ∃ (b : Addr) (d : Deed) (n : Nat) (kvs : List (Key × DV)), ds = [.ref b, d.enc] ∧ d.far = true ∧ d.ok ∧ Book S b n kvs ∧
  ∀ p (as : List Ans) S', Dv.Sub S S' → Fr S p → S' p = some (.lst (as.map Ans.enc)) → (∀ an, an ∈ as → an.gd) → 2 ≤ as.length → as.length ≤ 3 → Q (.ref p) S'
def t_l_lates (K : PySem.W.Frag) : DS := (sSeq (sIf (dTest (dOp rEqD (dOp rIx2 (dVar 1) (dCon (.int 0))) (dCon (.str "pass")))) (sRet (dLst (dCons (dTup (dCons (dCon (.str "no")) (dCons (dOp rIx2 (dVar 1) (dCon (.int 1))) dNil))) (dCons (dTup (dCons (dCon (.str "no")) (dCons (dOp rIx2 (dVar 1) (dCon (.int 2))) dNil))) (dCons (dTup (dCons (dCon (.str "ok")) dNil)) dNil))))) sNext)
    (sSeq (sAsg (dOp rAdd (dGet2 (dVar 0) (dOp rIx2 (dVar 1) (dCon (.int 2))) (dCon (.int 0))) (dOp rIx2 (dLst (dCons (dOp rIx2 (dVar 1) (dCon (.int 3))) (dCons (dUn uNeg (dOp rIx2 (dVar 1) (dCon (.int 3)))) dNil))) (dCb rInt2 (dCons (dOp rEqD (dOp rIx2 (dVar 1) (dCon (.int 0))) (dCon (.str "send"))) dNil)))) (nName 2))
    (sRet (dLst (dCons (dTup (dCons (dCon (.str "no")) (dCons (dOp rIx2 (dVar 1) (dCon (.int 1))) dNil))) (dCons (dTup (dCons (dCon (.str "is")) (dCons (dVar 2) dNil))) dNil))))))
theorem rd_l_lates (K : PySem.W.Frag) : ∀ ds S Q (Ed : DXK), sp_l_lates K ds S Q Ed → Opens K S (t_l_lates K (dEnd K Q) (startS N_l_lates ds)) := by
  rintro _ S Q _ ⟨b, d, n, kvs, rfl, far, ok, B, q⟩
  have hb := B.d
  have hi := B.i
  have nm := ok.nm
  refine Opens.here ?_
  unfold t_l_lates
  walk_at "d"
  cases d <;> first | (cases far; done) | skip
  all_goals dsimp only [Deed.enc, Deed.w0, Deed.amt]
  all_goals walk_at "d"
  · exact Opens.here (q _ [.no _, .is1 _] _ (by walk_at "sub") (by walk_at "fr") (by walk_at "fact") (by simp [Ans.gd]; exact nm _ (by simp [Deed.names])) (by simp) (by simp))
  · exact Opens.here (q _ [.no _, .is1 _] _ (by walk_at "sub") (by walk_at "fr") (by walk_at "fact") (by simp [Ans.gd]; exact nm _ (by simp [Deed.names])) (by simp) (by simp))
  · exact Opens.here (q _ [.no _, .no _, .ok] _ (by walk_at "sub") (by walk_at "fr") (by walk_at "fact") (by simp [Ans.gd]; exact ⟨nm _ (by simp [Deed.names]), nm _ (by simp [Deed.names])⟩) (by simp) (by simp))
end K72
set_option Elab.async false
set_option linter.all false
set_option maxRecDepth 100000
set_option maxHeartbeats 1000000
namespace K72
open PySem PySem.Spec PyProof.Rows L2 Dv Ty
local macro_rules | `(tactic| walk_at "sub") => `(tactic| first | with_reducible exact Sub.refl | assumption | ((with_reducible refine Sub.up2 ?_ (by assumption)); walk_at "sub") | ((with_reducible refine Sub.upF ?_ (by first | assumption | exact Sub.nn (by assumption) (by assumption))); walk_at "sub") | ((with_reducible refine Sub.trans ?_ (by assumption)); walk_at "sub") | ((with_reducible refine Kp.sub2 ?h1 (by assumption) ?h2); (case h2 => walk_at "fr"); (case h1 => walk_at "sub")))
local macro_rules | `(tactic| walk_at "kp") => `(tactic| first | exact Kp.refl | assumption | ((with_reducible refine Kp.set ?_); walk_at "kp") | ((with_reducible refine Kp.up2 ?_ (by assumption)); walk_at "kp") | ((with_reducible refine Kp.upF ?_ ?h); (case h => walk_at "fr"); walk_at "kp") | ((with_reducible refine Kp.sub ?_ (by assumption)); walk_at "kp") | ((with_reducible refine Kp.trans ?_ (by assumption)); walk_at "kp") | ((with_reducible refine Kp.tr2 ?h1 (by assumption) ?h2); (case h2 => walk_at "fr"); (case h1 => walk_at "kp")) | (refine Kp.of ?_; walk_at "sub"))
local macro_rules | `(tactic| walk_at "keep") => `(tactic| first | with_reducible exact Keep.refl | assumption | ((with_reducible refine Keep.up2 ?_ (by assumption)); walk_at "keep") | ((with_reducible refine Keep.sub ?_ (by assumption)); walk_at "keep") | ((with_reducible refine Keep.trans ?_ (by assumption)); walk_at "keep"))
local macro_rules | `(tactic| walk_at "ne") => `(tactic| first | assumption | (apply Ne.symm; assumption) | ((with_reducible refine sneF (S := ?S) (o := ?o) ?h1 ?h2); (case h2 => assumption); (case h1 => walk_at "fact")) | ((with_reducible refine Ne.symm (sneF (S := ?S) (o := ?o) ?h1 ?h2)); (case h2 => assumption); (case h1 => walk_at "fact")))
local macro_rules | `(tactic| walk_at "fact") => `(tactic| first | assumption | exact up_same | ((with_reducible refine up_at (by assumption) ?_); walk_at "fact") | ((with_reducible refine up_at2 ?h ?_); (case h => walk_at "ne"); walk_at "fact") | ((with_reducible refine Sub.at (by assumption) ?_); walk_at "fact") | ((with_reducible refine Kp.at (by assumption) ?h ?_); (case h => walk_at "ne"); walk_at "fact"))
local macro_rules | `(tactic| walk_at "sok") => `(tactic| first | assumption | (refine sOk_lit ?_; decide +kernel) | ((with_reducible refine sOk.cut ?_ _ _); walk_at "sok") | ((with_reducible refine sOk.app (n := ?n) (m := ?m) ?h1 ?h2); (case h1 => walk_at "sok"); (case h2 => walk_at "sok")))
local macro_rules | `(tactic| walk_at "fr") => `(tactic| first | assumption | ((refine Sub.nn (S' := ?S') ?h1 ?h2); (case h2 => assumption); (case h1 => walk_at "sub")))
local macro_rules | `(tactic| walk_at "len") => `(tactic| first | (refine sOk.le (n := ?n) ?h1 ?h2; (case h1 => walk_at "sok"); (case h2 => decide)) | omega | decide +kernel)
local macro_rules | `(tactic| walk_at "ints") => `(tactic| first | exact all_nil | (refine all_cons ⟨_, rfl, by omega, by omega⟩ ?_; walk_at "ints") | (refine all_cons ⟨_, rfl⟩ ?_; walk_at "ints"))
local macro_rules | `(tactic| walk_at "d2") => `(tactic| fail "d2")
local macro_rules | `(tactic| walk_at "d1") => `(tactic| first
  | with_reducible refine w_seqE ?_
  | with_reducible refine w_retE ?_
  | with_reducible refine w_nextE ?_
  | with_reducible refine w_rtE ?_
  | with_reducible refine w_nxE ?_
  | with_reducible refine w_asgE ?_
  | with_reducible refine w_dropE ?_
  | with_reducible refine w_retNE ?_
  | with_reducible refine w_seq ?_
  | ((with_reducible refine w_var (d := ?d) ?h ?_); (case h => exact rfl))
  | with_reducible refine w_con ?_
  | with_reducible refine w_cons ?_
  | with_reducible refine w_nil ?_
  | with_reducible refine w_op ?_
  | with_reducible refine w_call ?_
  | with_reducible refine w_asg ?_
  | with_reducible refine w_name ?_
  | with_reducible refine w_ret ?_
  | with_reducible refine w_retE ?_
  | with_reducible refine w_if ?_
  | with_reducible refine w_test ?_
  | with_reducible refine w_tk ?_
  | with_reducible refine w_seqE ?_
  | with_reducible refine w_drop ?_
  | with_reducible refine w_next ?_
  | with_reducible refine w_nextE ?_
  | with_reducible refine w_nx ?_
  | with_reducible refine w_ct ?_
  | with_reducible refine w_rt ?_
  | with_reducible refine w_rtE ?_
  | with_reducible refine w_nxE ?_
  | with_reducible refine w_bk ?_
  | with_reducible refine w_retN ?_
  | with_reducible refine w_retNE ?_
  | with_reducible refine w_asgE ?_
  | with_reducible refine w_dropE ?_
  | with_reducible refine w_cont ?_
  | with_reducible refine w_break ?_
  | with_reducible refine w_for ?_
  | with_reducible refine w_lc ?_
  | with_reducible refine w_iL ?_
  | with_reducible refine w_iT ?_
  | with_reducible refine w_iE ?_
  | with_reducible refine w_iR1 ?_
  | with_reducible refine w_iR2 ?_
  | with_reducible refine w_iR3 ?_
  | with_reducible refine w_tkI ?_
  | with_reducible refine w_and ?_
  | with_reducible refine w_or ?_
  | with_reducible refine w_not ?_
  | with_reducible refine w_yes ?_
  | with_reducible refine w_andV ?_
  | with_reducible refine w_orV ?_
  | with_reducible refine w_notV ?_
  | with_reducible refine w_ifE ?_
  | with_reducible refine w_un ?_
  | with_reducible refine w_neg ?_
  | with_reducible refine w_tup ?_
  | with_reducible refine w_lst ?_
  | ((with_reducible refine w_tupk ?h ?_); (case h => exact rfl))
  | ((with_reducible refine w_lstk ?h ?_); (case h => exact rfl))
  | with_reducible refine w_int0 ?_
  | with_reducible refine w_addI ?_
  | with_reducible refine w_cb ?_
  | with_reducible refine w_sl ?_
  | with_reducible refine w_no ?_
  | with_reducible refine w_part ?_
  | with_reducible refine w_partk ?_
  | with_reducible refine w_bm ?_
  | with_reducible refine w_bmS ?_
  | with_reducible refine w_get2 ?_
  | with_reducible refine w_newK ?_
  | with_reducible refine w_isi ?_
  | with_reducible refine w_nnil ?_
  | with_reducible refine w_ncons ?_
  | with_reducible refine w_nsub ?_
  | with_reducible refine w_brT ?_
  | with_reducible refine w_brF ?_
  | with_reducible refine w_brB ?_
  | with_reducible refine w_ltI ?_
  | with_reducible refine w_ltS ?_
  | with_reducible refine w_eqI ?_
  | with_reducible refine w_neI ?_
  | with_reducible refine w_neB ?_
  | with_reducible refine w_isN ?_
  | with_reducible refine w_isT ?_
  | with_reducible refine w_isI ?_
  | with_reducible refine w_isS ?_
  | with_reducible refine w_isR ?_
  | with_reducible refine w_ntN ?_
  | with_reducible refine w_ntT ?_
  | with_reducible refine w_ntI ?_
  | with_reducible refine w_ntS ?_
  | with_reducible refine w_ntR ?_
  | with_reducible refine w_slT ?_
  | with_reducible refine w_lenT ?_
  | with_reducible refine w_intI ?_
  | with_reducible refine w_intB ?_
  | with_reducible refine w_max ?_
  | with_reducible refine w_min ?_
  | with_reducible refine w_abs ?_
  | with_reducible refine w_pow12 ?_
  | with_reducible refine w_pow18 ?_
  | with_reducible refine w_pow9 ?_
  | with_reducible refine w_pow10 ?_
  | with_reducible refine w_pow11 ?_
  | ((with_reducible refine w_mod ?h ?_); (case h => omega))
  | ((with_reducible refine w_mulL ?h1 ?h2 ?_); (case h1 => omega); (case h2 => omega))
  | ((with_reducible refine w_mulR ?h1 ?h2 ?_); (case h1 => omega); (case h2 => omega))
  | ((with_reducible refine w_fdiv ?h1 ?h2 ?_); (case h1 => omega); (case h2 => omega))
  | ((with_reducible refine w_ixT (z := ?z) ?h ?_); (case h => exact rfl))
  | ((with_reducible refine w_ixL (xs := ?xs) (z := ?z) ?h ?e ?_); (case h => walk_at "fact"); (case e => exact rfl))
  | ((with_reducible refine w_draw ?h ?h0 ?h1 ?_); (case h => walk_at "fact"); (case h0 => omega); (case h1 => omega))
  | ((with_reducible refine w_lenLS (ws := ?xs) ?h ?_); (case h => walk_at "fact"))
  | ((with_reducible refine w_lenL (xs := ?xs) ?h ?_); (case h => walk_at "fact"))
  | ((with_reducible refine w_bmL (ds := ?xs) ?h ?_); (case h => walk_at "fact"))
  | ((with_reducible refine w_app (ds := ?xs) ?h ?hl ?_); (case h => walk_at "fact"); (case hl => simp only [List.length_append, List.length_cons, List.length_nil, List.length_map]; omega))
  | ((with_reducible refine w_addT ?h ?_); (case h => exact rfl))
  | ((with_reducible refine w_addS2 (n := ?n) (m := ?m) ?h1 ?h2 ?h ?_); (case h1 => walk_at "sok"); (case h2 => walk_at "sok"); (case h => exact rfl))
  | ((with_reducible refine w_slS ?h ?_); (case h => walk_at "len"))
  | ((with_reducible refine w_lenS ?h ?_); (case h => walk_at "len"))
  | ((with_reducible refine w_slL (xs := ?xs) ?h ?_); (case h => walk_at "fact"))
  | ((with_reducible refine w_listR (xs := ?xs) ?h ?_); (case h => walk_at "fact"))
  | ((with_reducible refine w_gk (kvs := ?xs) ?h ?_); (case h => walk_at "fact"))
  | ((with_reducible refine w_eqSt ?h ?_); (case h => decide +kernel))
  | ((with_reducible refine w_eqSf ?h ?_); (case h => decide +kernel))
  | ((with_reducible refine w_neSt ?h ?_); (case h => decide +kernel))
  | ((with_reducible refine w_neSf ?h ?_); (case h => decide +kernel))
  | ((with_reducible refine w_inT (k := true) ?h1 ?h2 ?h3 ?_); (case h1 => exact rfl); (case h2 => exact rfl); (case h3 => decide +kernel))
  | ((with_reducible refine w_inT (k := false) ?h1 ?h2 ?h3 ?_); (case h1 => exact rfl); (case h2 => exact rfl); (case h3 => decide +kernel))
  | ((with_reducible refine w_r1 ?h1 ?h2 ?_); (case h1 => omega); (case h2 => omega))
  | ((with_reducible refine w_r2 ?h1 ?h2 ?h3 ?h4 ?_); (case h1 => omega); (case h2 => omega); (case h3 => omega); (case h4 => omega))
  | ((with_reducible refine w_r3 ?h1 ?h2 ?h3 ?h4 ?_); (case h1 => omega); (case h2 => omega); (case h3 => omega); (case h4 => omega))
  | ((with_reducible refine w_brD ?h ?_); (case h => first | assumption | omega))
  | ((with_reducible refine w_brN ?h ?_); (case h => first | assumption | omega))
  | ((with_reducible refine w_putL (xs := ?xs) (j := ?j) ?h ?e ?_); (case h => walk_at "fact"); (case e => exact rfl))
  | ((with_reducible refine w_pop0 (ds := ?xs) (d := ?d) ?h ?_); (case h => walk_at "fact"))
  | ((with_reducible refine w_ins0 (ds := ?xs) ?h ?hl ?_); (case h => walk_at "fact"); (case hl => simp only [List.length_append, List.length_cons, List.length_nil, List.length_map]; omega))
  | with_reducible refine w_disp ?_
  | with_reducible refine w_dpcons ?_
  | with_reducible refine w_dpnil ?_
  | ((with_reducible refine w_dispk (kvs := ?kvs) ?h ?e ?l ?_); (case h => walk_at "fact"); (case e => exact rfl); (case l => exact rfl))
  | walk_at "d2"
  | with_reducible intro _)
local macro_rules | `(tactic| walk_at "d") => `(tactic| repeat' (walk_at "d1"))
local macro_rules | `(tactic| walk_at "dd") => `(tactic| repeat' (first | walk_at "d1" | walk_at "two"))
local macro_rules | `(tactic| walk_at "two") => `(tactic| first | with_reducible refine br_dec (fun _ => ?_) (fun _ => ?_) | with_reducible refine br_b (fun _ => ?_) (fun _ => ?_))
local macro_rules | `(tactic| walk_at "d2") => `(tactic| first
  | ((with_reducible show sp_l_end _ _ _ _ _); refine ⟨_, _, rfl, ?h, ?h0, ?h1, ?_⟩; (case h => walk_at "fact"); (case h0 => omega); (case h1 => omega); intro _ _ _ _ _)
  | ((with_reducible refine ix_amt _ ?_))
  | ((with_reducible refine ix_w0 _ ?_))
  | ((with_reducible refine ix_a0 _ ?_))
  | ((with_reducible refine w_getI (kvs := ?xs) ?h ?hi ?_); (case h => walk_at "fact"); (case hi => assumption)))
theorem sized_ok {d : Deed} (h : d.ok) {x : Int} (h1 : 1 ≤ x) (h2 : x ≤ 1000000000000) : (d.sized x).ok := by
  have nm := h.nm
  cases d <;> exact ⟨h1, h2, nm⟩
theorem inF_far (d : Deed) : inF (.str d.w0) [.str "send", .str "fetch", .str "pass"] = d.far := by cases d <;> (dsimp only [Deed.w0, Deed.far]; decide +kernel)
theorem ix_mv {S : Sr} {Q : DK} {n o : Str} {a k : Int} (h0 : 0 ≤ k) (h1 : k < 2) (q : ∀ w, Q (.str w) S) : rIx2 (.tup [.str "move", .str n, .str o, .int a]) (.int (1 + k)) S Q := by
  have e : k = 0 ∨ k = 1 := by omega
  rcases e with rfl | rfl <;> exact w_ixT rfl (q _)
def sp_l_sized (K : PySem.W.Frag) : SpD := fun ds S Q _ => ∃ (a b : Addr) (d : Deed) (n : Nat) (kvs : List (Key × DV)), ds = [.ref a, .ref b, d.enc] ∧ S a = some (deckB K) ∧ d.ok ∧ Book S b n kvs ∧
  ∀ (d' : Deed) S', Dv.Sub S S' → d'.ok → Q d'.enc S'
def t_l_sized (K : PySem.W.Frag) : DS := (sSeq (sAsg (dOp rIx2 (dVar 2) (dUn uNeg (dCon (.int 2)))) (nName 3))
    (sSeq (sIf (dTest (dOp rEqD (dOp rIx2 (dVar 2) (dCon (.int 0))) (dCon (.str "move")))) (sAsg (dOp rIx2 (dVar 2) (dOp rAdd (dCon (.int 1)) (dCall (sp_l_draw K) Ed0 (dCons (dVar 0) (dCons (dCon (.int 2)) dNil))))) (nName 3)) sNext)
    (sSeq (sAsg (dGet2 (dVar 1) (dVar 3) (dCon (.int 0))) (nName 4))
    (sSeq (sAsg (dLst (dCons (dOp rIx2 (dVar 2) (dUn uNeg (dCon (.int 1)))) (dCons (dOp rAdd (dCon (.int 1)) (dCall (sp_l_draw K) Ed0 (dCons (dVar 0) (dCons (dCon (.int 9)) dNil)))) (dCons (dVar 4) (dCons (dOp rAdd (dVar 4) (dCon (.int 1))) (dCons (dOp (rInt0 fun i j => .int (i - j)) (dOp (rInt CPow fun i j => .int (i ^ j.toNat)) (dCon (.int 10)) (dCon (.int 12))) (dVar 4)) (dCons (dOp rAdd (dOp (rInt0 fun i j => .int (i - j)) (dOp (rInt CPow fun i j => .int (i ^ j.toNat)) (dCon (.int 10)) (dCon (.int 12))) (dVar 4)) (dCon (.int 1))) dNil))))))) (nName 5))
    (sSeq (sAsg (dOp rIx2 (dVar 5) (dCall (sp_l_draw K) Ed0 (dCons (dVar 0) (dCons (dCon (.int 6)) dNil)))) (nName 6))
    (sRet (dOp rAdd (dSl (dVar 2) dNo (dPart (dUn uNeg (dCon (.int 1))))) (dTup (dCons (dCb rMax2 (dCons (dCon (.int 1)) (dCons (dCb rMin2 (dCons (dOp (rInt CPow fun i j => .int (i ^ j.toNat)) (dCon (.int 10)) (dCon (.int 12))) (dCons (dVar 6) dNil))) dNil))) dNil)))))))))
theorem rd_l_sized (K : PySem.W.Frag) : ∀ ds S Q (Ed : DXK), sp_l_sized K ds S Q Ed → Opens K S (t_l_sized K (dEnd K Q) (startS N_l_sized ds)) := by
  rintro _ S Q _ ⟨a, b, d, n, kvs, rfl, ha, ok, B, q⟩
  have hb := B.d
  have hi := B.i
  have lo := ok.lo
  have hi2 := ok.hi
  have fin : ∀ x, 1 ≤ x → x ≤ 1000000000000 → (d.sized x).ok := fun x h1 h2 => sized_ok ok h1 h2
  refine Opens.here ?_
  unfold t_l_sized
  cases d <;> dsimp only [Deed.enc, Deed.w0, Deed.amt] at lo hi2 ⊢ <;> walk_at "d"
  case' move =>
    rename_i n' o' amt k hk0 hk1
    refine ix_mv hk0 hk1 fun w => ?_
    walk_at "d"
  all_goals
    refine pickZ (by walk_at "fact") (by assumption) (by simp only [List.length_cons, List.length_nil]; omega) (all_cons ⟨_, rfl⟩ (all_cons ⟨_, rfl⟩ (all_cons ⟨_, rfl⟩ (all_cons ⟨_, rfl⟩ (all_cons ⟨_, rfl⟩ (all_cons ⟨_, rfl⟩ all_nil)))))) fun x => ?_
    walk_at "d"
    exact Opens.here (q (Deed.sized _ _) _ (by walk_at "sub") (fin _ (by split <;> omega) (by split <;> split <;> omega)))
theorem isN_ans {S : Sr} {Q : DK} (an : Ans) (q : Q (.bl false) S) : rIsN an.enc .non S Q := by cases an <;> exact q
def sp_l_right (K : PySem.W.Frag) : SpD := fun ds S Q _ => ∃ (a b o : Addr) (m : Int) (d : Deed) (asked : Bool) (n : Nat) (kvs : List (Key × DV)), ds = [.ref a, .ref b, .ref o] ∧ S a = some (deckB K) ∧ d.ok ∧ Book S b n kvs ∧ S o = some (.lst [.int m, d.enc, .bl asked]) ∧ (asked = true → d.far = true) ∧
  ∀ v S', Dv.Sub S S' → (v = .non ∨ ∃ an : Ans, v = an.enc ∧ an.gd) → Q v S'
def t_l_right (K : PySem.W.Frag) : DS := (sSeq (sAsg (dCall (sp_l_early K) Ed0 (dCons (dVar 1) (dCons (dOp rIx2 (dVar 2) (dCon (.int 1))) dNil))) (nName 3))
    (sSeq (sAsg (dOp rInD (dOp rIx2 (dOp rIx2 (dVar 2) (dCon (.int 1))) (dCon (.int 0))) (dTup (dCons (dCon (.str "send")) (dCons (dCon (.str "fetch")) (dCons (dCon (.str "pass")) dNil))))) (nName 4))
    (sSeq (sIf (dAnd (dTest (dOp rIx2 (dVar 2) (dCon (.int 2)))) (dTest (dOp rIsN (dVar 3) (dCon .non)))) (sSeq (sAsg (dCall (sp_l_lates K) Ed0 (dCons (dVar 1) (dCons (dOp rIx2 (dVar 2) (dCon (.int 1))) dNil))) (nName 5))
    (sRet (dOp rIx2 (dVar 5) (dCall (sp_l_draw K) Ed0 (dCons (dVar 0) (dCons (dCb rLen2 (dCons (dVar 5) dNil)) dNil)))))) sNext)
    (sSeq (sIf (dOr (dTest (dOp rIx2 (dVar 2) (dCon (.int 2)))) (dAnd (dTest (dOp rIsN (dVar 3) (dCon .non))) (dTest (dVar 4)))) (sRet (dCon .non)) sNext)
    (sRet (dVar 3))))))
theorem rd_l_right (K : PySem.W.Frag) : ∀ ds S Q (Ed : DXK), sp_l_right K ds S Q Ed → Opens K S (t_l_right K (dEnd K Q) (startS N_l_right ds)) := by
  rintro _ S Q _ ⟨a, b, o, m, d, asked, n, kvs, rfl, ha, ok, B, ho, af, q⟩
  refine Opens.here ?_
  unfold t_l_right
  walk_at "d"
  refine ⟨_, _, _, _, rfl, B, fun v S1 s1 hv => ?_⟩
  walk_at "d"
  refine w_inT (k := d.far) rfl rfl (inF_far d) ?_
  walk_at "d"
  have hb1 := (B.sub s1).d
  cases asked
  · walk_at "d"
    rcases hv with rfl | ⟨an, rfl, ga⟩
    · walk_at "dd"
      · exact Opens.here (q _ _ (by walk_at "sub") (.inl rfl))
      · exact Opens.here (q _ _ (by walk_at "sub") (.inl rfl))
    · refine isN_ans an ?_
      walk_at "d"
      exact Opens.here (q _ _ (by walk_at "sub") (.inr ⟨an, rfl, ga⟩))
  · walk_at "d"
    rcases hv with rfl | ⟨an, rfl, ga⟩
    · walk_at "d"
      refine ⟨_, _, _, _, rfl, af rfl, ok, B.sub (by walk_at "sub"), fun p as S2 s2 n2 h2 g2 l2 l3 => ?_⟩
      have l4 : (as.map Ans.enc).length = as.length := List.length_map ..
      walk_at "d"
      refine pick (fun x => ∃ an : Ans, x = an.enc ∧ an.gd) (by walk_at "fact") (by assumption) (by assumption) ?_ ?_
      · intro x hx
        obtain ⟨an, ha, rfl⟩ := List.mem_map.mp hx
        exact ⟨an, rfl, g2 an ha⟩
      · rintro _ ⟨an, rfl, ga⟩
        exact Opens.here (q _ _ (by walk_at "sub") (.inr ⟨an, rfl, ga⟩))
    · refine isN_ans an ?_
      walk_at "d"
      exact Opens.here (q _ _ (by walk_at "sub") (.inl rfl))
end K72
set_option Elab.async false
set_option linter.all false
set_option maxRecDepth 100000
set_option maxHeartbeats 1000000
namespace K72
open PySem PySem.Spec PyProof.Rows L2 Dv Ty
local macro_rules | `(tactic| walk_at "sub") => `(tactic| first | with_reducible exact Sub.refl | assumption | ((with_reducible refine Sub.up2 ?_ (by assumption)); walk_at "sub") | ((with_reducible refine Sub.upF ?_ (by first | assumption | exact Sub.nn (by assumption) (by assumption))); walk_at "sub") | ((with_reducible refine Sub.trans ?_ (by assumption)); walk_at "sub") | ((with_reducible refine Kp.sub2 ?h1 (by assumption) ?h2); (case h2 => walk_at "fr"); (case h1 => walk_at "sub")))
local macro_rules | `(tactic| walk_at "kp") => `(tactic| first | exact Kp.refl | assumption | ((with_reducible refine Kp.set ?_); walk_at "kp") | ((with_reducible refine Kp.up2 ?_ (by assumption)); walk_at "kp") | ((with_reducible refine Kp.upF ?_ ?h); (case h => walk_at "fr"); walk_at "kp") | ((with_reducible refine Kp.sub ?_ (by assumption)); walk_at "kp") | ((with_reducible refine Kp.trans ?_ (by assumption)); walk_at "kp") | ((with_reducible refine Kp.tr2 ?h1 (by assumption) ?h2); (case h2 => walk_at "fr"); (case h1 => walk_at "kp")) | (refine Kp.of ?_; walk_at "sub"))
local macro_rules | `(tactic| walk_at "keep") => `(tactic| first | with_reducible exact Keep.refl | assumption | ((with_reducible refine Keep.up2 ?_ (by assumption)); walk_at "keep") | ((with_reducible refine Keep.sub ?_ (by assumption)); walk_at "keep") | ((with_reducible refine Keep.trans ?_ (by assumption)); walk_at "keep"))
local macro_rules | `(tactic| walk_at "ne") => `(tactic| first | assumption | (apply Ne.symm; assumption) | ((with_reducible refine sneF (S := ?S) (o := ?o) ?h1 ?h2); (case h2 => assumption); (case h1 => walk_at "fact")) | ((with_reducible refine Ne.symm (sneF (S := ?S) (o := ?o) ?h1 ?h2)); (case h2 => assumption); (case h1 => walk_at "fact")))
local macro_rules | `(tactic| walk_at "fact") => `(tactic| first | assumption | exact up_same | ((with_reducible refine up_at (by assumption) ?_); walk_at "fact") | ((with_reducible refine up_at2 ?h ?_); (case h => walk_at "ne"); walk_at "fact") | ((with_reducible refine Sub.at (by assumption) ?_); walk_at "fact") | ((with_reducible refine Kp.at (by assumption) ?h ?_); (case h => walk_at "ne"); walk_at "fact"))
local macro_rules | `(tactic| walk_at "sok") => `(tactic| first | assumption | (refine sOk_lit ?_; decide +kernel) | ((with_reducible refine sOk.cut ?_ _ _); walk_at "sok") | ((with_reducible refine sOk.app (n := ?n) (m := ?m) ?h1 ?h2); (case h1 => walk_at "sok"); (case h2 => walk_at "sok")))
local macro_rules | `(tactic| walk_at "fr") => `(tactic| first | assumption | ((refine Sub.nn (S' := ?S') ?h1 ?h2); (case h2 => assumption); (case h1 => walk_at "sub")))
local macro_rules | `(tactic| walk_at "len") => `(tactic| first | (refine sOk.le (n := ?n) ?h1 ?h2; (case h1 => walk_at "sok"); (case h2 => decide)) | omega | decide +kernel)
local macro_rules | `(tactic| walk_at "ints") => `(tactic| first | exact all_nil | (refine all_cons ⟨_, rfl, by omega, by omega⟩ ?_; walk_at "ints") | (refine all_cons ⟨_, rfl⟩ ?_; walk_at "ints"))
local macro_rules | `(tactic| walk_at "d2") => `(tactic| fail "d2")
local macro_rules | `(tactic| walk_at "d1") => `(tactic| first
  | with_reducible refine w_seqE ?_
  | with_reducible refine w_retE ?_
  | with_reducible refine w_nextE ?_
  | with_reducible refine w_rtE ?_
  | with_reducible refine w_nxE ?_
  | with_reducible refine w_asgE ?_
  | with_reducible refine w_dropE ?_
  | with_reducible refine w_retNE ?_
  | with_reducible refine w_seq ?_
  | ((with_reducible refine w_var (d := ?d) ?h ?_); (case h => exact rfl))
  | with_reducible refine w_con ?_
  | with_reducible refine w_cons ?_
  | with_reducible refine w_nil ?_
  | with_reducible refine w_op ?_
  | with_reducible refine w_call ?_
  | with_reducible refine w_asg ?_
  | with_reducible refine w_name ?_
  | with_reducible refine w_ret ?_
  | with_reducible refine w_retE ?_
  | with_reducible refine w_if ?_
  | with_reducible refine w_test ?_
  | with_reducible refine w_tk ?_
  | with_reducible refine w_seqE ?_
  | with_reducible refine w_drop ?_
  | with_reducible refine w_next ?_
  | with_reducible refine w_nextE ?_
  | with_reducible refine w_nx ?_
  | with_reducible refine w_ct ?_
  | with_reducible refine w_rt ?_
  | with_reducible refine w_rtE ?_
  | with_reducible refine w_nxE ?_
  | with_reducible refine w_bk ?_
  | with_reducible refine w_retN ?_
  | with_reducible refine w_retNE ?_
  | with_reducible refine w_asgE ?_
  | with_reducible refine w_dropE ?_
  | with_reducible refine w_cont ?_
  | with_reducible refine w_break ?_
  | with_reducible refine w_for ?_
  | with_reducible refine w_lc ?_
  | with_reducible refine w_iL ?_
  | with_reducible refine w_iT ?_
  | with_reducible refine w_iE ?_
  | with_reducible refine w_iR1 ?_
  | with_reducible refine w_iR2 ?_
  | with_reducible refine w_iR3 ?_
  | with_reducible refine w_tkI ?_
  | with_reducible refine w_and ?_
  | with_reducible refine w_or ?_
  | with_reducible refine w_not ?_
  | with_reducible refine w_yes ?_
  | with_reducible refine w_andV ?_
  | with_reducible refine w_orV ?_
  | with_reducible refine w_notV ?_
  | with_reducible refine w_ifE ?_
  | with_reducible refine w_un ?_
  | with_reducible refine w_neg ?_
  | with_reducible refine w_tup ?_
  | with_reducible refine w_lst ?_
  | ((with_reducible refine w_tupk ?h ?_); (case h => exact rfl))
  | ((with_reducible refine w_lstk ?h ?_); (case h => exact rfl))
  | with_reducible refine w_int0 ?_
  | with_reducible refine w_addI ?_
  | with_reducible refine w_cb ?_
  | with_reducible refine w_sl ?_
  | with_reducible refine w_no ?_
  | with_reducible refine w_part ?_
  | with_reducible refine w_partk ?_
  | with_reducible refine w_bm ?_
  | with_reducible refine w_bmS ?_
  | with_reducible refine w_get2 ?_
  | with_reducible refine w_newK ?_
  | with_reducible refine w_isi ?_
  | with_reducible refine w_nnil ?_
  | with_reducible refine w_ncons ?_
  | with_reducible refine w_nsub ?_
  | with_reducible refine w_brT ?_
  | with_reducible refine w_brF ?_
  | with_reducible refine w_brB ?_
  | with_reducible refine w_ltI ?_
  | with_reducible refine w_ltS ?_
  | with_reducible refine w_eqI ?_
  | with_reducible refine w_neI ?_
  | with_reducible refine w_neB ?_
  | with_reducible refine w_isN ?_
  | with_reducible refine w_isT ?_
  | with_reducible refine w_isI ?_
  | with_reducible refine w_isS ?_
  | with_reducible refine w_isR ?_
  | with_reducible refine w_ntN ?_
  | with_reducible refine w_ntT ?_
  | with_reducible refine w_ntI ?_
  | with_reducible refine w_ntS ?_
  | with_reducible refine w_ntR ?_
  | with_reducible refine w_slT ?_
  | with_reducible refine w_lenT ?_
  | with_reducible refine w_intI ?_
  | with_reducible refine w_intB ?_
  | with_reducible refine w_max ?_
  | with_reducible refine w_min ?_
  | with_reducible refine w_abs ?_
  | with_reducible refine w_pow12 ?_
  | with_reducible refine w_pow18 ?_
  | with_reducible refine w_pow9 ?_
  | with_reducible refine w_pow10 ?_
  | with_reducible refine w_pow11 ?_
  | ((with_reducible refine w_mod ?h ?_); (case h => omega))
  | ((with_reducible refine w_mulL ?h1 ?h2 ?_); (case h1 => omega); (case h2 => omega))
  | ((with_reducible refine w_mulR ?h1 ?h2 ?_); (case h1 => omega); (case h2 => omega))
  | ((with_reducible refine w_fdiv ?h1 ?h2 ?_); (case h1 => omega); (case h2 => omega))
  | ((with_reducible refine w_ixT (z := ?z) ?h ?_); (case h => exact rfl))
  | ((with_reducible refine w_ixL (xs := ?xs) (z := ?z) ?h ?e ?_); (case h => walk_at "fact"); (case e => exact rfl))
  | ((with_reducible refine w_draw ?h ?h0 ?h1 ?_); (case h => walk_at "fact"); (case h0 => omega); (case h1 => omega))
  | ((with_reducible refine w_lenLS (ws := ?xs) ?h ?_); (case h => walk_at "fact"))
  | ((with_reducible refine w_lenL (xs := ?xs) ?h ?_); (case h => walk_at "fact"))
  | ((with_reducible refine w_bmL (ds := ?xs) ?h ?_); (case h => walk_at "fact"))
  | ((with_reducible refine w_app (ds := ?xs) ?h ?hl ?_); (case h => walk_at "fact"); (case hl => simp only [List.length_append, List.length_cons, List.length_nil, List.length_map]; omega))
  | ((with_reducible refine w_addT ?h ?_); (case h => exact rfl))
  | ((with_reducible refine w_addS2 (n := ?n) (m := ?m) ?h1 ?h2 ?h ?_); (case h1 => walk_at "sok"); (case h2 => walk_at "sok"); (case h => exact rfl))
  | ((with_reducible refine w_slS ?h ?_); (case h => walk_at "len"))
  | ((with_reducible refine w_lenS ?h ?_); (case h => walk_at "len"))
  | ((with_reducible refine w_slL (xs := ?xs) ?h ?_); (case h => walk_at "fact"))
  | ((with_reducible refine w_listR (xs := ?xs) ?h ?_); (case h => walk_at "fact"))
  | ((with_reducible refine w_gk (kvs := ?xs) ?h ?_); (case h => walk_at "fact"))
  | ((with_reducible refine w_eqSt ?h ?_); (case h => decide +kernel))
  | ((with_reducible refine w_eqSf ?h ?_); (case h => decide +kernel))
  | ((with_reducible refine w_neSt ?h ?_); (case h => decide +kernel))
  | ((with_reducible refine w_neSf ?h ?_); (case h => decide +kernel))
  | ((with_reducible refine w_inT (k := true) ?h1 ?h2 ?h3 ?_); (case h1 => exact rfl); (case h2 => exact rfl); (case h3 => decide +kernel))
  | ((with_reducible refine w_inT (k := false) ?h1 ?h2 ?h3 ?_); (case h1 => exact rfl); (case h2 => exact rfl); (case h3 => decide +kernel))
  | ((with_reducible refine w_r1 ?h1 ?h2 ?_); (case h1 => omega); (case h2 => omega))
  | ((with_reducible refine w_r2 ?h1 ?h2 ?h3 ?h4 ?_); (case h1 => omega); (case h2 => omega); (case h3 => omega); (case h4 => omega))
  | ((with_reducible refine w_r3 ?h1 ?h2 ?h3 ?h4 ?_); (case h1 => omega); (case h2 => omega); (case h3 => omega); (case h4 => omega))
  | ((with_reducible refine w_brD ?h ?_); (case h => first | assumption | omega))
  | ((with_reducible refine w_brN ?h ?_); (case h => first | assumption | omega))
  | ((with_reducible refine w_putL (xs := ?xs) (j := ?j) ?h ?e ?_); (case h => walk_at "fact"); (case e => exact rfl))
  | ((with_reducible refine w_pop0 (ds := ?xs) (d := ?d) ?h ?_); (case h => walk_at "fact"))
  | ((with_reducible refine w_ins0 (ds := ?xs) ?h ?hl ?_); (case h => walk_at "fact"); (case hl => simp only [List.length_append, List.length_cons, List.length_nil, List.length_map]; omega))
  | with_reducible refine w_disp ?_
  | with_reducible refine w_dpcons ?_
  | with_reducible refine w_dpnil ?_
  | ((with_reducible refine w_dispk (kvs := ?kvs) ?h ?e ?l ?_); (case h => walk_at "fact"); (case e => exact rfl); (case l => exact rfl))
  | walk_at "d2"
  | with_reducible intro _)
local macro_rules | `(tactic| walk_at "d") => `(tactic| repeat' (walk_at "d1"))
local macro_rules | `(tactic| walk_at "dd") => `(tactic| repeat' (first | walk_at "d1" | walk_at "two"))
local macro_rules | `(tactic| walk_at "two") => `(tactic| first | with_reducible refine br_dec (fun _ => ?_) (fun _ => ?_) | with_reducible refine br_b (fun _ => ?_) (fun _ => ?_))
def Rw.w0 : Rw → Str
  | .next .. => "next" | .has .. => "has" | .kept .. => "kept" | .came .. => "came" | .asked .. => "asked" | .done .. => "done"
theorem ix_r0 {S : Sr} {Q : DK} (d : Rw) (q : Q (.str (Rw.w0 d)) S) : rIx2 d.enc (.int 0) S Q := by cases d <;> exact w_ixT rfl q
theorem w_far {S : Sr} {Q : DK} {d : Deed} (q : Q (.bl d.far) S) : rInD (.str d.w0) (.tup [.str "send", .str "fetch", .str "pass"]) S Q := w_inT (k := d.far) rfl rfl (inF_far d) q
theorem nt_ans {S : Sr} {Q : DK} {an : Ans} (q : Q (.bl true) S) : rNotN an.enc .non S Q := by cases an <;> exact q
local macro_rules | `(tactic| walk_at "d2") => `(tactic| first
  | ((with_reducible show sp_l_end _ _ _ _ _); refine ⟨_, _, rfl, ?h, ?h0, ?h1, ?_⟩; (case h => walk_at "fact"); (case h0 => omega); (case h1 => omega); intro _ _ _ _ _)
  | ((with_reducible refine ix_amt _ ?_))
  | ((with_reducible refine ix_w0 _ ?_))
  | ((with_reducible refine ix_a0 _ ?_))
  | ((with_reducible refine ix_r0 _ ?_))
  | with_reducible refine w_far ?_
  | with_reducible refine nt_ans ?_
  | ((with_reducible show sp_l_changed _ _ _ _ _); refine ⟨_, _, _, _, _, rfl, ⟨?h, ?h2, ?h3⟩, ?h4, ?_⟩; (case h => walk_at "fact"); (case h2 => assumption); (case h3 => assumption); (case h4 => omega); intro _ _ _ _)
  | ((with_reducible refine w_getI (kvs := ?xs) ?h ?hi ?_); (case h => walk_at "fact"); (case hi => assumption)))
/-- done rows are of numbers that came -/
def doneOk (rows : List Rw) : Prop := ∀ n t an, Rw.done n t an ∈ rows → ∃ t p q d, Rw.came n t p q d ∈ rows
def hasKv : Rw → Option (Key × DV)
  | .has w a => some (.inr w, .int a)
  | _ => none
def nextT : Rw → Option Int
  | .next _ t => some t
  | _ => none
def Rw.num : Rw → Int
  | .next n _ => n | .kept n _ _ _ _ _ => n | _ => 0
def numOf (ys : List Str) (x : Rw) : Option Int := if inF (.str (Rw.w0 x)) (ys.map DV.str) = true then some (Rw.num x) else none
theorem flat_strs {ys : List Str} : (ys.map DV.str).all flatD = true := List.all_eq_true.mpr fun d m => by
  obtain ⟨w, _, rfl⟩ := List.mem_map.mp m
  rfl
def isKN : Rw → Prop
  | .next .. => True | .kept .. => True | _ => False
theorem in_kn {x : Rw} {ys : List Str} (h : inF (.str (Rw.w0 x)) (ys.map DV.str) = true) (hy : ∀ y, y ∈ ys → y ∈ (["kept", "next"] : List Str)) : isKN x := by
  unfold inF at h
  obtain ⟨d, m, e⟩ := List.any_eq_true.mp h
  obtain ⟨y, my, rfl⟩ := List.mem_map.mp m
  have e : (y == Rw.w0 x) = true := e
  have hk := hy y my
  simp only [List.mem_cons, List.not_mem_nil, or_false] at hk
  rcases hk with rfl | rfl <;> cases x <;> first | trivial | (exfalso; revert e; dsimp only [Rw.w0]; decide +kernel)
theorem has_ints (rows : List Rw) : intsK (rows.filterMap hasKv) := by
  intro kv m
  obtain ⟨x, _, e⟩ := List.mem_filterMap.mp m
  cases x <;> first | (cases e; done) | skip
  cases e
  exact ⟨_, rfl⟩
def Item (S0 S' : Sr) (r b pu : Addr) (rows : List Rw) (x : Addr) : Prop := Fr S0 x ∧ x ≠ r ∧ x ≠ pu ∧ x ≠ b ∧ ∃ (n : Int) (d : Deed) (asked : Bool), S' x = some (.lst [.int n, d.enc, .bl asked]) ∧ d.ok ∧ (asked = true → d.far = true) ∧ ∃ t p q d', Rw.came n t p q d' ∈ rows
theorem Item.mono {S0 S' S'' : Sr} {r b pu : Addr} {rows rows' : List Rw} {x : Addr} (h : Item S0 S' r b pu rows x) (e : ∀ o, S' x = some o → S'' x = some o) (hr : ∀ y, y ∈ rows → y ∈ rows') : Item S0 S'' r b pu rows' x := by
  obtain ⟨h1, h2, h3, h4, n, d, k, h5, h6, h7, t, p, q, d', h8⟩ := h
  exact ⟨h1, h2, h3, h4, n, d, k, e _ h5, h6, h7, t, p, q, d', hr _ h8⟩
theorem Item.lst {S0 S' : Sr} {r b pu : Addr} {rows : List Rw} {x : Addr} (h : Item S0 S' r b pu rows x) : ∃ ds, S' x = some (.lst ds) ∧ ∀ d, d ∈ ds → good 2 d := by
  obtain ⟨h1, h2, h3, h4, n, d, k, h5, h6, h7, t, p, q, d', h8⟩ := h
  exact ⟨_, h5, all_cons good_int (all_cons ((Deed.good h6).mono (by decide)) (all_cons good_bl all_nil))⟩
structure Live (S0 S' : Sr) (r b pu : Addr) (rows : List Rw) (xs : List Addr) (kvs : List (Key × DV)) (i : Nat) : Prop where
  k : Kp r S0 S'
  hr : S' r = some (.lst (rows.map Rw.enc))
  g : ∀ x, x ∈ rows → x.gd
  dn : doneOk rows
  rl : rows.length ≤ 40 + i
  B : Book S' b (40 + 2 * i) kvs
  u : S' pu = some (.lst (xs.map DV.ref))
  xl : xs.length ≤ i
  it : ∀ x, x ∈ xs → Item S0 S' r b pu rows x
theorem doneOk.app {rows : List Rw} (h : doneOk rows) {x : Rw} (hx : ∀ n t an, x = Rw.done n t an → ∃ t p q d, Rw.came n t p q d ∈ rows) : doneOk (rows ++ [x]) := fun n t an m => by
  rcases List.mem_append.mp m with m | m
  · obtain ⟨t, p, q, d, hm⟩ := h n t an m
    exact ⟨t, p, q, d, List.mem_append_left _ hm⟩
  · obtain ⟨t, p, q, d, hm⟩ := hx n t an (List.mem_singleton.mp m).symm
    exact ⟨t, p, q, d, List.mem_append_left _ hm⟩
theorem Words.kp {S S' : Sr} {r a : Addr} {ws : List Str} {n : Nat} (h : Words S a ws n) (k : Kp r S S') (ne : a ≠ r) : Words S' a ws n := ⟨k _ _ ne h.l, h.t, h.lo, h.hi⟩
theorem Menus.kp {S S' : Sr} {r m a1 a2 a3 a4 : Addr} {w1 w2 w3 w4 : List Str} (h : Menus S m a1 a2 a3 a4 w1 w2 w3 w4) (k : Kp r S S') (n0 : m ≠ r) (n1 : a1 ≠ r) (n2 : a2 ≠ r) (n3 : a3 ≠ r) (n4 : a4 ≠ r) : Menus S' m a1 a2 a3 a4 w1 w2 w3 w4 :=
  ⟨k _ _ n0 h.m, Words.kp h.l1 k n1, Words.kp h.l2 k n2, Words.kp h.l3 k n3, Words.kp h.l4 k n4⟩
theorem br_nil {σ : DSt} {S : Sr} {j : Nat} {p : Prop} [Decidable p] {pu : Addr} {xs : List Addr} {n : Nat} {A B : Sr → Prop} (hj : slot σ j = some (.ref pu)) (hu : S pu = some (.lst (xs.map DV.ref)))
    (hx : ∀ x, x ∈ xs → ∃ ds, S x = some (.lst ds) ∧ ∀ d, d ∈ ds → Dv.good n d) (l : n ≤ 60) (h1 : ∀ S1, Dv.Sub S S1 → A S1) (h2 : ∀ S1, Dv.Sub S S1 → xs ≠ [] → B S1) : br (decide p) (br true (A S) (B S)) (dTest (dOp rEqD (dVar j) (dLst dNil)) σ S fun k S1 => br k (A S1) (B S1)) := by
  refine br_dec (fun _ => h1 _ .refl) (fun _ => ?_)
  walk_at "d"
  refine w_var hj ?_
  walk_at "d"
  rename_i p hp
  refine w_eqD (EqD.nilL (xs := xs) (n := n) (by walk_at "fact") up_same (fun x hm => ?_) l) ?_
  · obtain ⟨ds, e, g⟩ := hx x hm
    exact ⟨ds, by walk_at "fact", g⟩
  walk_at "d"
  exact br_dec (fun _ => h1 _ (by walk_at "sub")) (fun h => h2 _ (by walk_at "sub") h)
theorem Live.idle {S S' S7 : Sr} {r b pu : Addr} {rows : List Rw} {xs : List Addr} {kvs : List (Key × DV)} {i : Nat} (L : Live S S' r b pu rows xs kvs i) (s : Dv.Sub S' S7) : Live S S7 r b pu rows xs kvs (i + 1) :=
  ⟨L.k.sub s, s _ _ L.hr, L.g, L.dn, by have := L.rl; omega, ⟨s _ _ L.B.d, L.B.i, by have := L.B.n; omega⟩, s _ _ L.u, by have := L.xl; omega, fun x hx => (L.it x hx).mono (fun o e => s _ _ e) fun _ h => h⟩
theorem Live.asked {S S' S7 : Sr} {r b pu x : Addr} {rows : List Rw} {xs : List Addr} {kvs : List (Key × DV)} {i : Nat} {n : Int} {d : Deed} {k : Bool} (L : Live S S' r b pu rows xs kvs i) (s : Dv.Sub S' S7) (hx : x ∈ xs) (ho : S' x = some (.lst [.int n, d.enc, .bl k])) (f : d.far = true) (npr : pu ≠ r) (nbr : b ≠ r)
    (fx : Fr S x) (xr : x ≠ r) (xu : x ≠ pu) (xb : x ≠ b) (dok : d.ok) (came : ∃ t p q d', Rw.came n t p q d' ∈ rows) :
    Live S (up (up S7 r (.lst (rows.map Rw.enc ++ [.tup [.str "asked", .int n]]))) x (.lst [.int n, d.enc, .bl true])) r b pu (rows ++ [.asked n]) xs kvs (i + 1) := by
  have hr := L.hr
  have hu := L.u
  have hb := L.B.d
  have k := L.k
  have rl := L.rl
  have xl := L.xl
  have bn := L.B.n
  refine ⟨by walk_at "kp", by rw [List.map_append]; walk_at "fact", mem_app (x := Rw.asked n) L.g trivial, L.dn.app (fun _ _ _ e => by cases e), by simp; omega, ⟨by walk_at "fact", L.B.i, by omega⟩, by walk_at "fact", by omega, fun y hy => ?_⟩
  by_cases e : y = x
  · subst e
    obtain ⟨t, p, q, d'', came'⟩ := came
    exact ⟨fx, xr, xu, xb, n, d, true, up_same, dok, fun _ => f, t, p, q, d'', List.mem_append_left _ came'⟩
  · obtain ⟨fy, yr, yu, yb, n', d', k', ho', dok', far', t, p, q, d'', came'⟩ := L.it y hy
    exact ⟨fy, yr, yu, yb, n', d', k', by walk_at "fact", dok', far', t, p, q, d'', List.mem_append_left _ came'⟩
theorem Live.done {S S' S7 S8 : Sr} {r b pu : Addr} {rows : List Rw} {xs ys : List Addr} {kvs kvs' : List (Key × DV)} {i : Nat} {n t : Int} {an : Ans} (L : Live S S' r b pu rows xs kvs i) (s : Dv.Sub S' S7) (ga : an.gd) (npr : pu ≠ r) (nbr : b ≠ r) (npb : pu ≠ b) (fpu : Fr S pu) (fb : Fr S b) (came : ∃ t p q d', Rw.came n t p q d' ∈ rows)
    (k8 : Kp b (up S7 r (.lst (rows.map Rw.enc ++ [.tup [.str "done", .int n, .int t, an.enc]]))) S8) (B8 : Book S8 b (40 + 2 * i + 2) kvs') (hy : ∀ y, y ∈ ys → y ∈ xs) (yl : ys.length ≤ xs.length) :
    Live S (up S8 pu (.lst (ys.map DV.ref))) r b pu (rows ++ [.done n t an]) ys kvs' (i + 1) := by
  have hr := L.hr
  have hu := L.u
  have k := L.k
  have rl := L.rl
  have xl := L.xl
  have hb := B8.d
  refine ⟨by walk_at "kp", by rw [List.map_append]; walk_at "fact", mem_app (x := Rw.done n t an) L.g ga, L.dn.app (fun _ _ _ e => by cases e; exact came), by simp; omega, ⟨by walk_at "fact", B8.i, by have := B8.n; omega⟩, up_same, by omega, fun y hm => ?_⟩
  obtain ⟨fy, yr, yu, yb, n', d', k', ho', dok', far', t, p, q, d'', came'⟩ := L.it y (hy y hm)
  exact ⟨fy, yr, yu, yb, n', d', k', by walk_at "fact", dok', far', t, p, q, d'', List.mem_append_left _ came'⟩
def sp_l_lived (K : PySem.W.Frag) : SpD := fun ds S Q _ => ∃ (a r m a1 a2 a3 a4 : Addr) (w1 w2 w3 w4 : List Str) (many : Int) (rows : List Rw), ds = [.ref a, .ref r, .ref m, .int many] ∧ S a = some (deckB K) ∧ Menus S m a1 a2 a3 a4 w1 w2 w3 w4 ∧
  (a ≠ r ∧ m ≠ r ∧ a1 ≠ r ∧ a2 ≠ r ∧ a3 ≠ r ∧ a4 ≠ r) ∧ S r = some (.lst (rows.map Rw.enc)) ∧ (∀ x, x ∈ rows → x.gd) ∧ doneOk rows ∧ rows.length ≤ 40 ∧ 0 ≤ many ∧ many ≤ 40 ∧
  ∀ (rows' : List Rw) S', Kp r S S' → S' r = some (.lst (rows'.map Rw.enc)) → (∀ x, x ∈ rows' → x.gd) → doneOk rows' → rows'.length ≤ 80 → Q (.ref r) S'
def t_l_lived (K : PySem.W.Frag) : DS := (sSeq (sAsg (dCb rDictP (dCons (dLc (iL (dVar 1)) (nName 14) (dTest (dOp rEqD (dOp rIx2 (dVar 14) (dCon (.int 0))) (dCon (.str "has")))) (dTup (dCons (dOp rIx2 (dVar 14) (dCon (.int 1))) (dCons (dOp rIx2 (dVar 14) (dCon (.int 2))) dNil))) [14]) dNil)) (nName 4))
    (sSeq (sAsg (dLst dNil) (nName 5))
    (sSeq (sAsg (dSl (dLst (dCons (dCon (.str "kept")) (dCons (dCon (.str "next")) dNil))) dNo (dPart (dOp rAdd (dCon (.int 1)) (dCall (sp_l_draw K) Ed0 (dCons (dVar 0) (dCons (dCon (.int 2)) dNil)))))) (nName 6))
    (sSeq (sAsg (dCb rMax2 (dCons (dOp rAdd (dLc (iL (dVar 1)) (nName 14) (dTest (dOp rInD (dOp rIx2 (dVar 14) (dCon (.int 0))) (dVar 6))) (dOp rIx2 (dVar 14) (dCon (.int 1))) [14]) (dLst (dCons (dCon (.int 0)) dNil))) dNil)) (nName 7))
    (sSeq (sAsg (dCb rMax2 (dCons (dOp rAdd (dLc (iL (dVar 1)) (nName 14) (dTest (dOp rEqD (dOp rIx2 (dVar 14) (dCon (.int 0))) (dCon (.str "next")))) (dOp rIx2 (dVar 14) (dCon (.int 2))) [14]) (dLst (dCons (dCon (.int 0)) dNil))) dNil)) (nName 8))
    (sSeq (sFor (iR1 (dCons (dVar 3) dNil)) (nName 9) (sSeq (sAsg (dCall (sp_l_draw K) Ed0 (dCons (dVar 0) (dCons (dCon (.int 4)) dNil))) (nName 10))
    (sSeq (sAsg (dOp rAdd (dVar 8) (dOp rIx2 (dLst (dCons (dCon (.int 0)) (dCons (dCon (.int 0)) (dCons (dCon (.int 1)) (dCons (dCall (sp_l_draw K) Ed0 (dCons (dVar 0) (dCons (dCon (.int 9)) dNil))) dNil))))) (dCall (sp_l_draw K) Ed0 (dCons (dVar 0) (dCons (dCon (.int 4)) dNil))))) (nName 8))
    (sIf (dOr (dTest (dOp rLt2 (dVar 10) (dCon (.int 2)))) (dTest (dOp rEqD (dVar 5) (dLst dNil)))) (sSeq (sAsg (dOp rAdd (dOp rAdd (dVar 7) (dCon (.int 1))) (dOp rIx2 (dLst (dCons (dCon (.int 0)) (dCons (dCon (.int 0)) (dCons (dCall (sp_l_draw K) Ed0 (dCons (dVar 0) (dCons (dCon (.int 9)) dNil))) dNil)))) (dCall (sp_l_draw K) Ed0 (dCons (dVar 0) (dCons (dCon (.int 3)) dNil))))) (nName 7))
    (sSeq (sAsg (dCall (sp_l_sized K) Ed0 (dCons (dVar 0) (dCons (dVar 4) (dCons (dCall (sp_l_deed K) Ed0 (dCons (dVar 0) (dCons (dOp rIx2 (dVar 2) (dCon (.int 0))) (dCons (dOp rIx2 (dVar 2) (dCon (.int 1))) dNil)))) dNil)))) (nName 11))
    (sSeq (sDrop (dBM "list" rApp (dVar 1) (dCons (dOp rAdd (dOp rAdd (dTup (dCons (dCon (.str "came")) (dCons (dVar 7) (dCons (dVar 8) dNil)))) (dCall (sp_l_spot K) Ed0 (dCons (dVar 0) (dCons (dVar 2) dNil)))) (dTup (dCons (dVar 11) dNil))) dNil)))
    (sDrop (dBM "list" rApp (dVar 5) (dCons (dLst (dCons (dVar 7) (dCons (dVar 11) (dCons (dCon (.bl false)) dNil)))) dNil)))))) (sSeq (sAsg (dOp rIx2 (dVar 5) (dCall (sp_l_draw K) Ed0 (dCons (dVar 0) (dCons (dCb rLen2 (dCons (dVar 5) dNil)) dNil)))) (nName 12))
    (sSeq (sAsg (dCall (sp_l_right K) Ed0 (dCons (dVar 0) (dCons (dVar 4) (dCons (dVar 12) dNil)))) (nName 13))
    (sIf (dAnd (dTest (dOp rEqD (dVar 10) (dCon (.int 2)))) (dAnd (dNot (dTest (dOp rIx2 (dVar 12) (dCon (.int 2))))) (dTest (dOp rInD (dOp rIx2 (dOp rIx2 (dVar 12) (dCon (.int 1))) (dCon (.int 0))) (dTup (dCons (dCon (.str "send")) (dCons (dCon (.str "fetch")) (dCons (dCon (.str "pass")) dNil)))))))) (sSeq (sDrop (dBM "list" rApp (dVar 1) (dCons (dTup (dCons (dCon (.str "asked")) (dCons (dOp rIx2 (dVar 12) (dCon (.int 0))) dNil))) dNil)))
    (sAsg (dCon (.bl true)) (nSub (dVar 12) (dCon (.int 2))))) (sIf (dTest (dOp rNotN (dVar 13) (dCon .non))) (sSeq (sDrop (dBM "list" rApp (dVar 1) (dCons (dTup (dCons (dCon (.str "done")) (dCons (dOp rIx2 (dVar 12) (dCon (.int 0))) (dCons (dVar 8) (dCons (dVar 13) dNil))))) dNil)))
    (sSeq (sDrop (dCall (sp_l_changed K) Ed0 (dCons (dVar 4) (dCons (dOp rIx2 (dVar 12) (dCon (.int 1))) (dCons (dVar 13) dNil)))))
    (sDrop (dBM "list" rRem (dVar 5) (dCons (dVar 12) dNil))))) sNext))))))))
    (sRet (dVar 1))))))))
theorem rd_l_lived (K : PySem.W.Frag) : ∀ ds S Q (Ed : DXK), sp_l_lived K ds S Q Ed → Opens K S (t_l_lived K (dEnd K Q) (startS N_l_lived ds)) := by
  rintro _ S Q _ ⟨a, r, m, a1, a2, a3, a4, w1, w2, w3, w4, many, rows, rfl, ha, M, ⟨nar, nmr, n1r, n2r, n3r, n4r⟩, hr, g, dn, rl, m0, m1, q⟩
  refine Opens.here ?_
  unfold t_l_lived
  walk_at "d"
  refine lc_mapF Rw.enc (fun x => (hasKv x).map fun kv => .tup [keyD kv.1, kv.2]) hr (by omega) (fun x S0 R N hx s0 ry rn => ?_) fun D S1 s1 n1 h1 => ?_
  · cases x <;> dsimp only [Rw.enc] <;> walk_at "d"
    all_goals first
      | exact ry _ _ (by walk_at "sub") rfl
      | exact rn _ (by walk_at "sub") rfl
  rw [← List.map_filterMap] at h1
  walk_at "d"
  refine ⟨_, h1, fun b nb => ?_⟩
  have B : Book (up S1 b (.dK (mergeD [] (rows.filterMap hasKv)))) b 40 (mergeD [] (rows.filterMap hasKv)) := ⟨up_same, intsK.merge (fun _ h => by cases h) (has_ints rows), Nat.le_trans len_merge (by have := List.length_filterMap_le hasKv rows; simp; omega)⟩
  have nb' : Fr S1 b := nb
  generalize mergeD [] (rows.filterMap hasKv) = kvs at B ⊢
  walk_at "d"
  rename_i pu hpu pw hpw k hk0 hk1 pz hpz
  obtain ⟨ys, ey, ym, _⟩ := cutD_map DV.str ["kept", "next"] none (some (1 + k))
  rw [show ([DV.str "kept", DV.str "next"] : List DV) = (["kept", "next"] : List Str).map DV.str from rfl, ey]
  refine lc_mapF Rw.enc (fun x => (numOf ys x).map DV.int) (by walk_at "fact") (by omega) (fun x S0 R N hx s0 ry rn => ?_) fun D3 S3 s3 n3 h3 => ?_
  · walk_at "d"
    refine w_inL (ys := ys.map DV.str) (by walk_at "fact") rfl flat_strs rfl ?_
    walk_at "d"
    refine br_b (fun hb => ?_) (fun hb => ?_)
    · walk_at "d"
      have hk := in_kn hb ym
      cases x <;> first | exact w_ixT rfl (ry _ _ (by walk_at "sub") (by unfold numOf; rw [if_pos hb]; rfl)) | exact hk.elim
    · exact rn _ (by walk_at "sub") (by unfold numOf; rw [if_neg (by rw [hb]; simp)]; rfl)
  rw [← List.map_filterMap] at h3
  have l3 := List.length_filterMap_le (numOf ys) rows
  walk_at "d"
  refine w_addL (xs := (rows.filterMap (numOf ys)).map DV.int) (ys := [.int 0]) (by walk_at "fact") (by walk_at "fact") (by simp; omega) ?_
  walk_at "d"
  refine ⟨rows.filterMap (numOf ys) ++ [0], by rw [List.map_append]; exact up_same, by simp, fun number _ _ => ?_⟩
  walk_at "d"
  refine lc_mapF Rw.enc (fun x => (nextT x).map DV.int) (by walk_at "fact") (by omega) (fun x S0 R N hx s0 ry rn => ?_) fun D4 S4 s4 n4 h4 => ?_
  · cases x <;> dsimp only [Rw.enc] <;> walk_at "d"
    all_goals first
      | exact ry _ _ (by walk_at "sub") rfl
      | exact rn _ (by walk_at "sub") rfl
  rw [← List.map_filterMap] at h4
  have l4 := List.length_filterMap_le nextT rows
  walk_at "d"
  refine w_addL (xs := (rows.filterMap nextT).map DV.int) (ys := [.int 0]) (by walk_at "fact") (by walk_at "fact") (by simp; omega) ?_
  walk_at "d"
  refine ⟨rows.filterMap nextT ++ [0], by rw [List.map_append]; exact up_same, by simp, fun turn _ _ => ?_⟩
  walk_at "d"
  have npr : pu ≠ r := by walk_at "ne"
  have nbr : b ≠ r := by walk_at "ne"
  have npb : pu ≠ b := by walk_at "ne"
  have fpu : Fr S pu := by walk_at "fr"
  have fb : Fr S b := by walk_at "fr"
  have hb0 := B.d
  refine for_rng (fun i σ S' => ∃ (o9 o10 o11 o12 o13 o14 : Option DV) (number turn : Int) (rows' : List Rw) (xs : List Addr) (kvs' : List (Key × DV)), σ = [some (.ref a), some (.ref r), some (.ref m), some (.int many), some (.ref b), some (.ref pu), some (.ref pz), some (.int number), some (.int turn), o9, o10, o11, o12, o13, o14] ∧ Live S S' r b pu rows' xs kvs' i) ?_ ?_ ?_
  · exact ⟨_, _, _, _, _, _, _, _, rows, [], kvs, rfl, ⟨by walk_at "kp", by walk_at "fact", g, dn, by omega, ⟨by walk_at "fact", B.i, B.n⟩, by walk_at "fact", by simp, fun x hx => by cases hx⟩⟩
  · rintro i σ S' hi ⟨o9, o10, o11, o12, o13, o14, number, turn, rows', xs, kvs', rfl, L⟩
    clear hr g dn rl B hb0 ey ym h1 h3 h4 l3 l4 nb nb'
    have k := L.k
    have hr := L.hr
    have hu := L.u
    have hb := L.B.d
    have rl := L.rl
    have xl := L.xl
    have M' := Menus.kp M k nmr n1r n2r n3r n4r
    walk_at "d"
    refine pickZ (by walk_at "fact") (by assumption) (by simp only [List.length_cons, List.length_nil]; omega) (by walk_at "ints") fun dt => ?_
    walk_at "d"
    refine br_nil (xs := xs) (n := 2) rfl (by walk_at "fact") (fun x hx => ?_) (by decide) (fun S6 s6 => ?_) fun S6 s6 nx => ?_
    · obtain ⟨ds, e, gg⟩ := Item.lst (L.it x hx)
      exact ⟨ds, by walk_at "fact", gg⟩
    · have M6 := Menus.sub M' (S' := S6) (by walk_at "sub")
      have hm6 := M6.m
      walk_at "d"
      refine pickZ (by walk_at "fact") (by assumption) (by simp only [List.length_cons, List.length_nil]; omega) (by walk_at "ints") fun dn => ?_
      walk_at "d"
      refine ⟨_, _, _, _, _, rfl, by walk_at "fact", M6.l1.sub (by walk_at "sub"), M6.l2.sub (by walk_at "sub"), fun d S7 s7 dok => ?_⟩
      walk_at "d"
      refine ⟨_, _, _, _, _, rfl, by walk_at "fact", dok, ⟨by walk_at "fact", L.B.i, L.B.n⟩, fun d2 S8 s8 dok2 => ?_⟩
      walk_at "d"
      refine ⟨_, _, _, _, _, _, _, _, _, _, rfl, by walk_at "fact", M6.sub (by walk_at "sub"), fun p q2 S9 s9 hp hq => ?_⟩
      walk_at "d"
      rename_i px hpx
      have bn := L.B.n
      refine ⟨_, _, _, _, _, _, _, _, rows' ++ [Rw.came _ _ p q2 d2], xs ++ [px], kvs', rfl, ⟨by walk_at "kp", by rw [List.map_append]; walk_at "fact", mem_app (x := Rw.came _ _ p q2 d2) L.g ⟨M6.l3.t _ hp, M6.l4.t _ hq, dok2⟩, L.dn.app (fun _ _ _ e => by cases e), by simp; omega, ⟨by walk_at "fact", L.B.i, by omega⟩, by rw [List.map_append]; exact up_same, by simp; omega, fun x hx => ?_⟩⟩
      rcases List.mem_append.mp hx with hx | hx
      · obtain ⟨fx, xr, xu, xb, _⟩ := L.it x hx
        exact Item.mono (L.it x hx) (fun o e => by walk_at "fact") fun y hy => List.mem_append_left _ hy
      · cases List.mem_singleton.mp hx
        have f9 : Dv.Kp r S (up S9 r (MO.lst (rows'.map Rw.enc ++ [DV.tup ([DV.str "came", DV.int (number + 1 + dn), DV.int (turn + dt)] ++ [DV.str p, DV.str q2] ++ [d2.enc])]))) := by walk_at "kp"
        have pxr : px ≠ r := by walk_at "ne"
        exact ⟨Kp.fr f9 hpx pxr, pxr, by walk_at "ne", by walk_at "ne", _, d2, false, by walk_at "fact", dok2, (fun h => by cases h), _, p, q2, d2, List.mem_append_right _ (List.mem_singleton.mpr rfl)⟩
    · have lx : 0 < xs.length := List.length_pos_iff.mpr nx
      have lm : (xs.map DV.ref).length = xs.length := List.length_map ..
      have bi := L.B.i
      have bn := L.B.n
      walk_at "d"
      refine pick (fun v => ∃ x, x ∈ xs ∧ v = .ref x) (by walk_at "fact") (by assumption) (by assumption) (fun v hv => ?_) ?_
      · obtain ⟨x, hx, e⟩ := List.mem_map.mp hv
        exact ⟨x, hx, e.symm⟩
      rintro _ ⟨x, hx, rfl⟩
      obtain ⟨fx, xr, xu, xb, n, d, asked, ho, dok, far, came⟩ := L.it x hx
      walk_at "d"
      refine ⟨_, _, _, _, _, _, _, _, rfl, by walk_at "fact", dok, ⟨by walk_at "fact", L.B.i, L.B.n⟩, by walk_at "fact", far, fun v S7 s7 hv => ?_⟩
      rcases hv with rfl | ⟨an, rfl, ga⟩ <;> cases asked <;> walk_at "dd"
      all_goals first
        | exact ⟨_, _, _, _, _, _, _, _, rows', xs, kvs', rfl, L.idle (by walk_at "sub")⟩
        | exact ⟨_, _, _, _, _, _, _, _, rows' ++ [.asked n], xs, kvs', rfl, L.asked (by walk_at "sub") hx ho (by assumption) npr nbr fx xr xu xb dok came⟩
        | skip
      all_goals
        refine ⟨b, d, an, 40 + 2 * i, kvs', rfl, ⟨by walk_at "fact", bi, bn⟩, by omega, fun kvs8 S8 k8 B8 => ?_⟩
        walk_at "d"
        refine w_rem (xs := xs) (n := 2) (by walk_at "fact") (fun y hm => ?_) (by decide) hx fun ys hy yl => ?_
        · obtain ⟨fy, yr, yu, yb, n', d', k', ho', dok', _⟩ := L.it y hm
          exact ⟨_, by walk_at "fact", all_cons good_int (all_cons ((Deed.good dok').mono (by decide)) (all_cons good_bl all_nil))⟩
        walk_at "d"
        exact ⟨_, _, _, _, _, _, _, _, rows' ++ [.done n _ an], ys, kvs8, rfl, L.done (by walk_at "sub") ga npr nbr npb fpu fb came k8 B8 hy yl⟩
  · rintro σ S' ⟨o9, o10, o11, o12, o13, o14, number, turn, rows', xs, kvs', rfl, L⟩
    walk_at "d"
    have := L.rl
    exact Opens.here (q rows' _ L.k L.hr L.g L.dn (by omega))
end K72
set_option Elab.async false
set_option linter.all false
set_option maxRecDepth 100000
set_option maxHeartbeats 1000000
namespace Dv
open PySem PySem.Spec PyProof.Rows L2
def fmA {α β : Type} (f : Nat → α → Option β) (k : Nat) : List α → List β
  | [] => []
  | a :: l => (f k a).toList ++ fmA f (k + 1) l
theorem fmA_app {α β : Type} {f : Nat → α → Option β} : ∀ (l m : List α) (k : Nat), fmA f k (l ++ m) = fmA f k l ++ fmA f (k + l.length) m
  | [], m, k => rfl
  | a :: l, m, k => by
    show (f k a).toList ++ fmA f (k + 1) (l ++ m) = ((f k a).toList ++ fmA f (k + 1) l) ++ _
    rw [fmA_app l m (k + 1), List.append_assoc, List.length_cons, show k + (l.length + 1) = k + 1 + l.length by omega]
theorem fmA_snoc {α β : Type} {f : Nat → α → Option β} (l : List α) (a : α) : fmA f 0 (l ++ [a]) = fmA f 0 l ++ (f l.length a).toList := by
  rw [fmA_app]
  show fmA f 0 l ++ ((f (0 + l.length) a).toList ++ []) = _
  rw [List.append_nil, Nat.zero_add]
theorem fmA_len {α β : Type} {f : Nat → α → Option β} : ∀ (l : List α) (k : Nat), (fmA f k l).length ≤ l.length
  | [], k => Nat.le_refl _
  | a :: l, k => by
    have ih := fmA_len (f := f) l (k + 1)
    show ((f k a).toList ++ fmA f (k + 1) l).length ≤ _
    rw [List.length_append, List.length_cons]
    cases f k a <;> simp <;> omega
theorem fmA_map {α β γ : Type} {f : Nat → α → Option β} (g : β → γ) : ∀ (l : List α) (k : Nat), fmA (fun k a => (f k a).map g) k l = (fmA f k l).map g
  | [], k => rfl
  | a :: l, k => by
    show ((f k a).map g).toList ++ fmA (fun k a => (f k a).map g) (k + 1) l = ((f k a).toList ++ fmA f (k + 1) l).map g
    rw [fmA_map g l (k + 1), List.map_append]
    cases f k a <;> rfl
/-- a comprehension over the places and values of a list -/
theorem lc_enumM {α : Type} {g : DG} {tt : DT} {te : DE} {vs : List Nat} {σ : DSt} {Q : DK} {S : Sr} (enc : α → DV) {l : List α} {x : Addr} (f : Nat → α → Option DV) (hx : S x = some (.lst (l.map enc))) (hz : l.length ≤ 1000)
    (hs : ∀ i a S0 (R : DK) (N : Sr → Prop), l[i]? = some a → Sub S S0 → (∀ y S4, Sub S0 S4 → f i a = some y → R y S4) → (∀ S4, Sub S0 S4 → f i a = none → N S4) → g (.tup [.int (i : Int), enc a]) (wipeS σ vs) S0 fun σ2 S2 => tt σ2 S2 fun k S3 => br k (te σ2 S3 R) (N S3))
    (hd : ∀ D S', Sub S S' → Fr S D → S' D = some (.lst (fmA f 0 l)) → Q (.ref D) S') : ek (fun J S => LcQ J g tt te vs σ Q S) [.ref x] S := by
  refine lc_enum (x := .ref x) (ds := l.map enc) hx (fun pre acc S' => Sub S S' ∧ acc = fmA f 0 (l.take pre.length)) ⟨.refl, rfl⟩ (fun pre acc S' p => p.1 _ _ hx) (fun pre d post acc S0 D e p n0 => ?_) fun acc S' D p n0 => ?_
  · obtain ⟨s0, rfl⟩ := p
    have hD : Fr S D := s0.nn n0
    have hlt : pre.length < l.length := by
      have := congrArg List.length e
      simp at this; omega
    have hd : d = enc l[pre.length] := by
      have e1 : (l.map enc)[pre.length]? = some d := by rw [e]; simp
      rw [List.getElem?_map, List.getElem?_eq_getElem hlt] at e1
      exact (Option.some.inj e1).symm
    subst hd
    have hl : (fmA f 0 (l.take pre.length)).length ≤ 1000 := by
      have h1 := fmA_len (f := f) (l.take pre.length) 0
      rw [List.length_take] at h1
      omega
    have et : l.take (pre ++ [enc l[pre.length]]).length = l.take pre.length ++ [l[pre.length]] := by
      rw [List.length_append]
      exact List.take_succ_eq_append_getElem hlt
    have ht : (l.take pre.length).length = pre.length := by rw [List.length_take]; omega
    refine hs pre.length l[pre.length] (up S0 D (.lst (fmA f 0 (l.take pre.length)))) _ _ (List.getElem?_eq_getElem hlt) (s0.up2 n0) (fun y S4 s1 fy => ?_) fun S4 s1 fy => ?_
    · refine LcE.of (acc := fmA f 0 (l.take pre.length)) (s1 _ _ up_same) hl ⟨((s0.up2 n0).trans s1).less hD, ?_⟩
      rw [et, fmA_snoc, ht, fy]; rfl
    · refine LcP.of (acc := fmA f 0 (l.take pre.length)) (s1 _ _ up_same) ⟨((s0.up2 n0).trans s1).less hD, ?_⟩
      rw [et, fmA_snoc, ht, fy]
      exact (List.append_nil _).symm
  · obtain ⟨s0, rfl⟩ := p
    refine hd D _ (s0.up2 n0) (s0.nn n0) ?_
    rw [up_same, List.length_map, List.take_length]
end Dv
namespace K72
open PySem PySem.Spec PyProof.Rows L2 Dv Ty
/-! the last row that came, by number -/
structure Cm where
  t : Int
  p : Str
  q : Str
  d : Deed
def cmStep (n : Int) (acc : Option Cm) (r : Rw) : Option Cm := match r with
  | .came m t p q d => if m = n then some ⟨t, p, q, d⟩ else acc
  | _ => acc
def lastC (rows : List Rw) (n : Int) : Option Cm := rows.foldl (cmStep n) none
def cameKv (F : Int → Cm → DV) : Rw → Option (Key × DV)
  | .came m t p q d => some (.inl m, F m ⟨t, p, q, d⟩)
  | _ => none
theorem cm_dict (F : Int → Cm → DV) (n : Int) : ∀ (rows : List Rw) (kvs : List (Key × DV)) (acc : Option Cm), vD kvs (.inl n) = acc.map (F n) → vD (mergeD kvs (rows.filterMap (cameKv F))) (.inl n) = (rows.foldl (cmStep n) acc).map (F n)
  | [], kvs, acc, h => h
  | r :: rows, kvs, acc, h => by
    cases r
    case came m t p q d =>
      show vD (mergeD (pD kvs (.inl m) (F m ⟨t, p, q, d⟩)) (rows.filterMap (cameKv F))) (.inl n) = _
      refine cm_dict F n rows _ (if m = n then some ⟨t, p, q, d⟩ else acc) ?_
      rw [vD_pD]
      by_cases e : m = n
      · subst e; simp
      · have e' : ¬ (Sum.inl n : Key) = Sum.inl m := fun z => e (Sum.inl.inj z).symm
        rw [if_neg e', if_neg e]; exact h
    all_goals exact cm_dict F n rows kvs acc h
theorem cm_ex {n : Int} : ∀ {rows : List Rw} {acc : Option Cm}, (acc ≠ none ∨ ∃ t p q d, Rw.came n t p q d ∈ rows) → rows.foldl (cmStep n) acc ≠ none
  | [], acc, h => by
    rcases h with h | ⟨_, _, _, _, h⟩
    · exact h
    · cases h
  | r :: rows, acc, h => by
    show rows.foldl (cmStep n) (cmStep n acc r) ≠ none
    refine cm_ex ?_
    rcases h with h | ⟨t, p, q, d, h⟩
    · left
      unfold cmStep
      cases r <;> first | exact h | (dsimp only; split <;> first | exact h | simp)
    · rcases List.mem_cons.mp h with h | h
      · left; subst h; unfold cmStep; simp
      · exact .inr ⟨t, p, q, d, h⟩
/-! entries -/
structure Ent where
  k : Nat
  n : Int
  t : Int
  p : Str
  q : Str
  d : Deed
  a : Ans
def entF (all : List Rw) (k : Nat) : Rw → Option Ent
  | .kept n t p q d a => some ⟨k, n, t, p, q, d, a⟩
  | .done n t a => (lastC all n).map fun c => ⟨k, n, t, c.p, c.q, c.d, a⟩
  | _ => none
def ents (all : List Rw) : List Ent := fmA (entF all) 0 all
theorem ents_k (all : List Rw) : ∀ (l : List Rw) (k : Nat), (∀ e, e ∈ fmA (entF all) k l → k ≤ e.k) ∧ (fmA (entF all) k l).Pairwise fun e f => e.k < f.k
  | [], k => ⟨fun _ h => (by cases h), List.Pairwise.nil⟩
  | r :: l, k => by
    obtain ⟨h1, h2⟩ := ents_k all l (k + 1)
    have hk : ∀ e, entF all k r = some e → e.k = k := by
      intro e h
      cases r <;> first | (cases h; done) | skip
      · cases h; rfl
      · obtain ⟨c, _, h⟩ := Option.map_eq_some_iff.mp h
        subst h; rfl
    show (∀ e, e ∈ (entF all k r).toList ++ fmA (entF all) (k + 1) l → k ≤ e.k) ∧ ((entF all k r).toList ++ fmA (entF all) (k + 1) l).Pairwise _
    cases q : entF all k r with
    | none => exact ⟨fun e h => Nat.le_of_succ_le (h1 e h), h2⟩
    | some e0 =>
      have e0k := hk e0 q
      refine ⟨fun e h => ?_, ?_⟩
      · rcases List.mem_cons.mp h with h | h
        · rw [h, e0k]; exact Nat.le_refl _
        · exact Nat.le_of_succ_le (h1 e h)
      · exact List.Pairwise.cons (fun f h => by have := h1 f h; omega) h2
theorem ents_lt {all : List Rw} {i j : Nat} {e f : Ent} (hi : (ents all)[i]? = some e) (hj : (ents all)[j]? = some f) : (i < j → e.k < f.k) ∧ (i = j → e = f) := by
  have pw := (ents_k all all 0).2
  refine ⟨fun h => ?_, fun h => by subst h; rw [hi] at hj; exact Option.some.inj hj⟩
  obtain ⟨li, ei⟩ := List.getElem?_eq_some_iff.mp hi
  obtain ⟨lj, ej⟩ := List.getElem?_eq_some_iff.mp hj
  have := List.pairwise_iff_getElem.mp pw i j li lj h
  rw [← ei, ← ej]; exact this
/-! the first two that are too near -/
def near (E : List Ent) (life : Int) (i j : Nat) : Prop := i < j ∧ ∃ e f, E[i]? = some e ∧ E[j]? = some f ∧ f.p = e.p ∧ f.q = e.q ∧ f.t < e.t + life
def IsB (R N : Nat → Nat → Prop) : Option (Nat × Nat) → Prop
  | none => ∀ i j, R i j → ¬ N i j
  | some (i, j) => R i j ∧ N i j ∧ ∀ i2 j2, R i2 j2 → N i2 j2 → j < j2 ∨ (j = j2 ∧ i2 ≤ i)
theorem IsB.uniq {R N : Nat → Nat → Prop} {b c : Option (Nat × Nat)} (h : IsB R N b) (k : IsB R N c) : b = c := by
  cases b with
  | none => cases c with
    | none => rfl
    | some c => exact absurd k.2.1 (h _ _ k.1)
  | some b => cases c with
    | none => exact absurd h.2.1 (k _ _ h.1)
    | some c =>
      have h1 := h.2.2 _ _ k.1 k.2.1
      have h2 := k.2.2 _ _ h.1 h.2.1
      obtain ⟨b1, b2⟩ := b
      obtain ⟨c1, c2⟩ := c
      dsimp only at h1 h2
      have : b1 = c1 ∧ b2 = c2 := by omega
      rw [this.1, this.2]
def better (b : Option (Nat × Nat)) (i j : Nat) : Prop := match b with
  | none => True
  | some (i', j') => j < j' ∨ (j = j' ∧ i' < i)
theorem IsB.step {R R' N : Nat → Nat → Prop} {b : Option (Nat × Nat)} (h : IsB R N b) {i j : Nat} (hR : ∀ i2 j2, R' i2 j2 ↔ R i2 j2 ∨ (i2 = i ∧ j2 = j)) : (¬ (N i j ∧ better b i j) → IsB R' N b) ∧ (N i j → better b i j → IsB R' N (some (i, j))) := by
  constructor
  · intro hn
    cases b with
    | none =>
      intro i2 j2 r n
      rcases (hR i2 j2).mp r with r | ⟨rfl, rfl⟩
      · exact h _ _ r n
      · exact hn ⟨n, trivial⟩
    | some b =>
      refine ⟨(hR _ _).mpr (.inl h.1), h.2.1, fun i2 j2 r n => ?_⟩
      rcases (hR i2 j2).mp r with r | ⟨rfl, rfl⟩
      · exact h.2.2 _ _ r n
      · have : ¬ better (some b) i2 j2 := fun z => hn ⟨n, z⟩
        unfold better at this
        dsimp only at this
        omega
  · intro n bt
    refine ⟨(hR _ _).mpr (.inr ⟨rfl, rfl⟩), n, fun i2 j2 r n2 => ?_⟩
    rcases (hR i2 j2).mp r with r | ⟨rfl, rfl⟩
    · cases b with
      | none => exact absurd n2 (h _ _ r)
      | some b =>
        have := h.2.2 _ _ r n2
        unfold better at bt
        dsimp only at bt this
        omega
    · exact .inr ⟨rfl, Nat.le_refl _⟩
theorem IsB.congr {R R' N : Nat → Nat → Prop} {b : Option (Nat × Nat)} (h : IsB R N b) (e : ∀ i j, R' i j ↔ R i j) : IsB R' N b := by
  have : R' = R := by funext i j; exact propext (e i j)
  rw [this]; exact h
def bestV (E : List Ent) : Option (Nat × Nat) → DV
  | none => .non
  | some (i, j) => .tup [.int ((E[i]?.map (·.k)).getD 0 : Nat), .int ((E[j]?.map (·.k)).getD 0 : Nat)]
end K72
set_option Elab.async false
set_option linter.all false
set_option maxRecDepth 100000
set_option maxHeartbeats 1000000
namespace K72
open PySem PySem.Spec PyProof.Rows L2 Dv Ty
local macro_rules | `(tactic| walk_at "sub") => `(tactic| first | with_reducible exact Sub.refl | assumption | ((with_reducible refine Sub.up2 ?_ (by assumption)); walk_at "sub") | ((with_reducible refine Sub.upF ?_ (by first | assumption | exact Sub.nn (by assumption) (by assumption))); walk_at "sub") | ((with_reducible refine Sub.trans ?_ (by assumption)); walk_at "sub") | ((with_reducible refine Kp.sub2 ?h1 (by assumption) ?h2); (case h2 => walk_at "fr"); (case h1 => walk_at "sub")))
local macro_rules | `(tactic| walk_at "kp") => `(tactic| first | exact Kp.refl | assumption | ((with_reducible refine Kp.set ?_); walk_at "kp") | ((with_reducible refine Kp.up2 ?_ (by assumption)); walk_at "kp") | ((with_reducible refine Kp.upF ?_ ?h); (case h => walk_at "fr"); walk_at "kp") | ((with_reducible refine Kp.sub ?_ (by assumption)); walk_at "kp") | ((with_reducible refine Kp.trans ?_ (by assumption)); walk_at "kp") | ((with_reducible refine Kp.tr2 ?h1 (by assumption) ?h2); (case h2 => walk_at "fr"); (case h1 => walk_at "kp")) | (refine Kp.of ?_; walk_at "sub"))
local macro_rules | `(tactic| walk_at "keep") => `(tactic| first | with_reducible exact Keep.refl | assumption | ((with_reducible refine Keep.up2 ?_ (by assumption)); walk_at "keep") | ((with_reducible refine Keep.sub ?_ (by assumption)); walk_at "keep") | ((with_reducible refine Keep.trans ?_ (by assumption)); walk_at "keep"))
local macro_rules | `(tactic| walk_at "ne") => `(tactic| first | assumption | (apply Ne.symm; assumption) | ((with_reducible refine sneF (S := ?S) (o := ?o) ?h1 ?h2); (case h2 => assumption); (case h1 => walk_at "fact")) | ((with_reducible refine Ne.symm (sneF (S := ?S) (o := ?o) ?h1 ?h2)); (case h2 => assumption); (case h1 => walk_at "fact")))
local macro_rules | `(tactic| walk_at "fact") => `(tactic| first | assumption | exact up_same | ((with_reducible refine up_at (by assumption) ?_); walk_at "fact") | ((with_reducible refine up_at2 ?h ?_); (case h => walk_at "ne"); walk_at "fact") | ((with_reducible refine Sub.at (by assumption) ?_); walk_at "fact") | ((with_reducible refine Kp.at (by assumption) ?h ?_); (case h => walk_at "ne"); walk_at "fact"))
local macro_rules | `(tactic| walk_at "sok") => `(tactic| first | assumption | (refine sOk_lit ?_; decide +kernel) | ((with_reducible refine sOk.cut ?_ _ _); walk_at "sok") | ((with_reducible refine sOk.app (n := ?n) (m := ?m) ?h1 ?h2); (case h1 => walk_at "sok"); (case h2 => walk_at "sok")))
local macro_rules | `(tactic| walk_at "fr") => `(tactic| first | assumption | ((refine Sub.nn (S' := ?S') ?h1 ?h2); (case h2 => assumption); (case h1 => walk_at "sub")))
local macro_rules | `(tactic| walk_at "len") => `(tactic| first | (refine sOk.le (n := ?n) ?h1 ?h2; (case h1 => walk_at "sok"); (case h2 => decide)) | omega | decide +kernel)
local macro_rules | `(tactic| walk_at "ints") => `(tactic| first | exact all_nil | (refine all_cons ⟨_, rfl, by omega, by omega⟩ ?_; walk_at "ints") | (refine all_cons ⟨_, rfl⟩ ?_; walk_at "ints"))
local macro_rules | `(tactic| walk_at "d2") => `(tactic| fail "d2")
local macro_rules | `(tactic| walk_at "d1") => `(tactic| first
  | with_reducible refine w_seqE ?_
  | with_reducible refine w_retE ?_
  | with_reducible refine w_nextE ?_
  | with_reducible refine w_rtE ?_
  | with_reducible refine w_nxE ?_
  | with_reducible refine w_asgE ?_
  | with_reducible refine w_dropE ?_
  | with_reducible refine w_retNE ?_
  | with_reducible refine w_seq ?_
  | ((with_reducible refine w_var (d := ?d) ?h ?_); (case h => exact rfl))
  | with_reducible refine w_con ?_
  | with_reducible refine w_cons ?_
  | with_reducible refine w_nil ?_
  | with_reducible refine w_op ?_
  | with_reducible refine w_call ?_
  | with_reducible refine w_asg ?_
  | with_reducible refine w_name ?_
  | with_reducible refine w_ret ?_
  | with_reducible refine w_retE ?_
  | with_reducible refine w_if ?_
  | with_reducible refine w_test ?_
  | with_reducible refine w_tk ?_
  | with_reducible refine w_seqE ?_
  | with_reducible refine w_drop ?_
  | with_reducible refine w_next ?_
  | with_reducible refine w_nextE ?_
  | with_reducible refine w_nx ?_
  | with_reducible refine w_ct ?_
  | with_reducible refine w_rt ?_
  | with_reducible refine w_rtE ?_
  | with_reducible refine w_nxE ?_
  | with_reducible refine w_bk ?_
  | with_reducible refine w_retN ?_
  | with_reducible refine w_retNE ?_
  | with_reducible refine w_asgE ?_
  | with_reducible refine w_dropE ?_
  | with_reducible refine w_cont ?_
  | with_reducible refine w_break ?_
  | with_reducible refine w_for ?_
  | with_reducible refine w_lc ?_
  | with_reducible refine w_iL ?_
  | with_reducible refine w_iT ?_
  | with_reducible refine w_iE ?_
  | with_reducible refine w_iR1 ?_
  | with_reducible refine w_iR2 ?_
  | with_reducible refine w_iR3 ?_
  | with_reducible refine w_tkI ?_
  | with_reducible refine w_and ?_
  | with_reducible refine w_or ?_
  | with_reducible refine w_not ?_
  | with_reducible refine w_yes ?_
  | with_reducible refine w_andV ?_
  | with_reducible refine w_orV ?_
  | with_reducible refine w_notV ?_
  | with_reducible refine w_ifE ?_
  | with_reducible refine w_un ?_
  | with_reducible refine w_neg ?_
  | with_reducible refine w_tup ?_
  | with_reducible refine w_lst ?_
  | ((with_reducible refine w_tupk ?h ?_); (case h => exact rfl))
  | ((with_reducible refine w_lstk ?h ?_); (case h => exact rfl))
  | with_reducible refine w_int0 ?_
  | with_reducible refine w_addI ?_
  | with_reducible refine w_cb ?_
  | with_reducible refine w_sl ?_
  | with_reducible refine w_no ?_
  | with_reducible refine w_part ?_
  | with_reducible refine w_partk ?_
  | with_reducible refine w_bm ?_
  | with_reducible refine w_bmS ?_
  | with_reducible refine w_get2 ?_
  | with_reducible refine w_newK ?_
  | with_reducible refine w_isi ?_
  | with_reducible refine w_nnil ?_
  | with_reducible refine w_ncons ?_
  | with_reducible refine w_nsub ?_
  | with_reducible refine w_brT ?_
  | with_reducible refine w_brF ?_
  | with_reducible refine w_brB ?_
  | with_reducible refine w_ltI ?_
  | with_reducible refine w_ltS ?_
  | with_reducible refine w_eqI ?_
  | with_reducible refine w_neI ?_
  | with_reducible refine w_neB ?_
  | with_reducible refine w_isN ?_
  | with_reducible refine w_isT ?_
  | with_reducible refine w_isI ?_
  | with_reducible refine w_isS ?_
  | with_reducible refine w_isR ?_
  | with_reducible refine w_ntN ?_
  | with_reducible refine w_ntT ?_
  | with_reducible refine w_ntI ?_
  | with_reducible refine w_ntS ?_
  | with_reducible refine w_ntR ?_
  | with_reducible refine w_slT ?_
  | with_reducible refine w_lenT ?_
  | with_reducible refine w_intI ?_
  | with_reducible refine w_intB ?_
  | with_reducible refine w_max ?_
  | with_reducible refine w_min ?_
  | with_reducible refine w_abs ?_
  | with_reducible refine w_pow12 ?_
  | with_reducible refine w_pow18 ?_
  | with_reducible refine w_pow9 ?_
  | with_reducible refine w_pow10 ?_
  | with_reducible refine w_pow11 ?_
  | ((with_reducible refine w_mod ?h ?_); (case h => omega))
  | ((with_reducible refine w_mulL ?h1 ?h2 ?_); (case h1 => omega); (case h2 => omega))
  | ((with_reducible refine w_mulR ?h1 ?h2 ?_); (case h1 => omega); (case h2 => omega))
  | ((with_reducible refine w_fdiv ?h1 ?h2 ?_); (case h1 => omega); (case h2 => omega))
  | ((with_reducible refine w_ixT (z := ?z) ?h ?_); (case h => exact rfl))
  | ((with_reducible refine w_ixL (xs := ?xs) (z := ?z) ?h ?e ?_); (case h => walk_at "fact"); (case e => exact rfl))
  | ((with_reducible refine w_draw ?h ?h0 ?h1 ?_); (case h => walk_at "fact"); (case h0 => omega); (case h1 => omega))
  | ((with_reducible refine w_lenLS (ws := ?xs) ?h ?_); (case h => walk_at "fact"))
  | ((with_reducible refine w_lenL (xs := ?xs) ?h ?_); (case h => walk_at "fact"))
  | ((with_reducible refine w_bmL (ds := ?xs) ?h ?_); (case h => walk_at "fact"))
  | ((with_reducible refine w_app (ds := ?xs) ?h ?hl ?_); (case h => walk_at "fact"); (case hl => simp only [List.length_append, List.length_cons, List.length_nil, List.length_map]; omega))
  | ((with_reducible refine w_addT ?h ?_); (case h => exact rfl))
  | ((with_reducible refine w_addS2 (n := ?n) (m := ?m) ?h1 ?h2 ?h ?_); (case h1 => walk_at "sok"); (case h2 => walk_at "sok"); (case h => exact rfl))
  | ((with_reducible refine w_slS ?h ?_); (case h => walk_at "len"))
  | ((with_reducible refine w_lenS ?h ?_); (case h => walk_at "len"))
  | ((with_reducible refine w_slL (xs := ?xs) ?h ?_); (case h => walk_at "fact"))
  | ((with_reducible refine w_listR (xs := ?xs) ?h ?_); (case h => walk_at "fact"))
  | ((with_reducible refine w_gk (kvs := ?xs) ?h ?_); (case h => walk_at "fact"))
  | ((with_reducible refine w_eqSt ?h ?_); (case h => decide +kernel))
  | ((with_reducible refine w_eqSf ?h ?_); (case h => decide +kernel))
  | ((with_reducible refine w_neSt ?h ?_); (case h => decide +kernel))
  | ((with_reducible refine w_neSf ?h ?_); (case h => decide +kernel))
  | ((with_reducible refine w_inT (k := true) ?h1 ?h2 ?h3 ?_); (case h1 => exact rfl); (case h2 => exact rfl); (case h3 => decide +kernel))
  | ((with_reducible refine w_inT (k := false) ?h1 ?h2 ?h3 ?_); (case h1 => exact rfl); (case h2 => exact rfl); (case h3 => decide +kernel))
  | ((with_reducible refine w_r1 ?h1 ?h2 ?_); (case h1 => omega); (case h2 => omega))
  | ((with_reducible refine w_r2 ?h1 ?h2 ?h3 ?h4 ?_); (case h1 => omega); (case h2 => omega); (case h3 => omega); (case h4 => omega))
  | ((with_reducible refine w_r3 ?h1 ?h2 ?h3 ?h4 ?_); (case h1 => omega); (case h2 => omega); (case h3 => omega); (case h4 => omega))
  | ((with_reducible refine w_brD ?h ?_); (case h => first | assumption | omega))
  | ((with_reducible refine w_brN ?h ?_); (case h => first | assumption | omega))
  | ((with_reducible refine w_putL (xs := ?xs) (j := ?j) ?h ?e ?_); (case h => walk_at "fact"); (case e => exact rfl))
  | ((with_reducible refine w_pop0 (ds := ?xs) (d := ?d) ?h ?_); (case h => walk_at "fact"))
  | ((with_reducible refine w_ins0 (ds := ?xs) ?h ?hl ?_); (case h => walk_at "fact"); (case hl => simp only [List.length_append, List.length_cons, List.length_nil, List.length_map]; omega))
  | with_reducible refine w_disp ?_
  | with_reducible refine w_dpcons ?_
  | with_reducible refine w_dpnil ?_
  | ((with_reducible refine w_dispk (kvs := ?kvs) ?h ?e ?l ?_); (case h => walk_at "fact"); (case e => exact rfl); (case l => exact rfl))
  | walk_at "d2"
  | with_reducible intro _)
local macro_rules | `(tactic| walk_at "d") => `(tactic| repeat' (walk_at "d1"))
local macro_rules | `(tactic| walk_at "dd") => `(tactic| repeat' (first | walk_at "d1" | walk_at "two"))
local macro_rules | `(tactic| walk_at "two") => `(tactic| first | with_reducible refine br_dec (fun _ => ?_) (fun _ => ?_) | with_reducible refine br_b (fun _ => ?_) (fun _ => ?_))
theorem at_row {S : Sr} {Q : DK} {r : Addr} {l : List DV} {i : Nat} {z : DV} (h : S r = some (.lst l)) (hi : l[i]? = some z) (q : Q z S) : rIx2 (.ref r) (.int (0 + (i : Int) * 1)) S Q := by
  refine w_ixL h ?_ q
  have hl := (List.getElem?_eq_some_iff.mp hi).1
  rw [show (0 + (i : Int) * 1) = (i : Int) by omega]
  unfold atI ixN
  rw [if_pos (by omega), if_pos (by omega)]
  show l[((i : Int)).toNat]? = _
  rw [Int.toNat_natCast]
  exact hi
local macro_rules | `(tactic| walk_at "d2") => `(tactic| first
  | ((with_reducible refine at_row (l := ?l) (z := ?z) ?h ?hi ?_); (case h => walk_at "fact"); (case hi => assumption))
  | ((with_reducible show sp_l_end _ _ _ _ _); refine ⟨_, _, rfl, ?h, ?h0, ?h1, ?_⟩; (case h => walk_at "fact"); (case h0 => omega); (case h1 => omega); intro _ _ _ _ _)
  | ((with_reducible refine ix_amt _ ?_))
  | ((with_reducible refine ix_w0 _ ?_))
  | ((with_reducible refine ix_a0 _ ?_))
  | ((with_reducible refine ix_r0 _ ?_))
  | with_reducible refine w_far ?_
  | with_reducible refine nt_ans ?_
  | ((with_reducible show sp_l_changed _ _ _ _ _); refine ⟨_, _, _, _, _, rfl, ⟨?h, ?h2, ?h3⟩, ?h4, ?_⟩; (case h => walk_at "fact"); (case h2 => assumption); (case h3 => assumption); (case h4 => omega); intro _ _ _ _)
  | ((with_reducible refine w_getI (kvs := ?xs) ?h ?hi ?_); (case h => walk_at "fact"); (case hi => assumption)))
structure RowsAt (S : Sr) (r : Addr) (rows : List Rw) : Prop where
  h : S r = some (.lst (rows.map Rw.enc))
  g : ∀ x, x ∈ rows → x.gd
  d : doneOk rows
  l : rows.length ≤ 100
theorem RowsAt.sub {S S' : Sr} {r : Addr} {rows : List Rw} (h : RowsAt S r rows) (s : Dv.Sub S S') : RowsAt S' r rows := ⟨s _ _ h.h, h.g, h.d, h.l⟩
theorem doneOk.cm {rows : List Rw} (h : doneOk rows) {n t : Int} {a : Ans} (m : Rw.done n t a ∈ rows) : ∃ c, lastC rows n = some c := by
  have := cm_ex (n := n) (rows := rows) (acc := none) (.inr (h n t a m))
  cases q : lastC rows n with
  | none => exact absurd q this
  | some c => exact ⟨c, rfl⟩
theorem ents_snoc {rows : List Rw} {i : Nat} {x : Rw} (h : rows[i]? = some x) : fmA (entF rows) 0 (rows.take (i + 1)) = fmA (entF rows) 0 (rows.take i) ++ (entF rows i x).toList := by
  obtain ⟨hl, e⟩ := List.getElem?_eq_some_iff.mp h
  rw [List.take_succ_eq_append_getElem hl, fmA_snoc, e, List.length_take, Nat.min_eq_left (Nat.le_of_lt hl)]
theorem entF_done {all : List Rw} {k : Nat} {n t : Int} {a : Ans} : entF all k (.done n t a) = (lastC all n).map fun c => ⟨k, n, t, c.p, c.q, c.d, a⟩ := rfl
def encE (e : Ent) : DV := .tup [.int (e.k : Int), .tup [.str e.p, .str e.q], .int e.t]
def sp_l_entries (K : PySem.W.Frag) : SpD := fun ds S Q _ => ∃ (r : Addr) (rows : List Rw), ds = [.ref r] ∧ RowsAt S r rows ∧ ∀ p S', Dv.Sub S S' → Fr S p → S' p = some (.lst ((ents rows).map encE)) → Q (.ref p) S'
def t_l_entries (K : PySem.W.Frag) : DS := (sSeq (sAsg (dCb rDictP (dCons (dLc (iL (dVar 0)) (nName 4) (dTest (dOp rEqD (dOp rIx2 (dVar 4) (dCon (.int 0))) (dCon (.str "came")))) (dTup (dCons (dOp rIx2 (dVar 4) (dCon (.int 1))) (dCons (dSl (dVar 4) (dPart (dCon (.int 3))) (dPart (dCon (.int 5)))) dNil))) [4]) dNil)) (nName 1))
    (sSeq (sAsg (dLst dNil) (nName 2))
    (sSeq (sFor (iR1 (dCons (dCb rLen2 (dCons (dVar 0) dNil)) dNil)) (nName 3) (sSeq (sIf (dTest (dOp rEqD (dOp rIx2 (dOp rIx2 (dVar 0) (dVar 3)) (dCon (.int 0))) (dCon (.str "kept")))) (sDrop (dBM "list" rApp (dVar 2) (dCons (dTup (dCons (dVar 3) (dCons (dSl (dOp rIx2 (dVar 0) (dVar 3)) (dPart (dCon (.int 3))) (dPart (dCon (.int 5)))) (dCons (dOp rIx2 (dOp rIx2 (dVar 0) (dVar 3)) (dCon (.int 2))) dNil)))) dNil))) sNext)
    (sIf (dTest (dOp rEqD (dOp rIx2 (dOp rIx2 (dVar 0) (dVar 3)) (dCon (.int 0))) (dCon (.str "done")))) (sDrop (dBM "list" rApp (dVar 2) (dCons (dTup (dCons (dVar 3) (dCons (dOp rIx2 (dVar 1) (dOp rIx2 (dOp rIx2 (dVar 0) (dVar 3)) (dCon (.int 1)))) (dCons (dOp rIx2 (dOp rIx2 (dVar 0) (dVar 3)) (dCon (.int 2))) dNil)))) dNil))) sNext)))
    (sRet (dVar 2)))))
theorem rd_l_entries (K : PySem.W.Frag) : ∀ ds S Q (Ed : DXK), sp_l_entries K ds S Q Ed → Opens K S (t_l_entries K (dEnd K Q) (startS N_l_entries ds)) := by
  rintro _ S Q _ ⟨r, rows, rfl, R, q⟩
  have hr := R.h
  have rl := R.l
  refine Opens.here ?_
  unfold t_l_entries
  walk_at "d"
  refine lc_mapF Rw.enc (fun x => (cameKv (fun _ c => .tup [.str c.p, .str c.q]) x).map fun kv => .tup [keyD kv.1, kv.2]) hr (by omega) (fun x S0 R N hx s0 ry rn => ?_) fun D S1 s1 n1 h1 => ?_
  · cases x <;> dsimp only [Rw.enc] <;> walk_at "d"
    all_goals first
      | exact ry _ _ (by walk_at "sub") rfl
      | exact rn _ (by walk_at "sub") rfl
  rw [← List.map_filterMap] at h1
  walk_at "d"
  refine ⟨_, h1, fun b nb => ?_⟩
  have nb' : Fr S1 b := nb
  have hcm := fun n => cm_dict (fun _ c => .tup [.str c.p, .str c.q]) n rows [] none rfl
  generalize mergeD [] (rows.filterMap (cameKv (fun _ c => .tup [.str c.p, .str c.q]))) = kvs at hcm ⊢
  walk_at "d"
  rename_i p hp
  have rlm : (rows.map Rw.enc).length = rows.length := List.length_map ..
  walk_at "d"
  rw [show ((rows.map Rw.enc).length : Int).toNat = rows.length by omega]
  have npb : b ≠ p := by walk_at "ne"
  have fp : Fr S p := by walk_at "fr"
  refine for_rng (fun i σ S' => ∃ (o3 o4 : Option DV), σ = [some (.ref r), some (.ref b), some (.ref p), o3, o4] ∧ Kp p S S' ∧ S' b = some (.dK kvs) ∧ S' p = some (.lst ((fmA (entF rows) 0 (rows.take i)).map encE))) ?_ ?_ ?_
  · exact ⟨_, _, rfl, by walk_at "kp", by walk_at "fact", up_same⟩
  · rintro i σ S' hi ⟨o3, o4, rfl, k, hb, hp'⟩
    have hx : rows[i]? = some rows[i] := List.getElem?_eq_getElem hi
    have es := ents_snoc hx
    have ll := fmA_len (f := entF rows) (rows.take i) 0
    rw [List.length_take] at ll
    have hm : rows[i] ∈ rows := List.getElem_mem hi
    have hz : (rows.map Rw.enc)[i]? = some (rows[i]).enc := by rw [List.getElem?_map, hx]; rfl
    generalize rows[i] = x at hx es hm hz
    cases x <;> dsimp only [Rw.enc] at hz
    case kept n t p1 q1 d a =>
      walk_at "d"
      refine ⟨_, _, rfl, by walk_at "kp", by walk_at "fact", ?_⟩
      rw [es, List.map_append, up_same, show (0 + (i : Int) * 1) = (i : Int) by omega]
      rfl
    case done n t a =>
      obtain ⟨c, hc⟩ := R.d.cm hm
      have hv : vD kvs (.inl n) = some (.tup [.str c.p, .str c.q]) := by
        rw [hcm n]
        show (lastC rows n).map _ = _
        rw [hc]; rfl
      walk_at "d"
      refine w_ixKi (by walk_at "fact") hv ?_
      walk_at "d"
      refine ⟨_, _, rfl, by walk_at "kp", by walk_at "fact", ?_⟩
      rw [es, List.map_append, up_same, show (0 + (i : Int) * 1) = (i : Int) by omega, entF_done, hc]
      rfl
    all_goals
      walk_at "d"
      refine ⟨_, _, rfl, by walk_at "kp", by walk_at "fact", ?_⟩
      rw [es, List.map_append]
      show _ = some (MO.lst (_ ++ []))
      rw [List.append_nil]
      walk_at "fact"
  · rintro σ S' ⟨o3, o4, rfl, k, hb, hp'⟩
    rw [List.take_length] at hp'
    walk_at "d"
    exact Opens.here (q _ _ (by walk_at "sub") (by walk_at "fr") hp')
end K72
set_option Elab.async false
set_option linter.all false
set_option maxRecDepth 100000
set_option maxHeartbeats 1000000
namespace Dv
open PySem PySem.Spec PyProof.Rows L2
theorem w_ntup2 {t1 t2 : DG} {ds : List DV} {a b : DV} {σ : DSt} {S : Sr} {F : DSt → Sr → Prop} (h : ds = [a, b]) (q : t1 a σ S fun σ1 S1 => t2 b σ1 S1 F) : nTup 2 (nCons t1 (nCons t2 nNil)) (.tup ds) σ S F := by subst h; exact ⟨rfl, q⟩
theorem w_ntup3 {t1 t2 t3 : DG} {ds : List DV} {a b c : DV} {σ : DSt} {S : Sr} {F : DSt → Sr → Prop} (h : ds = [a, b, c]) (q : t1 a σ S fun σ1 S1 => t2 b σ1 S1 fun σ2 S2 => t3 c σ2 S2 F) : nTup 3 (nCons t1 (nCons t2 (nCons t3 nNil))) (.tup ds) σ S F := by subst h; exact ⟨rfl, q⟩
theorem at_int {S : Sr} {Q : DK} {r : Addr} {l : List DV} {i : Nat} {k : Int} {z : DV} (h : S r = some (.lst l)) (hi : l[i]? = some z) (e : k = (i : Int)) (q : Q z S) : rIx2 (.ref r) (.int k) S Q := by
  refine w_ixL h ?_ q
  have hl := (List.getElem?_eq_some_iff.mp hi).1
  subst e
  unfold atI ixN
  rw [if_pos (by omega), if_pos (by omega)]
  show l[((i : Int)).toNat]? = _
  rw [Int.toNat_natCast]
  exact hi
/-- enumerate of a list of values of a type of ours -/
theorem for_enumM {α : Type} (enc : α → DV) {l : List α} {x : Addr} {g : DG} {tb : DS} {n : DSt → Sr → Prop} {r : DK} {b c : DSt → Sr → Prop} {σ : DSt} {S : Sr} (hx : S x = some (.lst (l.map enc))) (P : Nat → DSt → Sr → Prop) (h0 : P 0 σ S) (hl : ∀ i σ S, P i σ S → S x = some (.lst (l.map enc)))
    (hs : ∀ i a σ S, l[i]? = some a → P i σ S → g (.tup [.int (i : Int), enc a]) σ S fun σ2 S2 => tb ⟨P (i + 1), r, n, P (i + 1)⟩ σ2 S2)
    (hd : ∀ σ S, P l.length σ S → n σ S) : ek (fun J S => ForQ J g tb ⟨n, r, b, c⟩ σ S) [.ref x] S := by
  refine for_enum (x := .ref x) (ds := l.map enc) (D := ⟨n, r, b, c⟩) hx (fun pre σ S => P pre.length σ S) h0 (fun pre σ S p => hl _ σ S p) (fun pre d post σ S e p => ?_) fun σ S p => hd σ S ?_
  · have hlt : pre.length < l.length := by
      have := congrArg List.length e
      simp at this; omega
    have hd : d = enc l[pre.length] := by
      have e1 : (l.map enc)[pre.length]? = some d := by rw [e]; simp
      rw [List.getElem?_map, List.getElem?_eq_getElem hlt] at e1
      exact (Option.some.inj e1).symm
    subst hd
    have := hs pre.length l[pre.length] σ S (List.getElem?_eq_getElem hlt) p
    rw [show (pre ++ [enc l[pre.length]]).length = pre.length + 1 by simp]
    exact this
  · rw [List.length_map] at p
    exact p
theorem EqD.two {S : Sr} {a b c d : Str} (ha : PyData.strOk a = true) (hb : PyData.strOk b = true) (hc : PyData.strOk c = true) (hd : PyData.strOk d = true) : EqD S (.tup [.str a, .str b]) (.tup [.str c, .str d]) (decide (c = a ∧ d = b)) := by
  have h := EqD.data (S := S) (n := 1) (good_tup (n := 0) (all_cons (good_str ha) (all_cons (good_str hb) all_nil))) (good_tup (n := 0) (all_cons (good_str hc) (all_cons (good_str hd) all_nil))) (by decide)
  have e : PyData.eqv (toP (.tup [.str a, .str b])) (toP (.tup [.str c, .str d])) = decide (c = a ∧ d = b) := by
    show ((a == c) && ((b == d) && true)) = _
    rw [Bool.and_true]
    by_cases h1 : a = c
    · by_cases h2 : b = d
      · subst h1; subst h2; simp
      · rw [beq_eq_false_iff_ne.mpr h2, Bool.and_false, decide_eq_false]
        exact fun z => h2 z.2.symm
    · rw [beq_eq_false_iff_ne.mpr h1, Bool.false_and, decide_eq_false]
      exact fun z => h1 z.1.symm
  rw [e] at h
  exact h
end Dv
namespace K72
open PySem PySem.Spec PyProof.Rows L2 Dv Ty
local macro_rules | `(tactic| walk_at "sub") => `(tactic| first | with_reducible exact Sub.refl | assumption | ((with_reducible refine Sub.up2 ?_ (by assumption)); walk_at "sub") | ((with_reducible refine Sub.upF ?_ (by first | assumption | exact Sub.nn (by assumption) (by assumption))); walk_at "sub") | ((with_reducible refine Sub.trans ?_ (by assumption)); walk_at "sub") | ((with_reducible refine Kp.sub2 ?h1 (by assumption) ?h2); (case h2 => walk_at "fr"); (case h1 => walk_at "sub")))
local macro_rules | `(tactic| walk_at "kp") => `(tactic| first | exact Kp.refl | assumption | ((with_reducible refine Kp.set ?_); walk_at "kp") | ((with_reducible refine Kp.up2 ?_ (by assumption)); walk_at "kp") | ((with_reducible refine Kp.upF ?_ ?h); (case h => walk_at "fr"); walk_at "kp") | ((with_reducible refine Kp.sub ?_ (by assumption)); walk_at "kp") | ((with_reducible refine Kp.trans ?_ (by assumption)); walk_at "kp") | ((with_reducible refine Kp.tr2 ?h1 (by assumption) ?h2); (case h2 => walk_at "fr"); (case h1 => walk_at "kp")) | (refine Kp.of ?_; walk_at "sub"))
local macro_rules | `(tactic| walk_at "keep") => `(tactic| first | with_reducible exact Keep.refl | assumption | ((with_reducible refine Keep.up2 ?_ (by assumption)); walk_at "keep") | ((with_reducible refine Keep.sub ?_ (by assumption)); walk_at "keep") | ((with_reducible refine Keep.trans ?_ (by assumption)); walk_at "keep"))
local macro_rules | `(tactic| walk_at "ne") => `(tactic| first | assumption | (apply Ne.symm; assumption) | ((with_reducible refine sneF (S := ?S) (o := ?o) ?h1 ?h2); (case h2 => assumption); (case h1 => walk_at "fact")) | ((with_reducible refine Ne.symm (sneF (S := ?S) (o := ?o) ?h1 ?h2)); (case h2 => assumption); (case h1 => walk_at "fact")))
local macro_rules | `(tactic| walk_at "fact") => `(tactic| first | assumption | exact up_same | ((with_reducible refine up_at (by assumption) ?_); walk_at "fact") | ((with_reducible refine up_at2 ?h ?_); (case h => walk_at "ne"); walk_at "fact") | ((with_reducible refine Sub.at (by assumption) ?_); walk_at "fact") | ((with_reducible refine Kp.at (by assumption) ?h ?_); (case h => walk_at "ne"); walk_at "fact"))
local macro_rules | `(tactic| walk_at "sok") => `(tactic| first | assumption | (refine sOk_lit ?_; decide +kernel) | ((with_reducible refine sOk.cut ?_ _ _); walk_at "sok") | ((with_reducible refine sOk.app (n := ?n) (m := ?m) ?h1 ?h2); (case h1 => walk_at "sok"); (case h2 => walk_at "sok")))
local macro_rules | `(tactic| walk_at "fr") => `(tactic| first | assumption | ((refine Sub.nn (S' := ?S') ?h1 ?h2); (case h2 => assumption); (case h1 => walk_at "sub")))
local macro_rules | `(tactic| walk_at "len") => `(tactic| first | (refine sOk.le (n := ?n) ?h1 ?h2; (case h1 => walk_at "sok"); (case h2 => decide)) | omega | decide +kernel)
local macro_rules | `(tactic| walk_at "ints") => `(tactic| first | exact all_nil | (refine all_cons ⟨_, rfl, by omega, by omega⟩ ?_; walk_at "ints") | (refine all_cons ⟨_, rfl⟩ ?_; walk_at "ints"))
local macro_rules | `(tactic| walk_at "d2") => `(tactic| fail "d2")
local macro_rules | `(tactic| walk_at "d1") => `(tactic| first
  | with_reducible refine w_seqE ?_
  | with_reducible refine w_retE ?_
  | with_reducible refine w_nextE ?_
  | with_reducible refine w_rtE ?_
  | with_reducible refine w_nxE ?_
  | with_reducible refine w_asgE ?_
  | with_reducible refine w_dropE ?_
  | with_reducible refine w_retNE ?_
  | with_reducible refine w_seq ?_
  | ((with_reducible refine w_var (d := ?d) ?h ?_); (case h => exact rfl))
  | with_reducible refine w_con ?_
  | with_reducible refine w_cons ?_
  | with_reducible refine w_nil ?_
  | with_reducible refine w_op ?_
  | with_reducible refine w_call ?_
  | with_reducible refine w_asg ?_
  | with_reducible refine w_name ?_
  | with_reducible refine w_ret ?_
  | with_reducible refine w_retE ?_
  | with_reducible refine w_if ?_
  | with_reducible refine w_test ?_
  | with_reducible refine w_tk ?_
  | with_reducible refine w_seqE ?_
  | with_reducible refine w_drop ?_
  | with_reducible refine w_next ?_
  | with_reducible refine w_nextE ?_
  | with_reducible refine w_nx ?_
  | with_reducible refine w_ct ?_
  | with_reducible refine w_rt ?_
  | with_reducible refine w_rtE ?_
  | with_reducible refine w_nxE ?_
  | with_reducible refine w_bk ?_
  | with_reducible refine w_retN ?_
  | with_reducible refine w_retNE ?_
  | with_reducible refine w_asgE ?_
  | with_reducible refine w_dropE ?_
  | with_reducible refine w_cont ?_
  | with_reducible refine w_break ?_
  | with_reducible refine w_for ?_
  | with_reducible refine w_lc ?_
  | with_reducible refine w_iL ?_
  | with_reducible refine w_iT ?_
  | with_reducible refine w_iE ?_
  | with_reducible refine w_iR1 ?_
  | with_reducible refine w_iR2 ?_
  | with_reducible refine w_iR3 ?_
  | with_reducible refine w_tkI ?_
  | with_reducible refine w_and ?_
  | with_reducible refine w_or ?_
  | with_reducible refine w_not ?_
  | with_reducible refine w_yes ?_
  | with_reducible refine w_andV ?_
  | with_reducible refine w_orV ?_
  | with_reducible refine w_notV ?_
  | with_reducible refine w_ifE ?_
  | with_reducible refine w_un ?_
  | with_reducible refine w_neg ?_
  | with_reducible refine w_tup ?_
  | with_reducible refine w_lst ?_
  | ((with_reducible refine w_tupk ?h ?_); (case h => exact rfl))
  | ((with_reducible refine w_lstk ?h ?_); (case h => exact rfl))
  | with_reducible refine w_int0 ?_
  | with_reducible refine w_addI ?_
  | with_reducible refine w_cb ?_
  | with_reducible refine w_sl ?_
  | with_reducible refine w_no ?_
  | with_reducible refine w_part ?_
  | with_reducible refine w_partk ?_
  | with_reducible refine w_bm ?_
  | with_reducible refine w_bmS ?_
  | with_reducible refine w_get2 ?_
  | with_reducible refine w_newK ?_
  | with_reducible refine w_isi ?_
  | with_reducible refine w_nnil ?_
  | with_reducible refine w_ncons ?_
  | with_reducible refine w_nsub ?_
  | with_reducible refine w_brT ?_
  | with_reducible refine w_brF ?_
  | with_reducible refine w_brB ?_
  | with_reducible refine w_ltI ?_
  | with_reducible refine w_ltS ?_
  | with_reducible refine w_eqI ?_
  | with_reducible refine w_neI ?_
  | with_reducible refine w_neB ?_
  | with_reducible refine w_isN ?_
  | with_reducible refine w_isT ?_
  | with_reducible refine w_isI ?_
  | with_reducible refine w_isS ?_
  | with_reducible refine w_isR ?_
  | with_reducible refine w_ntN ?_
  | with_reducible refine w_ntT ?_
  | with_reducible refine w_ntI ?_
  | with_reducible refine w_ntS ?_
  | with_reducible refine w_ntR ?_
  | with_reducible refine w_slT ?_
  | with_reducible refine w_lenT ?_
  | with_reducible refine w_intI ?_
  | with_reducible refine w_intB ?_
  | with_reducible refine w_max ?_
  | with_reducible refine w_min ?_
  | with_reducible refine w_abs ?_
  | with_reducible refine w_pow12 ?_
  | with_reducible refine w_pow18 ?_
  | with_reducible refine w_pow9 ?_
  | with_reducible refine w_pow10 ?_
  | with_reducible refine w_pow11 ?_
  | ((with_reducible refine w_mod ?h ?_); (case h => omega))
  | ((with_reducible refine w_mulL ?h1 ?h2 ?_); (case h1 => omega); (case h2 => omega))
  | ((with_reducible refine w_mulR ?h1 ?h2 ?_); (case h1 => omega); (case h2 => omega))
  | ((with_reducible refine w_fdiv ?h1 ?h2 ?_); (case h1 => omega); (case h2 => omega))
  | ((with_reducible refine w_ixT (z := ?z) ?h ?_); (case h => exact rfl))
  | ((with_reducible refine w_ixL (xs := ?xs) (z := ?z) ?h ?e ?_); (case h => walk_at "fact"); (case e => exact rfl))
  | ((with_reducible refine w_draw ?h ?h0 ?h1 ?_); (case h => walk_at "fact"); (case h0 => omega); (case h1 => omega))
  | ((with_reducible refine w_lenLS (ws := ?xs) ?h ?_); (case h => walk_at "fact"))
  | ((with_reducible refine w_lenL (xs := ?xs) ?h ?_); (case h => walk_at "fact"))
  | ((with_reducible refine w_bmL (ds := ?xs) ?h ?_); (case h => walk_at "fact"))
  | ((with_reducible refine w_app (ds := ?xs) ?h ?hl ?_); (case h => walk_at "fact"); (case hl => simp only [List.length_append, List.length_cons, List.length_nil, List.length_map]; omega))
  | ((with_reducible refine w_addT ?h ?_); (case h => exact rfl))
  | ((with_reducible refine w_addS2 (n := ?n) (m := ?m) ?h1 ?h2 ?h ?_); (case h1 => walk_at "sok"); (case h2 => walk_at "sok"); (case h => exact rfl))
  | ((with_reducible refine w_slS ?h ?_); (case h => walk_at "len"))
  | ((with_reducible refine w_lenS ?h ?_); (case h => walk_at "len"))
  | ((with_reducible refine w_slL (xs := ?xs) ?h ?_); (case h => walk_at "fact"))
  | ((with_reducible refine w_listR (xs := ?xs) ?h ?_); (case h => walk_at "fact"))
  | ((with_reducible refine w_gk (kvs := ?xs) ?h ?_); (case h => walk_at "fact"))
  | ((with_reducible refine w_eqSt ?h ?_); (case h => decide +kernel))
  | ((with_reducible refine w_eqSf ?h ?_); (case h => decide +kernel))
  | ((with_reducible refine w_neSt ?h ?_); (case h => decide +kernel))
  | ((with_reducible refine w_neSf ?h ?_); (case h => decide +kernel))
  | ((with_reducible refine w_inT (k := true) ?h1 ?h2 ?h3 ?_); (case h1 => exact rfl); (case h2 => exact rfl); (case h3 => decide +kernel))
  | ((with_reducible refine w_inT (k := false) ?h1 ?h2 ?h3 ?_); (case h1 => exact rfl); (case h2 => exact rfl); (case h3 => decide +kernel))
  | ((with_reducible refine w_r1 ?h1 ?h2 ?_); (case h1 => omega); (case h2 => omega))
  | ((with_reducible refine w_r2 ?h1 ?h2 ?h3 ?h4 ?_); (case h1 => omega); (case h2 => omega); (case h3 => omega); (case h4 => omega))
  | ((with_reducible refine w_r3 ?h1 ?h2 ?h3 ?h4 ?_); (case h1 => omega); (case h2 => omega); (case h3 => omega); (case h4 => omega))
  | ((with_reducible refine w_brD ?h ?_); (case h => first | assumption | omega))
  | ((with_reducible refine w_brN ?h ?_); (case h => first | assumption | omega))
  | ((with_reducible refine w_putL (xs := ?xs) (j := ?j) ?h ?e ?_); (case h => walk_at "fact"); (case e => exact rfl))
  | ((with_reducible refine w_pop0 (ds := ?xs) (d := ?d) ?h ?_); (case h => walk_at "fact"))
  | ((with_reducible refine w_ins0 (ds := ?xs) ?h ?hl ?_); (case h => walk_at "fact"); (case hl => simp only [List.length_append, List.length_cons, List.length_nil, List.length_map]; omega))
  | with_reducible refine w_disp ?_
  | with_reducible refine w_dpcons ?_
  | with_reducible refine w_dpnil ?_
  | ((with_reducible refine w_dispk (kvs := ?kvs) ?h ?e ?l ?_); (case h => walk_at "fact"); (case e => exact rfl); (case l => exact rfl))
  | walk_at "d2"
  | with_reducible intro _)
local macro_rules | `(tactic| walk_at "d") => `(tactic| repeat' (walk_at "d1"))
local macro_rules | `(tactic| walk_at "dd") => `(tactic| repeat' (first | walk_at "d1" | walk_at "two"))
local macro_rules | `(tactic| walk_at "two") => `(tactic| first | with_reducible refine br_dec (fun _ => ?_) (fun _ => ?_) | with_reducible refine br_b (fun _ => ?_) (fun _ => ?_))
local macro_rules | `(tactic| walk_at "d2") => `(tactic| first
  | ((with_reducible refine w_ntup2 (a := ?a) (b := ?b) ?h ?_); (case h => exact rfl))
  | ((with_reducible refine w_ntup3 (a := ?a) (b := ?b) (c := ?c) ?h ?_); (case h => exact rfl))
  | ((with_reducible refine at_row (l := ?l) (z := ?z) ?h ?hi ?_); (case h => walk_at "fact"); (case hi => assumption))
  | ((with_reducible show sp_l_end _ _ _ _ _); refine ⟨_, _, rfl, ?h, ?h0, ?h1, ?_⟩; (case h => walk_at "fact"); (case h0 => omega); (case h1 => omega); intro _ _ _ _ _)
  | ((with_reducible refine ix_amt _ ?_))
  | ((with_reducible refine ix_w0 _ ?_))
  | ((with_reducible refine ix_a0 _ ?_))
  | ((with_reducible refine ix_r0 _ ?_))
  | with_reducible refine w_far ?_
  | with_reducible refine nt_ans ?_
  | ((with_reducible show sp_l_changed _ _ _ _ _); refine ⟨_, _, _, _, _, rfl, ⟨?h, ?h2, ?h3⟩, ?h4, ?_⟩; (case h => walk_at "fact"); (case h2 => assumption); (case h3 => assumption); (case h4 => omega); intro _ _ _ _)
  | ((with_reducible refine w_getI (kvs := ?xs) ?h ?hi ?_); (case h => walk_at "fact"); (case hi => assumption)))
def cameV (n : Int) (c : Cm) : DV := .tup [.str "came", .int n, .int c.t, .str c.p, .str c.q, c.d.enc]
def sp_came_rows (K : PySem.W.Frag) : SpD := fun ds S Q _ => ∃ (r : Addr) (rows : List Rw), ds = [.ref r] ∧ RowsAt S r rows ∧ ∀ p kvs S', Dv.Sub S S' → Fr S p → S' p = some (.dK kvs) → (∀ n, vD kvs (.inl n) = (lastC rows n).map (cameV n)) → Q (.ref p) S'
def t_came_rows (K : PySem.W.Frag) : DS := (sSeq (sAsg dNewK (nName 1))
    (sSeq (sFor (iL (dVar 0)) (nName 2) (sIf (dTest (dOp rEqD (dOp rIx2 (dVar 2) (dCon (.int 0))) (dCon (.str "came")))) (sAsg (dVar 2) (nSub (dVar 1) (dOp rIx2 (dVar 2) (dCon (.int 1))))) sNext))
    (sRet (dVar 1))))
theorem merge_snoc (kvs l : List (Key × DV)) (x : Key × DV) : mergeD kvs (l ++ [x]) = pD (mergeD kvs l) x.1 x.2 := by
  unfold mergeD
  rw [List.foldl_append]; rfl
theorem rd_came_rows (K : PySem.W.Frag) : ∀ ds S Q (Ed : DXK), sp_came_rows K ds S Q Ed → Opens K S (t_came_rows K (dEnd K Q) (startS N_came_rows ds)) := by
  rintro _ S Q _ ⟨r, rows, rfl, R, q⟩
  have hr := R.h
  have rl := R.l
  refine Opens.here ?_
  unfold t_came_rows
  walk_at "d"
  rename_i p hp
  have npr : p ≠ r := by walk_at "ne"
  refine for_map Rw.enc (by walk_at "fact") (fun pre σ S' => ∃ (o2 : Option DV), σ = [some (.ref r), some (.ref p), o2] ∧ Kp p S S' ∧ S' p = some (.dK (mergeD [] (pre.filterMap (cameKv cameV))))) ?_ ?_ ?_ ?_
  · exact ⟨_, rfl, by walk_at "kp", up_same⟩
  · rintro pre σ S' ⟨o2, rfl, k, hp'⟩
    walk_at "fact"
  · rintro pre x post σ S' e ⟨o2, rfl, k, hp'⟩
    have hl : (mergeD [] (pre.filterMap (cameKv cameV))).length < 16777216 := by
      have h1 := len_merge (kvs := []) (more := pre.filterMap (cameKv cameV))
      have h2 := List.length_filterMap_le (cameKv cameV) pre
      have h3 := congrArg List.length e
      simp at h1 h3; omega
    cases x <;> dsimp only [Rw.enc] <;> walk_at "d"
    case came n t p1 q1 d =>
      refine w_putKi (by walk_at "fact") hl ?_
      walk_at "d"
      refine ⟨_, rfl, by walk_at "kp", ?_⟩
      rw [List.filterMap_append, up_same]
      show _ = some (MO.dK (mergeD [] (_ ++ [(Sum.inl n, cameV n ⟨t, p1, q1, d⟩)])))
      rw [merge_snoc]; rfl
    all_goals
      refine ⟨_, rfl, by walk_at "kp", ?_⟩
      rw [List.filterMap_append]
      show _ = some (MO.dK (mergeD [] (_ ++ [])))
      rw [List.append_nil]
      walk_at "fact"
  · rintro σ S' ⟨o2, rfl, k, hp'⟩
    walk_at "d"
    exact Opens.here (q _ _ _ (by walk_at "sub") hp hp' fun n => cm_dict cameV n rows [] none rfl)
def encT (e : Ent) : DV := .tup [.int e.n, .int e.t, .str e.p, .str e.q, e.d.enc, e.a.enc]
def sp_kept_of (K : PySem.W.Frag) : SpD := fun ds S Q _ => ∃ (r : Addr) (rows : List Rw), ds = [.ref r] ∧ RowsAt S r rows ∧ ∀ p S', Dv.Sub S S' → Fr S p → S' p = some (.lst ((ents rows).map encT)) → Q (.ref p) S'
def t_kept_of (K : PySem.W.Frag) : DS := (sSeq (sAsg (dCall (sp_came_rows K) Ed0 (dCons (dVar 0) dNil)) (nName 1))
    (sSeq (sAsg (dLst dNil) (nName 2))
    (sSeq (sFor (iL (dVar 0)) (nName 3) (sIf (dTest (dOp rEqD (dOp rIx2 (dVar 3) (dCon (.int 0))) (dCon (.str "kept")))) (sDrop (dBM "list" rApp (dVar 2) (dCons (dSl (dVar 3) (dPart (dCon (.int 1))) dNo) dNil))) (sIf (dTest (dOp rEqD (dOp rIx2 (dVar 3) (dCon (.int 0))) (dCon (.str "done")))) (sSeq (sAsg (dSl (dVar 3) (dPart (dCon (.int 1))) dNo) (nTup 3 (nCons (nName 4) (nCons (nName 5) (nCons (nName 6) nNil)))))
    (sSeq (sAsg (dSl (dOp rIx2 (dVar 1) (dVar 4)) (dPart (dCon (.int 3))) dNo) (nTup 3 (nCons (nName 7) (nCons (nName 8) (nCons (nName 9) nNil)))))
    (sDrop (dBM "list" rApp (dVar 2) (dCons (dTup (dCons (dVar 4) (dCons (dVar 5) (dCons (dVar 7) (dCons (dVar 8) (dCons (dVar 9) (dCons (dVar 6) dNil))))))) dNil))))) sNext)))
    (sRet (dVar 2)))))
theorem rd_kept_of (K : PySem.W.Frag) : ∀ ds S Q (Ed : DXK), sp_kept_of K ds S Q Ed → Opens K S (t_kept_of K (dEnd K Q) (startS N_kept_of ds)) := by
  rintro _ S Q _ ⟨r, rows, rfl, R, q⟩
  have hr := R.h
  have rl := R.l
  refine Opens.here ?_
  unfold t_kept_of
  walk_at "d"
  refine ⟨_, _, rfl, R, fun b kvs S1 s1 n1 hb hcm => ?_⟩
  walk_at "d"
  rename_i p hp
  have npr : p ≠ r := by walk_at "ne"
  have npb : b ≠ p := by walk_at "ne"
  have fp : Fr S p := by walk_at "fr"
  refine for_map Rw.enc (by walk_at "fact") (fun pre σ S' => ∃ (o3 o4 o5 o6 o7 o8 o9 : Option DV), σ = [some (.ref r), some (.ref b), some (.ref p), o3, o4, o5, o6, o7, o8, o9] ∧ Kp p S S' ∧ S' b = some (.dK kvs) ∧ S' p = some (.lst ((fmA (entF rows) 0 pre).map encT))) ?_ ?_ ?_ ?_
  · exact ⟨_, _, _, _, _, _, _, rfl, by walk_at "kp", by walk_at "fact", up_same⟩
  · rintro pre σ S' ⟨o3, o4, o5, o6, o7, o8, o9, rfl, k, hb', hp'⟩
    walk_at "fact"
  · rintro pre x post σ S' e ⟨o3, o4, o5, o6, o7, o8, o9, rfl, k, hb', hp'⟩
    have hm : x ∈ rows := by rw [e]; simp
    have ll := fmA_len (f := entF rows) pre 0
    have pl : pre.length ≤ 100 := by
      have := congrArg List.length e
      simp at this; omega
    cases x <;> dsimp only [Rw.enc]
    case kept n t p1 q1 d a =>
      walk_at "d"
      refine ⟨_, _, _, _, _, _, _, rfl, by walk_at "kp", by walk_at "fact", ?_⟩
      rw [fmA_snoc, List.map_append]
      exact up_same
    case done n t a =>
      obtain ⟨c, hc⟩ := R.d.cm hm
      have hv : vD kvs (.inl n) = some (cameV n c) := by rw [hcm n, hc]; rfl
      walk_at "d"
      refine w_ixKi (by walk_at "fact") hv ?_
      unfold cameV
      walk_at "d"
      refine ⟨_, _, _, _, _, _, _, rfl, by walk_at "kp", by walk_at "fact", ?_⟩
      rw [fmA_snoc, List.map_append, entF_done, hc]
      exact up_same
    all_goals
      walk_at "d"
      refine ⟨_, _, _, _, _, _, _, rfl, by walk_at "kp", by walk_at "fact", ?_⟩
      rw [fmA_snoc, List.map_append]
      show _ = some (MO.lst (_ ++ []))
      rw [List.append_nil]
      walk_at "fact"
  · rintro σ S' ⟨o3, o4, o5, o6, o7, o8, o9, rfl, k, hb', hp'⟩
    walk_at "d"
    exact Opens.here (q _ _ (by walk_at "sub") fp hp')
end K72
set_option Elab.async false
set_option linter.all false
set_option maxRecDepth 100000
set_option maxHeartbeats 1000000
namespace K72
open PySem PySem.Spec PyProof.Rows L2 Dv Ty
local macro_rules | `(tactic| walk_at "sub") => `(tactic| first | with_reducible exact Sub.refl | assumption | ((with_reducible refine Sub.up2 ?_ (by assumption)); walk_at "sub") | ((with_reducible refine Sub.upF ?_ (by first | assumption | exact Sub.nn (by assumption) (by assumption))); walk_at "sub") | ((with_reducible refine Sub.trans ?_ (by assumption)); walk_at "sub") | ((with_reducible refine Kp.sub2 ?h1 (by assumption) ?h2); (case h2 => walk_at "fr"); (case h1 => walk_at "sub")))
local macro_rules | `(tactic| walk_at "kp") => `(tactic| first | exact Kp.refl | assumption | ((with_reducible refine Kp.set ?_); walk_at "kp") | ((with_reducible refine Kp.up2 ?_ (by assumption)); walk_at "kp") | ((with_reducible refine Kp.upF ?_ ?h); (case h => walk_at "fr"); walk_at "kp") | ((with_reducible refine Kp.sub ?_ (by assumption)); walk_at "kp") | ((with_reducible refine Kp.trans ?_ (by assumption)); walk_at "kp") | ((with_reducible refine Kp.tr2 ?h1 (by assumption) ?h2); (case h2 => walk_at "fr"); (case h1 => walk_at "kp")) | (refine Kp.of ?_; walk_at "sub"))
local macro_rules | `(tactic| walk_at "keep") => `(tactic| first | with_reducible exact Keep.refl | assumption | ((with_reducible refine Keep.up2 ?_ (by assumption)); walk_at "keep") | ((with_reducible refine Keep.sub ?_ (by assumption)); walk_at "keep") | ((with_reducible refine Keep.trans ?_ (by assumption)); walk_at "keep"))
local macro_rules | `(tactic| walk_at "ne") => `(tactic| first | assumption | (apply Ne.symm; assumption) | ((with_reducible refine sneF (S := ?S) (o := ?o) ?h1 ?h2); (case h2 => assumption); (case h1 => walk_at "fact")) | ((with_reducible refine Ne.symm (sneF (S := ?S) (o := ?o) ?h1 ?h2)); (case h2 => assumption); (case h1 => walk_at "fact")))
local macro_rules | `(tactic| walk_at "fact") => `(tactic| first | assumption | exact up_same | ((with_reducible refine up_at (by assumption) ?_); walk_at "fact") | ((with_reducible refine up_at2 ?h ?_); (case h => walk_at "ne"); walk_at "fact") | ((with_reducible refine Sub.at (by assumption) ?_); walk_at "fact") | ((with_reducible refine Kp.at (by assumption) ?h ?_); (case h => walk_at "ne"); walk_at "fact"))
local macro_rules | `(tactic| walk_at "sok") => `(tactic| first | assumption | (refine sOk_lit ?_; decide +kernel) | ((with_reducible refine sOk.cut ?_ _ _); walk_at "sok") | ((with_reducible refine sOk.app (n := ?n) (m := ?m) ?h1 ?h2); (case h1 => walk_at "sok"); (case h2 => walk_at "sok")))
local macro_rules | `(tactic| walk_at "fr") => `(tactic| first | assumption | ((refine Sub.nn (S' := ?S') ?h1 ?h2); (case h2 => assumption); (case h1 => walk_at "sub")))
local macro_rules | `(tactic| walk_at "len") => `(tactic| first | (refine sOk.le (n := ?n) ?h1 ?h2; (case h1 => walk_at "sok"); (case h2 => decide)) | omega | decide +kernel)
local macro_rules | `(tactic| walk_at "ints") => `(tactic| first | exact all_nil | (refine all_cons ⟨_, rfl, by omega, by omega⟩ ?_; walk_at "ints") | (refine all_cons ⟨_, rfl⟩ ?_; walk_at "ints"))
local macro_rules | `(tactic| walk_at "d2") => `(tactic| fail "d2")
local macro_rules | `(tactic| walk_at "d1") => `(tactic| first
  | with_reducible refine w_seqE ?_
  | with_reducible refine w_retE ?_
  | with_reducible refine w_nextE ?_
  | with_reducible refine w_rtE ?_
  | with_reducible refine w_nxE ?_
  | with_reducible refine w_asgE ?_
  | with_reducible refine w_dropE ?_
  | with_reducible refine w_retNE ?_
  | with_reducible refine w_seq ?_
  | ((with_reducible refine w_var (d := ?d) ?h ?_); (case h => exact rfl))
  | with_reducible refine w_con ?_
  | with_reducible refine w_cons ?_
  | with_reducible refine w_nil ?_
  | with_reducible refine w_op ?_
  | with_reducible refine w_call ?_
  | with_reducible refine w_asg ?_
  | with_reducible refine w_name ?_
  | with_reducible refine w_ret ?_
  | with_reducible refine w_retE ?_
  | with_reducible refine w_if ?_
  | with_reducible refine w_test ?_
  | with_reducible refine w_tk ?_
  | with_reducible refine w_seqE ?_
  | with_reducible refine w_drop ?_
  | with_reducible refine w_next ?_
  | with_reducible refine w_nextE ?_
  | with_reducible refine w_nx ?_
  | with_reducible refine w_ct ?_
  | with_reducible refine w_rt ?_
  | with_reducible refine w_rtE ?_
  | with_reducible refine w_nxE ?_
  | with_reducible refine w_bk ?_
  | with_reducible refine w_retN ?_
  | with_reducible refine w_retNE ?_
  | with_reducible refine w_asgE ?_
  | with_reducible refine w_dropE ?_
  | with_reducible refine w_cont ?_
  | with_reducible refine w_break ?_
  | with_reducible refine w_for ?_
  | with_reducible refine w_lc ?_
  | with_reducible refine w_iL ?_
  | with_reducible refine w_iT ?_
  | with_reducible refine w_iE ?_
  | with_reducible refine w_iR1 ?_
  | with_reducible refine w_iR2 ?_
  | with_reducible refine w_iR3 ?_
  | with_reducible refine w_tkI ?_
  | with_reducible refine w_and ?_
  | with_reducible refine w_or ?_
  | with_reducible refine w_not ?_
  | with_reducible refine w_yes ?_
  | with_reducible refine w_andV ?_
  | with_reducible refine w_orV ?_
  | with_reducible refine w_notV ?_
  | with_reducible refine w_ifE ?_
  | with_reducible refine w_un ?_
  | with_reducible refine w_neg ?_
  | with_reducible refine w_tup ?_
  | with_reducible refine w_lst ?_
  | ((with_reducible refine w_tupk ?h ?_); (case h => exact rfl))
  | ((with_reducible refine w_lstk ?h ?_); (case h => exact rfl))
  | with_reducible refine w_int0 ?_
  | with_reducible refine w_addI ?_
  | with_reducible refine w_cb ?_
  | with_reducible refine w_sl ?_
  | with_reducible refine w_no ?_
  | with_reducible refine w_part ?_
  | with_reducible refine w_partk ?_
  | with_reducible refine w_bm ?_
  | with_reducible refine w_bmS ?_
  | with_reducible refine w_get2 ?_
  | with_reducible refine w_newK ?_
  | with_reducible refine w_isi ?_
  | with_reducible refine w_nnil ?_
  | with_reducible refine w_ncons ?_
  | with_reducible refine w_nsub ?_
  | with_reducible refine w_brT ?_
  | with_reducible refine w_brF ?_
  | with_reducible refine w_brB ?_
  | with_reducible refine w_ltI ?_
  | with_reducible refine w_ltS ?_
  | with_reducible refine w_eqI ?_
  | with_reducible refine w_neI ?_
  | with_reducible refine w_neB ?_
  | with_reducible refine w_isN ?_
  | with_reducible refine w_isT ?_
  | with_reducible refine w_isI ?_
  | with_reducible refine w_isS ?_
  | with_reducible refine w_isR ?_
  | with_reducible refine w_ntN ?_
  | with_reducible refine w_ntT ?_
  | with_reducible refine w_ntI ?_
  | with_reducible refine w_ntS ?_
  | with_reducible refine w_ntR ?_
  | with_reducible refine w_slT ?_
  | with_reducible refine w_lenT ?_
  | with_reducible refine w_intI ?_
  | with_reducible refine w_intB ?_
  | with_reducible refine w_max ?_
  | with_reducible refine w_min ?_
  | with_reducible refine w_abs ?_
  | with_reducible refine w_pow12 ?_
  | with_reducible refine w_pow18 ?_
  | with_reducible refine w_pow9 ?_
  | with_reducible refine w_pow10 ?_
  | with_reducible refine w_pow11 ?_
  | ((with_reducible refine w_mod ?h ?_); (case h => omega))
  | ((with_reducible refine w_mulL ?h1 ?h2 ?_); (case h1 => omega); (case h2 => omega))
  | ((with_reducible refine w_mulR ?h1 ?h2 ?_); (case h1 => omega); (case h2 => omega))
  | ((with_reducible refine w_fdiv ?h1 ?h2 ?_); (case h1 => omega); (case h2 => omega))
  | ((with_reducible refine w_ixT (z := ?z) ?h ?_); (case h => exact rfl))
  | ((with_reducible refine w_ixL (xs := ?xs) (z := ?z) ?h ?e ?_); (case h => walk_at "fact"); (case e => exact rfl))
  | ((with_reducible refine w_draw ?h ?h0 ?h1 ?_); (case h => walk_at "fact"); (case h0 => omega); (case h1 => omega))
  | ((with_reducible refine w_lenLS (ws := ?xs) ?h ?_); (case h => walk_at "fact"))
  | ((with_reducible refine w_lenL (xs := ?xs) ?h ?_); (case h => walk_at "fact"))
  | ((with_reducible refine w_bmL (ds := ?xs) ?h ?_); (case h => walk_at "fact"))
  | ((with_reducible refine w_app (ds := ?xs) ?h ?hl ?_); (case h => walk_at "fact"); (case hl => simp only [List.length_append, List.length_cons, List.length_nil, List.length_map]; omega))
  | ((with_reducible refine w_addT ?h ?_); (case h => exact rfl))
  | ((with_reducible refine w_addS2 (n := ?n) (m := ?m) ?h1 ?h2 ?h ?_); (case h1 => walk_at "sok"); (case h2 => walk_at "sok"); (case h => exact rfl))
  | ((with_reducible refine w_slS ?h ?_); (case h => walk_at "len"))
  | ((with_reducible refine w_lenS ?h ?_); (case h => walk_at "len"))
  | ((with_reducible refine w_slL (xs := ?xs) ?h ?_); (case h => walk_at "fact"))
  | ((with_reducible refine w_listR (xs := ?xs) ?h ?_); (case h => walk_at "fact"))
  | ((with_reducible refine w_gk (kvs := ?xs) ?h ?_); (case h => walk_at "fact"))
  | ((with_reducible refine w_eqSt ?h ?_); (case h => decide +kernel))
  | ((with_reducible refine w_eqSf ?h ?_); (case h => decide +kernel))
  | ((with_reducible refine w_neSt ?h ?_); (case h => decide +kernel))
  | ((with_reducible refine w_neSf ?h ?_); (case h => decide +kernel))
  | ((with_reducible refine w_inT (k := true) ?h1 ?h2 ?h3 ?_); (case h1 => exact rfl); (case h2 => exact rfl); (case h3 => decide +kernel))
  | ((with_reducible refine w_inT (k := false) ?h1 ?h2 ?h3 ?_); (case h1 => exact rfl); (case h2 => exact rfl); (case h3 => decide +kernel))
  | ((with_reducible refine w_r1 ?h1 ?h2 ?_); (case h1 => omega); (case h2 => omega))
  | ((with_reducible refine w_r2 ?h1 ?h2 ?h3 ?h4 ?_); (case h1 => omega); (case h2 => omega); (case h3 => omega); (case h4 => omega))
  | ((with_reducible refine w_r3 ?h1 ?h2 ?h3 ?h4 ?_); (case h1 => omega); (case h2 => omega); (case h3 => omega); (case h4 => omega))
  | ((with_reducible refine w_brD ?h ?_); (case h => first | assumption | omega))
  | ((with_reducible refine w_brN ?h ?_); (case h => first | assumption | omega))
  | ((with_reducible refine w_putL (xs := ?xs) (j := ?j) ?h ?e ?_); (case h => walk_at "fact"); (case e => exact rfl))
  | ((with_reducible refine w_pop0 (ds := ?xs) (d := ?d) ?h ?_); (case h => walk_at "fact"))
  | ((with_reducible refine w_ins0 (ds := ?xs) ?h ?hl ?_); (case h => walk_at "fact"); (case hl => simp only [List.length_append, List.length_cons, List.length_nil, List.length_map]; omega))
  | with_reducible refine w_disp ?_
  | with_reducible refine w_dpcons ?_
  | with_reducible refine w_dpnil ?_
  | ((with_reducible refine w_dispk (kvs := ?kvs) ?h ?e ?l ?_); (case h => walk_at "fact"); (case e => exact rfl); (case l => exact rfl))
  | walk_at "d2"
  | with_reducible intro _)
local macro_rules | `(tactic| walk_at "d") => `(tactic| repeat' (walk_at "d1"))
local macro_rules | `(tactic| walk_at "dd") => `(tactic| repeat' (first | walk_at "d1" | walk_at "two"))
local macro_rules | `(tactic| walk_at "two") => `(tactic| first | with_reducible refine br_dec (fun _ => ?_) (fun _ => ?_) | with_reducible refine br_b (fun _ => ?_) (fun _ => ?_))
local macro_rules | `(tactic| walk_at "d2") => `(tactic| first
  | ((with_reducible refine w_ntup2 (a := ?a) (b := ?b) ?h ?_); (case h => exact rfl))
  | ((with_reducible refine w_ntup3 (a := ?a) (b := ?b) (c := ?c) ?h ?_); (case h => exact rfl))
  | ((with_reducible refine at_row (l := ?l) (z := ?z) ?h ?hi ?_); (case h => walk_at "fact"); (case hi => assumption))
  | ((with_reducible show sp_l_end _ _ _ _ _); refine ⟨_, _, rfl, ?h, ?h0, ?h1, ?_⟩; (case h => walk_at "fact"); (case h0 => omega); (case h1 => omega); intro _ _ _ _ _)
  | ((with_reducible refine ix_amt _ ?_))
  | ((with_reducible refine ix_w0 _ ?_))
  | ((with_reducible refine ix_a0 _ ?_))
  | ((with_reducible refine ix_r0 _ ?_))
  | with_reducible refine w_far ?_
  | with_reducible refine nt_ans ?_
  | ((with_reducible show sp_l_changed _ _ _ _ _); refine ⟨_, _, _, _, _, rfl, ⟨?h, ?h2, ?h3⟩, ?h4, ?_⟩; (case h => walk_at "fact"); (case h2 => assumption); (case h3 => assumption); (case h4 => omega); intro _ _ _ _)
  | ((with_reducible refine w_getI (kvs := ?xs) ?h ?hi ?_); (case h => walk_at "fact"); (case hi => assumption)))
def anyR : Nat → Nat → Prop := fun _ _ => True
theorem bestV_at {E : List Ent} {i j : Nat} {e f : Ent} (he : E[i]? = some e) (hj : E[j]? = some f) : bestV E (some (i, j)) = .tup [.int (e.k : Int), .int (f.k : Int)] := by
  show DV.tup [.int ((E[i]?.map (·.k)).getD 0 : Nat), .int ((E[j]?.map (·.k)).getD 0 : Nat)] = _
  rw [he, hj]; rfl
def sp_too_near (K : PySem.W.Frag) : SpD := fun ds S Q _ => ∃ (r : Addr) (rows : List Rw) (life : Int), ds = [.ref r, .int life] ∧ RowsAt S r rows ∧ ∀ b S', Dv.Sub S S' → IsB anyR (near (ents rows) life) b → Q (bestV (ents rows) b) S'
def t_too_near (K : PySem.W.Frag) : DS := (sSeq (sAsg (dLc (iE (dCons (dVar 0) dNil)) (nTup 2 (nCons (nName 7) (nCons (nName 8) nNil))) (dTest (dOp rInD (dOp rIx2 (dVar 8) (dCon (.int 0))) (dTup (dCons (dCon (.str "kept")) (dCons (dCon (.str "done")) dNil))))) (dVar 7) [7, 8]) (nName 2))
    (sSeq (sAsg (dCall (sp_kept_of K) Ed0 (dCons (dVar 0) dNil)) (nName 3))
    (sSeq (sFor (iE (dCons (dVar 3) dNil)) (nTup 2 (nCons (nName 4) (nCons (nName 5) nNil))) (sFor (iR3 (dCons (dOp (rInt0 fun i j => .int (i - j)) (dVar 4) (dCon (.int 1))) (dCons (dUn uNeg (dCon (.int 1))) (dCons (dUn uNeg (dCon (.int 1))) dNil)))) (nName 6) (sIf (dAnd (dTest (dOp rEqD (dSl (dOp rIx2 (dVar 3) (dVar 6)) (dPart (dCon (.int 2))) (dPart (dCon (.int 4)))) (dSl (dVar 5) (dPart (dCon (.int 2))) (dPart (dCon (.int 4)))))) (dTest (dOp rLt2 (dOp rIx2 (dVar 5) (dCon (.int 1))) (dOp rAdd (dOp rIx2 (dOp rIx2 (dVar 3) (dVar 6)) (dCon (.int 1))) (dVar 1))))) (sRet (dTup (dCons (dOp rIx2 (dVar 2) (dVar 6)) (dCons (dOp rIx2 (dVar 2) (dVar 4)) dNil)))) sNext)))
    (sRet (dCon .non)))))
def placeF (all : List Rw) (k : Nat) (x : Rw) : Option DV := (entF all k x).map fun e => .int (e.k : Int)
theorem cm_mem {n : Int} {all : List Rw} {c : Cm} : ∀ {rows : List Rw} {acc : Option Cm}, rows.foldl (cmStep n) acc = some c → (∀ c, acc = some c → Rw.came n c.t c.p c.q c.d ∈ all) → (∀ x, x ∈ rows → x ∈ all) → Rw.came n c.t c.p c.q c.d ∈ all
  | [], acc, h, ha, _ => ha c h
  | r :: rows, acc, h, ha, hr => by
    refine cm_mem (rows := rows) (acc := cmStep n acc r) h ?_ fun x hx => hr x (List.mem_cons_of_mem _ hx)
    intro c' hc'
    have hm := hr r (List.mem_cons_self ..)
    unfold cmStep at hc'
    cases r <;> first | exact ha c' hc' | skip
    dsimp only at hc'
    split at hc'
    · rename_i e
      cases hc'
      subst e
      exact hm
    · exact ha c' hc'
theorem ent_gd {rows : List Rw} (g : ∀ x, x ∈ rows → x.gd) (d : doneOk rows) : ∀ e, e ∈ ents rows → PyData.strOk e.p = true ∧ PyData.strOk e.q = true := by
  have key : ∀ (l : List Rw) (k : Nat), (∀ x, x ∈ l → x ∈ rows) → ∀ e, e ∈ fmA (entF rows) k l → PyData.strOk e.p = true ∧ PyData.strOk e.q = true := by
    intro l
    induction l with
    | nil => intro k _ e h; cases h
    | cons x l ih =>
      intro k hx e h
      rcases List.mem_append.mp (show e ∈ (entF rows k x).toList ++ fmA (entF rows) (k + 1) l from h) with h | h
      · have gx := g x (hx x (List.mem_cons_self ..))
        have h : entF rows k x = some e := by simpa using h
        cases x <;> first | (cases h; done) | skip
        · cases h
          exact ⟨gx.1.2, gx.2.1.2⟩
        · rename_i n t a
          rw [entF_done] at h
          obtain ⟨c, hc, e1⟩ := Option.map_eq_some_iff.mp h
          have := cm_mem (all := rows) hc (fun _ h => by cases h) (fun _ h => h)
          have g2 := g _ this
          subst e1
          exact ⟨g2.1.2, g2.2.1.2⟩
      · exact ih (k + 1) (fun y hy => hx y (List.mem_cons_of_mem _ hy)) e h
  exact key rows 0 fun _ h => h
theorem rd_too_near (K : PySem.W.Frag) : ∀ ds S Q (Ed : DXK), sp_too_near K ds S Q Ed → Opens K S (t_too_near K (dEnd K Q) (startS N_too_near ds)) := by
  rintro _ S Q _ ⟨r, rows, life, rfl, R, q⟩
  have hr := R.h
  have rl := R.l
  have gd := ent_gd R.g R.d
  have el : (ents rows).length ≤ 100 := Nat.le_trans (fmA_len _ _) rl
  refine Opens.here ?_
  unfold t_too_near
  walk_at "d"
  refine lc_enumM Rw.enc (placeF rows) hr (by omega) (fun i x S0 Rk N hx s0 ry rn => ?_) fun D S1 s1 n1 h1 => ?_
  · have hm : x ∈ rows := List.mem_of_getElem? hx
    cases x <;> dsimp only [Rw.enc] <;> walk_at "d"
    case kept => exact ry _ _ (by walk_at "sub") rfl
    case done n t a =>
      obtain ⟨c, hc⟩ := R.d.cm hm
      refine ry _ _ (by walk_at "sub") ?_
      unfold placeF
      rw [entF_done, hc]; rfl
    all_goals exact rn _ (by walk_at "sub") rfl
  have e1 : fmA (placeF rows) 0 rows = (ents rows).map fun e => .int (e.k : Int) := fmA_map _ _ _
  rw [e1] at h1
  walk_at "d"
  refine ⟨_, _, rfl, R.sub s1, fun p S2 s2 n2 h2 => ?_⟩
  walk_at "d"
  have fD := s2 _ _ h1
  generalize hE : ents rows = E at *
  refine for_enumM encT h2 (fun j σ S' => ∃ (o4 o5 o6 o7 o8 : Option DV), σ = [some (.ref r), some (.int life), some (.ref D), some (.ref p), o4, o5, o6, o7, o8] ∧ Dv.Sub S2 S' ∧ ∀ i j', j' < j → ¬ near E life i j') ?_ ?_ ?_ ?_
  · exact ⟨_, _, _, _, _, rfl, .refl, fun _ _ h => absurd h (Nat.not_lt_zero _)⟩
  · rintro j σ S' ⟨o4, o5, o6, o7, o8, rfl, s, _⟩
    exact s _ _ h2
  · rintro j f σ S' hj ⟨o4, o5, o6, o7, o8, rfl, s, far⟩
    obtain ⟨hjl, _⟩ := List.getElem?_eq_some_iff.mp hj
    have hjz : (E.map encT)[j]? = some (encT f) := by rw [List.getElem?_map, hj]; rfl
    dsimp only [encT] at hjz ⊢
    walk_at "d"
    refine for_rng (fun m σ S' => ∃ (o6 o7 o8 : Option DV), σ = [some (.ref r), some (.int life), some (.ref D), some (.ref p), some (.int (j : Int)), some (.tup [.int f.n, .int f.t, .str f.p, .str f.q, f.d.enc, f.a.enc]), o6, o7, o8] ∧ Dv.Sub S2 S' ∧ ∀ i, i < j → j ≤ i + m → ¬ near E life i j) ?_ ?_ ?_
    · exact ⟨_, _, _, rfl, s, fun i h1 h2 => by omega⟩
    · rintro m σ S3 hm ⟨o6', o7', o8', rfl, s', far'⟩
      have hm' : m < j := by omega
      obtain ⟨e, he⟩ : ∃ e, E[j - 1 - m]? = some e := ⟨_, List.getElem?_eq_getElem (by omega)⟩
      have hez : (E.map encT)[j - 1 - m]? = some (encT e) := by rw [List.getElem?_map, he]; rfl
      have ge := gd e (List.mem_of_getElem? he)
      have gf := gd f (List.mem_of_getElem? hj)
      walk_at "d"
      refine at_int (l := E.map encT) (by walk_at "fact") hez (by omega) ?_
      dsimp only [encT]
      walk_at "d"
      refine w_eqD (x := .tup [.str e.p, .str e.q]) (y := .tup [.str f.p, .str f.q]) (EqD.two ge.1 ge.2 gf.1 gf.2) ?_
      walk_at "d"
      have no : (near E life (j - 1 - m) j → False) → ∀ i, i < j → j ≤ i + (m + 1) → ¬ near E life i j := fun h i h1 h2 nr => by
        by_cases z : i = j - 1 - m
        · subst z; exact h nr
        · exact far' i h1 (by omega) nr
      have same : near E life (j - 1 - m) j → f.p = e.p ∧ f.q = e.q ∧ f.t < e.t + life := fun ⟨_, e2, f2, h1, h2, h3⟩ => by
        rw [he] at h1; rw [hj] at h2
        cases h1; cases h2; exact h3
      refine br_dec (fun hpq => ?_) (fun hpq => ?_)
      · walk_at "d"
        refine at_int (l := E.map encT) (by walk_at "fact") hez (by omega) ?_
        dsimp only [encT]
        walk_at "d"
        refine br_dec (fun ht => ?_) (fun ht => ?_)
        · walk_at "d"
          refine at_int (l := E.map fun e => .int (e.k : Int)) (i := j - 1 - m) (z := .int (e.k : Int)) (by walk_at "fact") (by rw [List.getElem?_map, he]; rfl) (by omega) ?_
          walk_at "d"
          refine at_int (l := E.map fun e => .int (e.k : Int)) (i := j) (z := .int (f.k : Int)) (by walk_at "fact") (by rw [List.getElem?_map, hj]; rfl) rfl ?_
          walk_at "d"
          have eb : bestV E (some (j - 1 - m, j)) = .tup [.int (e.k : Int), .int (f.k : Int)] := bestV_at he hj
          rw [← eb]
          refine Opens.here (q (some (j - 1 - m, j)) _ (by walk_at "sub") ⟨trivial, ⟨by omega, e, f, he, hj, hpq.1, hpq.2, ht⟩, fun i2 j2 _ nr => ?_⟩)
          rcases Nat.lt_trichotomy j2 j with h | h | h
          · exact absurd nr (far i2 j2 h)
          · subst h
            refine .inr ⟨rfl, ?_⟩
            have l1 := nr.1
            rcases Nat.lt_or_ge (j2 - 1 - m) i2 with h3 | h3
            · exact absurd nr (far' i2 l1 (by omega))
            · exact h3
          · exact .inl h
        · walk_at "d"
          exact ⟨_, _, _, rfl, by walk_at "sub", no fun nr => ht (same nr).2.2⟩
      · walk_at "d"
        exact ⟨_, _, _, rfl, by walk_at "sub", no fun nr => hpq ⟨(same nr).1, (same nr).2.1⟩⟩
    · rintro σ S3 ⟨o6', o7', o8', rfl, s', far'⟩
      walk_at "d"
      refine ⟨_, _, _, _, _, rfl, s', fun i j' hj' => ?_⟩
      by_cases e : j' = j
      · subst e
        intro nr
        exact far' i nr.1 (by omega) nr
      · exact far i j' (by omega)
  · rintro σ S' ⟨o4, o5, o6, o7, o8, rfl, s, far⟩
    walk_at "d"
    refine Opens.here (q none _ (by walk_at "sub") fun i j _ nr => ?_)
    obtain ⟨_, e, f, _, hj, _⟩ := id nr
    exact far i j (List.getElem?_eq_some_iff.mp hj).1 nr
end K72
set_option Elab.async false
set_option linter.all false
set_option maxRecDepth 100000
set_option maxHeartbeats 1000000
namespace K72
open PySem PySem.Spec PyProof.Rows L2 Dv Ty
local macro_rules | `(tactic| walk_at "sub") => `(tactic| first | with_reducible exact Sub.refl | assumption | ((with_reducible refine Sub.up2 ?_ (by assumption)); walk_at "sub") | ((with_reducible refine Sub.upF ?_ (by first | assumption | exact Sub.nn (by assumption) (by assumption))); walk_at "sub") | ((with_reducible refine Sub.trans ?_ (by assumption)); walk_at "sub") | ((with_reducible refine Kp.sub2 ?h1 (by assumption) ?h2); (case h2 => walk_at "fr"); (case h1 => walk_at "sub")))
local macro_rules | `(tactic| walk_at "kp") => `(tactic| first | exact Kp.refl | assumption | ((with_reducible refine Kp.set ?_); walk_at "kp") | ((with_reducible refine Kp.up2 ?_ (by assumption)); walk_at "kp") | ((with_reducible refine Kp.upF ?_ ?h); (case h => walk_at "fr"); walk_at "kp") | ((with_reducible refine Kp.sub ?_ (by assumption)); walk_at "kp") | ((with_reducible refine Kp.trans ?_ (by assumption)); walk_at "kp") | ((with_reducible refine Kp.tr2 ?h1 (by assumption) ?h2); (case h2 => walk_at "fr"); (case h1 => walk_at "kp")) | (refine Kp.of ?_; walk_at "sub"))
local macro_rules | `(tactic| walk_at "keep") => `(tactic| first | with_reducible exact Keep.refl | assumption | ((with_reducible refine Keep.up2 ?_ (by assumption)); walk_at "keep") | ((with_reducible refine Keep.sub ?_ (by assumption)); walk_at "keep") | ((with_reducible refine Keep.trans ?_ (by assumption)); walk_at "keep"))
local macro_rules | `(tactic| walk_at "ne") => `(tactic| first | assumption | (apply Ne.symm; assumption) | ((with_reducible refine sneF (S := ?S) (o := ?o) ?h1 ?h2); (case h2 => assumption); (case h1 => walk_at "fact")) | ((with_reducible refine Ne.symm (sneF (S := ?S) (o := ?o) ?h1 ?h2)); (case h2 => assumption); (case h1 => walk_at "fact")))
local macro_rules | `(tactic| walk_at "fact") => `(tactic| first | assumption | exact up_same | ((with_reducible refine up_at (by assumption) ?_); walk_at "fact") | ((with_reducible refine up_at2 ?h ?_); (case h => walk_at "ne"); walk_at "fact") | ((with_reducible refine Sub.at (by assumption) ?_); walk_at "fact") | ((with_reducible refine Kp.at (by assumption) ?h ?_); (case h => walk_at "ne"); walk_at "fact"))
local macro_rules | `(tactic| walk_at "sok") => `(tactic| first | assumption | (refine sOk_lit ?_; decide +kernel) | ((with_reducible refine sOk.cut ?_ _ _); walk_at "sok") | ((with_reducible refine sOk.app (n := ?n) (m := ?m) ?h1 ?h2); (case h1 => walk_at "sok"); (case h2 => walk_at "sok")))
local macro_rules | `(tactic| walk_at "fr") => `(tactic| first | assumption | ((refine Sub.nn (S' := ?S') ?h1 ?h2); (case h2 => assumption); (case h1 => walk_at "sub")))
local macro_rules | `(tactic| walk_at "len") => `(tactic| first | (refine sOk.le (n := ?n) ?h1 ?h2; (case h1 => walk_at "sok"); (case h2 => decide)) | omega | decide +kernel)
local macro_rules | `(tactic| walk_at "ints") => `(tactic| first | exact all_nil | (refine all_cons ⟨_, rfl, by omega, by omega⟩ ?_; walk_at "ints") | (refine all_cons ⟨_, rfl⟩ ?_; walk_at "ints"))
local macro_rules | `(tactic| walk_at "d2") => `(tactic| fail "d2")
local macro_rules | `(tactic| walk_at "d1") => `(tactic| first
  | with_reducible refine w_seqE ?_
  | with_reducible refine w_retE ?_
  | with_reducible refine w_nextE ?_
  | with_reducible refine w_rtE ?_
  | with_reducible refine w_nxE ?_
  | with_reducible refine w_asgE ?_
  | with_reducible refine w_dropE ?_
  | with_reducible refine w_retNE ?_
  | with_reducible refine w_seq ?_
  | ((with_reducible refine w_var (d := ?d) ?h ?_); (case h => exact rfl))
  | with_reducible refine w_con ?_
  | with_reducible refine w_cons ?_
  | with_reducible refine w_nil ?_
  | with_reducible refine w_op ?_
  | with_reducible refine w_call ?_
  | with_reducible refine w_asg ?_
  | with_reducible refine w_name ?_
  | with_reducible refine w_ret ?_
  | with_reducible refine w_retE ?_
  | with_reducible refine w_if ?_
  | with_reducible refine w_test ?_
  | with_reducible refine w_tk ?_
  | with_reducible refine w_seqE ?_
  | with_reducible refine w_drop ?_
  | with_reducible refine w_next ?_
  | with_reducible refine w_nextE ?_
  | with_reducible refine w_nx ?_
  | with_reducible refine w_ct ?_
  | with_reducible refine w_rt ?_
  | with_reducible refine w_rtE ?_
  | with_reducible refine w_nxE ?_
  | with_reducible refine w_bk ?_
  | with_reducible refine w_retN ?_
  | with_reducible refine w_retNE ?_
  | with_reducible refine w_asgE ?_
  | with_reducible refine w_dropE ?_
  | with_reducible refine w_cont ?_
  | with_reducible refine w_break ?_
  | with_reducible refine w_for ?_
  | with_reducible refine w_lc ?_
  | with_reducible refine w_iL ?_
  | with_reducible refine w_iT ?_
  | with_reducible refine w_iE ?_
  | with_reducible refine w_iR1 ?_
  | with_reducible refine w_iR2 ?_
  | with_reducible refine w_iR3 ?_
  | with_reducible refine w_tkI ?_
  | with_reducible refine w_and ?_
  | with_reducible refine w_or ?_
  | with_reducible refine w_not ?_
  | with_reducible refine w_yes ?_
  | with_reducible refine w_andV ?_
  | with_reducible refine w_orV ?_
  | with_reducible refine w_notV ?_
  | with_reducible refine w_ifE ?_
  | with_reducible refine w_un ?_
  | with_reducible refine w_neg ?_
  | with_reducible refine w_tup ?_
  | with_reducible refine w_lst ?_
  | ((with_reducible refine w_tupk ?h ?_); (case h => exact rfl))
  | ((with_reducible refine w_lstk ?h ?_); (case h => exact rfl))
  | with_reducible refine w_int0 ?_
  | with_reducible refine w_addI ?_
  | with_reducible refine w_cb ?_
  | with_reducible refine w_sl ?_
  | with_reducible refine w_no ?_
  | with_reducible refine w_part ?_
  | with_reducible refine w_partk ?_
  | with_reducible refine w_bm ?_
  | with_reducible refine w_bmS ?_
  | with_reducible refine w_get2 ?_
  | with_reducible refine w_newK ?_
  | with_reducible refine w_isi ?_
  | with_reducible refine w_nnil ?_
  | with_reducible refine w_ncons ?_
  | with_reducible refine w_nsub ?_
  | with_reducible refine w_brT ?_
  | with_reducible refine w_brF ?_
  | with_reducible refine w_brB ?_
  | with_reducible refine w_ltI ?_
  | with_reducible refine w_ltS ?_
  | with_reducible refine w_eqI ?_
  | with_reducible refine w_neI ?_
  | with_reducible refine w_neB ?_
  | with_reducible refine w_isN ?_
  | with_reducible refine w_isT ?_
  | with_reducible refine w_isI ?_
  | with_reducible refine w_isS ?_
  | with_reducible refine w_isR ?_
  | with_reducible refine w_ntN ?_
  | with_reducible refine w_ntT ?_
  | with_reducible refine w_ntI ?_
  | with_reducible refine w_ntS ?_
  | with_reducible refine w_ntR ?_
  | with_reducible refine w_slT ?_
  | with_reducible refine w_lenT ?_
  | with_reducible refine w_intI ?_
  | with_reducible refine w_intB ?_
  | with_reducible refine w_max ?_
  | with_reducible refine w_min ?_
  | with_reducible refine w_abs ?_
  | with_reducible refine w_pow12 ?_
  | with_reducible refine w_pow18 ?_
  | with_reducible refine w_pow9 ?_
  | with_reducible refine w_pow10 ?_
  | with_reducible refine w_pow11 ?_
  | ((with_reducible refine w_mod ?h ?_); (case h => omega))
  | ((with_reducible refine w_mulL ?h1 ?h2 ?_); (case h1 => omega); (case h2 => omega))
  | ((with_reducible refine w_mulR ?h1 ?h2 ?_); (case h1 => omega); (case h2 => omega))
  | ((with_reducible refine w_fdiv ?h1 ?h2 ?_); (case h1 => omega); (case h2 => omega))
  | ((with_reducible refine w_ixT (z := ?z) ?h ?_); (case h => exact rfl))
  | ((with_reducible refine w_ixL (xs := ?xs) (z := ?z) ?h ?e ?_); (case h => walk_at "fact"); (case e => exact rfl))
  | ((with_reducible refine w_draw ?h ?h0 ?h1 ?_); (case h => walk_at "fact"); (case h0 => omega); (case h1 => omega))
  | ((with_reducible refine w_lenLS (ws := ?xs) ?h ?_); (case h => walk_at "fact"))
  | ((with_reducible refine w_lenL (xs := ?xs) ?h ?_); (case h => walk_at "fact"))
  | ((with_reducible refine w_bmL (ds := ?xs) ?h ?_); (case h => walk_at "fact"))
  | ((with_reducible refine w_app (ds := ?xs) ?h ?hl ?_); (case h => walk_at "fact"); (case hl => simp only [List.length_append, List.length_cons, List.length_nil, List.length_map]; omega))
  | ((with_reducible refine w_addT ?h ?_); (case h => exact rfl))
  | ((with_reducible refine w_addS2 (n := ?n) (m := ?m) ?h1 ?h2 ?h ?_); (case h1 => walk_at "sok"); (case h2 => walk_at "sok"); (case h => exact rfl))
  | ((with_reducible refine w_slS ?h ?_); (case h => walk_at "len"))
  | ((with_reducible refine w_lenS ?h ?_); (case h => walk_at "len"))
  | ((with_reducible refine w_slL (xs := ?xs) ?h ?_); (case h => walk_at "fact"))
  | ((with_reducible refine w_listR (xs := ?xs) ?h ?_); (case h => walk_at "fact"))
  | ((with_reducible refine w_gk (kvs := ?xs) ?h ?_); (case h => walk_at "fact"))
  | ((with_reducible refine w_eqSt ?h ?_); (case h => decide +kernel))
  | ((with_reducible refine w_eqSf ?h ?_); (case h => decide +kernel))
  | ((with_reducible refine w_neSt ?h ?_); (case h => decide +kernel))
  | ((with_reducible refine w_neSf ?h ?_); (case h => decide +kernel))
  | ((with_reducible refine w_inT (k := true) ?h1 ?h2 ?h3 ?_); (case h1 => exact rfl); (case h2 => exact rfl); (case h3 => decide +kernel))
  | ((with_reducible refine w_inT (k := false) ?h1 ?h2 ?h3 ?_); (case h1 => exact rfl); (case h2 => exact rfl); (case h3 => decide +kernel))
  | ((with_reducible refine w_r1 ?h1 ?h2 ?_); (case h1 => omega); (case h2 => omega))
  | ((with_reducible refine w_r2 ?h1 ?h2 ?h3 ?h4 ?_); (case h1 => omega); (case h2 => omega); (case h3 => omega); (case h4 => omega))
  | ((with_reducible refine w_r3 ?h1 ?h2 ?h3 ?h4 ?_); (case h1 => omega); (case h2 => omega); (case h3 => omega); (case h4 => omega))
  | ((with_reducible refine w_brD ?h ?_); (case h => first | assumption | omega))
  | ((with_reducible refine w_brN ?h ?_); (case h => first | assumption | omega))
  | ((with_reducible refine w_putL (xs := ?xs) (j := ?j) ?h ?e ?_); (case h => walk_at "fact"); (case e => exact rfl))
  | ((with_reducible refine w_pop0 (ds := ?xs) (d := ?d) ?h ?_); (case h => walk_at "fact"))
  | ((with_reducible refine w_ins0 (ds := ?xs) ?h ?hl ?_); (case h => walk_at "fact"); (case hl => simp only [List.length_append, List.length_cons, List.length_nil, List.length_map]; omega))
  | with_reducible refine w_disp ?_
  | with_reducible refine w_dpcons ?_
  | with_reducible refine w_dpnil ?_
  | ((with_reducible refine w_dispk (kvs := ?kvs) ?h ?e ?l ?_); (case h => walk_at "fact"); (case e => exact rfl); (case l => exact rfl))
  | walk_at "d2"
  | with_reducible intro _)
local macro_rules | `(tactic| walk_at "d") => `(tactic| repeat' (walk_at "d1"))
local macro_rules | `(tactic| walk_at "dd") => `(tactic| repeat' (first | walk_at "d1" | walk_at "two"))
local macro_rules | `(tactic| walk_at "two") => `(tactic| first | with_reducible refine br_dec (fun _ => ?_) (fun _ => ?_) | with_reducible refine br_b (fun _ => ?_) (fun _ => ?_))
local macro_rules | `(tactic| walk_at "d2") => `(tactic| first
  | ((with_reducible refine w_ntup2 (a := ?a) (b := ?b) ?h ?_); (case h => exact rfl))
  | ((with_reducible refine w_ntup3 (a := ?a) (b := ?b) (c := ?c) ?h ?_); (case h => exact rfl))
  | ((with_reducible refine at_row (l := ?l) (z := ?z) ?h ?hi ?_); (case h => walk_at "fact"); (case hi => assumption))
  | ((with_reducible show sp_l_end _ _ _ _ _); refine ⟨_, _, rfl, ?h, ?h0, ?h1, ?_⟩; (case h => walk_at "fact"); (case h0 => omega); (case h1 => omega); intro _ _ _ _ _)
  | ((with_reducible refine ix_amt _ ?_))
  | ((with_reducible refine ix_w0 _ ?_))
  | ((with_reducible refine ix_a0 _ ?_))
  | ((with_reducible refine ix_r0 _ ?_))
  | with_reducible refine w_far ?_
  | with_reducible refine nt_ans ?_
  | ((with_reducible show sp_l_changed _ _ _ _ _); refine ⟨_, _, _, _, _, rfl, ⟨?h, ?h2, ?h3⟩, ?h4, ?_⟩; (case h => walk_at "fact"); (case h2 => assumption); (case h3 => assumption); (case h4 => omega); intro _ _ _ _)
  | ((with_reducible refine w_getI (kvs := ?xs) ?h ?hi ?_); (case h => walk_at "fact"); (case hi => assumption)))
theorem lex2 (a b c d : Int) : HT.lexLt [a, b] [c, d] = decide (a < c ∨ (a = c ∧ b < d)) := by
  rw [HT.lexLt_cons, HT.lexLt_cons]
  by_cases h : a = c
  · rw [if_pos h]
    by_cases h2 : b = d
    · rw [if_pos h2]; subst h; subst h2; simp [HT.lexLt]
    · rw [if_neg h2]; subst h; simp
  · rw [if_neg h]; simp [h]
theorem w_lt2 {S : Sr} {Q : DK} {a b c d : Int} (q : Q (.bl (decide (a < c ∨ (a = c ∧ b < d)))) S) : rLt2 (.tup [.int a, .int b]) (.tup [.int c, .int d]) S Q := ⟨[a, b], [c, d], rfl, rfl, by rw [lex2]; exact q⟩
theorem pos_of {rows : List Rw} {E : List Ent} (hE : ents rows = E) {a b : Nat} {x y : Ent} (hx : E[a]? = some x) (hy : E[b]? = some y) : (x.k < y.k ↔ a < b) ∧ (x.k = y.k ↔ a = b) := by
  subst hE
  have h1 := ents_lt hx hy
  have h2 := ents_lt hy hx
  rcases Nat.lt_trichotomy a b with h | h | h
  · have := h1.1 h; omega
  · have := h1.2 h; subst this; omega
  · have := h2.1 h; omega
def sp_l_due (K : PySem.W.Frag) : SpD := sp_too_near K
def t_l_due (K : PySem.W.Frag) : DS := (sSeq (sAsg (dCon .non) (nName 2))
    (sSeq (sAsg (dCall (sp_l_entries K) Ed0 (dCons (dVar 0) dNil)) (nName 3))
    (sSeq (sFor (iL (dVar 3)) (nTup 3 (nCons (nName 4) (nCons (nName 5) (nCons (nName 6) nNil)))) (sFor (iL (dVar 3)) (nTup 3 (nCons (nName 7) (nCons (nName 8) (nCons (nName 9) nNil)))) (sIf (dAnd (dTest (dOp (rInt0 fun i j => .bl (decide (j < i))) (dVar 7) (dVar 4))) (dAnd (dTest (dOp rEqD (dVar 8) (dVar 5))) (dTest (dOp rLt2 (dVar 9) (dOp rAdd (dVar 6) (dVar 1)))))) (sIf (dOr (dTest (dOp rIsN (dVar 2) (dCon .non))) (dTest (dOp rLt2 (dTup (dCons (dVar 7) (dCons (dUn uNeg (dVar 4)) dNil))) (dTup (dCons (dOp rIx2 (dVar 2) (dCon (.int 1))) (dCons (dUn uNeg (dOp rIx2 (dVar 2) (dCon (.int 0)))) dNil)))))) (sAsg (dTup (dCons (dVar 4) (dCons (dVar 7) dNil))) (nName 2)) sNext) sNext)))
    (sRet (dVar 2)))))
theorem rd_l_due (K : PySem.W.Frag) : ∀ ds S Q (Ed : DXK), sp_l_due K ds S Q Ed → Opens K S (t_l_due K (dEnd K Q) (startS N_l_due ds)) := by
  rintro _ S Q _ ⟨r, rows, life, rfl, R, q⟩
  have gd := ent_gd R.g R.d
  have mono := fun {i j : Nat} {e f : Ent} => @ents_lt rows i j e f
  refine Opens.here ?_
  unfold t_l_due
  walk_at "d"
  refine ⟨_, _, rfl, R, fun p S1 s1 n1 h1 => ?_⟩
  walk_at "d"
  generalize hE : ents rows = E at *
  refine for_map encE h1 (fun pre σ S' => ∃ (o4 o5 o6 o7 o8 o9 : Option DV) (b : Option (Nat × Nat)), σ = [some (.ref r), some (.int life), some (bestV E b), some (.ref p), o4, o5, o6, o7, o8, o9] ∧ Dv.Sub S1 S' ∧ IsB (fun i j => i < pre.length ∧ j < E.length) (near E life) b) ?_ ?_ ?_ ?_
  · exact ⟨_, _, _, _, _, _, none, rfl, .refl, fun i j h => absurd h.1 (Nat.not_lt_zero _)⟩
  · rintro pre σ S' ⟨o4, o5, o6, o7, o8, o9, b, rfl, s, hb⟩
    exact s _ _ h1
  · rintro pre e post σ S' eE ⟨o4, o5, o6, o7, o8, o9, b, rfl, s, hb⟩
    have he : E[pre.length]? = some e := by rw [eE]; simp
    dsimp only [encE]
    walk_at "d"
    refine for_map encE (by walk_at "fact") (fun pre2 σ S' => ∃ (o7 o8 o9 : Option DV) (b : Option (Nat × Nat)), σ = [some (.ref r), some (.int life), some (bestV E b), some (.ref p), some (.int (e.k : Int)), some (.tup [.str e.p, .str e.q]), some (.int e.t), o7, o8, o9] ∧ Dv.Sub S1 S' ∧ IsB (fun i j => (i < pre.length ∧ j < E.length) ∨ (i = pre.length ∧ j < pre2.length)) (near E life) b) ?_ ?_ ?_ ?_
    · exact ⟨_, _, _, b, rfl, s, hb.congr fun i j => by simp⟩
    · rintro pre2 σ S3 ⟨o7, o8, o9, b, rfl, s, hb⟩
      exact s _ _ h1
    · rintro pre2 f post2 σ S3 eF ⟨o7, o8, o9, b, rfl, s, hb⟩
      have hf : E[pre2.length]? = some f := by rw [eF]; simp
      have ge := gd e (List.mem_of_getElem? he)
      have gf := gd f (List.mem_of_getElem? hf)
      have st := hb.step (R' := fun i j => (i < pre.length ∧ j < E.length) ∨ (i = pre.length ∧ j < (pre2 ++ [f]).length)) (i := pre.length) (j := pre2.length) (fun i j => by simp only [List.length_append, List.length_cons, List.length_nil]; omega)
      have same : near E life pre.length pre2.length → f.p = e.p ∧ f.q = e.q ∧ f.t < e.t + life := fun ⟨_, e2, f2, h1, h2, h3⟩ => by
        rw [he] at h1; rw [hf] at h2
        cases h1; cases h2; exact h3
      have kij : pre.length < pre2.length → e.k < f.k := (mono he hf).1
      have kji : pre2.length < pre.length → f.k < e.k := (mono hf he).1
      have kee : pre.length = pre2.length → e = f := (mono he hf).2
      dsimp only [encE]
      walk_at "d"
      refine br_dec (fun hk => ?_) (fun hk => ?_)
      · walk_at "d"
        refine w_eqD (x := .tup [.str f.p, .str f.q]) (y := .tup [.str e.p, .str e.q]) (EqD.two gf.1 gf.2 ge.1 ge.2) ?_
        walk_at "d"
        refine br_dec (fun hpq => ?_) (fun hpq => ?_)
        · walk_at "d"
          refine br_dec (fun ht => ?_) (fun ht => ?_)
          · have hlt : pre.length < pre2.length := by
              rcases Nat.lt_trichotomy pre.length pre2.length with h | h | h
              · exact h
              · have := kee h; subst this; omega
              · have := kji h; omega
            have nr : near E life pre.length pre2.length := ⟨hlt, e, f, he, hf, hpq.1.symm, hpq.2.symm, ht⟩
            walk_at "d"
            cases b with
            | none =>
              refine w_isN ?_
              walk_at "d"
              exact ⟨_, _, _, some (pre.length, pre2.length), by rw [bestV_at he hf]; rfl, s, st.2 nr trivial⟩
            | some ij =>
              obtain ⟨i, j⟩ := ij
              obtain ⟨_, ei, ej, hi, hj, _⟩ := hb.2.1
              rw [bestV_at hi hj]
              walk_at "d"
              refine w_lt2 ?_
              walk_at "d"
              have p1 := pos_of hE hf hj
              have p2 := pos_of hE hi he
              refine br_dec (fun hc => ?_) (fun hc => ?_)
              · walk_at "d"
                refine ⟨_, _, _, some (pre.length, pre2.length), by rw [bestV_at he hf]; rfl, s, st.2 nr ?_⟩
                show pre2.length < j ∨ (pre2.length = j ∧ i < pre.length)
                omega
              · walk_at "d"
                refine ⟨_, _, _, some (i, j), by rw [bestV_at hi hj]; rfl, s, st.1 fun z => hc ?_⟩
                have zb : pre2.length < j ∨ (pre2.length = j ∧ i < pre.length) := z.2
                omega
          · exact ⟨_, _, _, b, rfl, s, st.1 fun z => ht (same z.1).2.2⟩
        · exact ⟨_, _, _, b, rfl, s, st.1 fun z => hpq ⟨(same z.1).1.symm, (same z.1).2.1.symm⟩⟩
      · exact ⟨_, _, _, b, rfl, s, st.1 fun z => hk (by have := kij z.1.1; omega)⟩
    · rintro σ S3 ⟨o7, o8, o9, b, rfl, s, hb⟩
      refine ⟨_, _, _, _, _, _, b, rfl, s, hb.congr fun i j => ?_⟩
      simp only [List.length_append, List.length_cons, List.length_nil]
      omega
  · rintro σ S' ⟨o4, o5, o6, o7, o8, o9, b, rfl, s, hb⟩
    walk_at "d"
    refine Opens.here (q b _ (by walk_at "sub") ?_)
    cases b with
    | none =>
      intro i j _ nr
      obtain ⟨_, e, f, hi, hj, _⟩ := id nr
      exact hb i j ⟨(List.getElem?_eq_some_iff.mp hi).1, (List.getElem?_eq_some_iff.mp hj).1⟩ nr
    | some b =>
      refine ⟨trivial, hb.2.1, fun i j _ nr => ?_⟩
      obtain ⟨_, e, f, hi, hj, _⟩ := id nr
      exact hb.2.2 i j ⟨(List.getElem?_eq_some_iff.mp hi).1, (List.getElem?_eq_some_iff.mp hj).1⟩ nr
def sp_l_life (K : PySem.W.Frag) : SpD := fun ds S Q _ => ∃ (a r : Addr) (rows : List Rw), ds = [.ref a, .ref r] ∧ S a = some (deckB K) ∧ RowsAt S r rows ∧ ∀ i S', Dv.Sub S S' → Q (.int i) S'
def t_l_life (K : PySem.W.Frag) : DS := (sSeq (sAsg (dLc (iL (dCall (sp_l_entries K) Ed0 (dCons (dVar 1) dNil))) (nTup 3 (nCons (nName 6) (nCons (nName 7) (nCons (nName 8) nNil)))) dYes (dVar 8) [6, 7, 8]) (nName 2))
    (sSeq (sAsg (dCall (sp_l_draw K) Ed0 (dCons (dVar 0) (dCons (dCon (.int 4)) dNil))) (nName 3))
    (sSeq (sIf (dAnd (dTest (dOp rLt2 (dVar 3) (dCon (.int 2)))) (dTest (dOp (rInt0 fun i j => .bl (decide (j < i))) (dCb rLen2 (dCons (dVar 2) dNil)) (dCon (.int 1))))) (sSeq (sAsg (dOp rIx2 (dVar 2) (dCall (sp_l_draw K) Ed0 (dCons (dVar 0) (dCons (dCb rLen2 (dCons (dVar 2) dNil)) dNil)))) (nName 4))
    (sSeq (sAsg (dOp rIx2 (dVar 2) (dCall (sp_l_draw K) Ed0 (dCons (dVar 0) (dCons (dCb rLen2 (dCons (dVar 2) dNil)) dNil)))) (nName 5))
    (sRet (dCb rMax2 (dCons (dCon (.int 1)) (dCons (dCb rMin2 (dCons (dOp (rInt CPow fun i j => .int (i ^ j.toNat)) (dCon (.int 10)) (dCon (.int 12))) (dCons (dOp rAdd (dCb rAbs2 (dCons (dOp (rInt0 fun i j => .int (i - j)) (dVar 4) (dVar 5)) dNil)) (dVar 3)) dNil))) dNil)))))) sNext)
    (sRet (dOp rIx2 (dLst (dCons (dOp rAdd (dCon (.int 1)) (dCall (sp_l_draw K) Ed0 (dCons (dVar 0) (dCons (dCon (.int 12)) dNil)))) (dCons (dOp rAdd (dCon (.int 1)) (dCall (sp_l_end K) Ed0 (dCons (dVar 0) (dCons (dOp (rInt CPow fun i j => .int (i ^ j.toNat)) (dCon (.int 10)) (dCon (.int 12))) dNil)))) dNil))) (dOp (rInt (fun _ j => 0 < j) fun i j => .int (i % j)) (dVar 3) (dCon (.int 2))))))))
theorem rd_l_life (K : PySem.W.Frag) : ∀ ds S Q (Ed : DXK), sp_l_life K ds S Q Ed → Opens K S (t_l_life K (dEnd K Q) (startS N_l_life ds)) := by
  rintro _ S Q _ ⟨a, r, rows, rfl, ha, R, q⟩
  have rl := R.l
  have el : (ents rows).length ≤ 100 := Nat.le_trans (fmA_len _ _) rl
  refine Opens.here ?_
  unfold t_l_life
  walk_at "d"
  refine ⟨_, _, rfl, R, fun p S1 s1 n1 h1 => ?_⟩
  refine lc_mapF encE (fun e => some (.int e.t)) h1 (by omega) (fun e S0 Rk N hx s0 ry rn => ?_) fun D S2 s2 n2 h2 => ?_
  · dsimp only [encE]
    walk_at "d"
    exact ry _ _ (by walk_at "sub") rfl
  have e2 : (ents rows).filterMap (fun e => some (DV.int e.t)) = (ents rows).map fun e => DV.int e.t := by
    rw [List.filterMap_eq_map']
  rw [e2] at h2
  have lm : ((ents rows).map fun e => DV.int e.t).length = (ents rows).length := List.length_map ..
  have hints : ∀ x, x ∈ ((ents rows).map fun e => DV.int e.t) → ∃ i, x = .int i := fun x hx => by
    obtain ⟨e, _, rfl⟩ := List.mem_map.mp hx
    exact ⟨_, rfl⟩
  walk_at "dd"
  case refine_1.refine_1 =>
    refine pickZ (by walk_at "fact") (by assumption) (by assumption) hints fun i => ?_
    walk_at "d"
    refine pickZ (by walk_at "fact") (by assumption) (by assumption) hints fun j => ?_
    walk_at "d"
    exact Opens.here (q _ _ (by walk_at "sub"))
  all_goals
    refine pickZ (by walk_at "fact") (mod2 (by decide)).1 (by simp only [List.length_cons, List.length_nil]; omega) (all_cons ⟨_, rfl⟩ (all_cons ⟨_, rfl⟩ all_nil)) fun i => ?_
    exact Opens.here (q _ _ (by walk_at "sub"))
end K72
set_option Elab.async false
set_option linter.all false
set_option maxRecDepth 100000
set_option maxHeartbeats 1000000
namespace K72
open PySem PySem.Spec PyProof.Rows L2 Dv Ty
local macro_rules | `(tactic| walk_at "sub") => `(tactic| first | with_reducible exact Sub.refl | assumption | ((with_reducible refine Sub.up2 ?_ (by assumption)); walk_at "sub") | ((with_reducible refine Sub.upF ?_ (by first | assumption | exact Sub.nn (by assumption) (by assumption))); walk_at "sub") | ((with_reducible refine Sub.trans ?_ (by assumption)); walk_at "sub") | ((with_reducible refine Kp.sub2 ?h1 (by assumption) ?h2); (case h2 => walk_at "fr"); (case h1 => walk_at "sub")))
local macro_rules | `(tactic| walk_at "kp") => `(tactic| first | exact Kp.refl | assumption | ((with_reducible refine Kp.set ?_); walk_at "kp") | ((with_reducible refine Kp.up2 ?_ (by assumption)); walk_at "kp") | ((with_reducible refine Kp.upF ?_ ?h); (case h => walk_at "fr"); walk_at "kp") | ((with_reducible refine Kp.sub ?_ (by assumption)); walk_at "kp") | ((with_reducible refine Kp.trans ?_ (by assumption)); walk_at "kp") | ((with_reducible refine Kp.tr2 ?h1 (by assumption) ?h2); (case h2 => walk_at "fr"); (case h1 => walk_at "kp")) | (refine Kp.of ?_; walk_at "sub"))
local macro_rules | `(tactic| walk_at "keep") => `(tactic| first | with_reducible exact Keep.refl | assumption | ((with_reducible refine Keep.up2 ?_ (by assumption)); walk_at "keep") | ((with_reducible refine Keep.sub ?_ (by assumption)); walk_at "keep") | ((with_reducible refine Keep.trans ?_ (by assumption)); walk_at "keep"))
local macro_rules | `(tactic| walk_at "ne") => `(tactic| first | assumption | (apply Ne.symm; assumption) | ((with_reducible refine sneF (S := ?S) (o := ?o) ?h1 ?h2); (case h2 => assumption); (case h1 => walk_at "fact")) | ((with_reducible refine Ne.symm (sneF (S := ?S) (o := ?o) ?h1 ?h2)); (case h2 => assumption); (case h1 => walk_at "fact")))
local macro_rules | `(tactic| walk_at "fact") => `(tactic| first | assumption | exact up_same | ((with_reducible refine up_at (by assumption) ?_); walk_at "fact") | ((with_reducible refine up_at2 ?h ?_); (case h => walk_at "ne"); walk_at "fact") | ((with_reducible refine Sub.at (by assumption) ?_); walk_at "fact") | ((with_reducible refine Kp.at (by assumption) ?h ?_); (case h => walk_at "ne"); walk_at "fact"))
local macro_rules | `(tactic| walk_at "sok") => `(tactic| first | assumption | (refine sOk_lit ?_; decide +kernel) | ((with_reducible refine sOk.cut ?_ _ _); walk_at "sok") | ((with_reducible refine sOk.app (n := ?n) (m := ?m) ?h1 ?h2); (case h1 => walk_at "sok"); (case h2 => walk_at "sok")))
local macro_rules | `(tactic| walk_at "fr") => `(tactic| first | assumption | ((refine Sub.nn (S' := ?S') ?h1 ?h2); (case h2 => assumption); (case h1 => walk_at "sub")))
local macro_rules | `(tactic| walk_at "len") => `(tactic| first | (refine sOk.le (n := ?n) ?h1 ?h2; (case h1 => walk_at "sok"); (case h2 => decide)) | omega | decide +kernel)
local macro_rules | `(tactic| walk_at "ints") => `(tactic| first | exact all_nil | (refine all_cons ⟨_, rfl, by omega, by omega⟩ ?_; walk_at "ints") | (refine all_cons ⟨_, rfl⟩ ?_; walk_at "ints"))
local macro_rules | `(tactic| walk_at "d2") => `(tactic| fail "d2")
local macro_rules | `(tactic| walk_at "d1") => `(tactic| first
  | with_reducible refine w_seqE ?_
  | with_reducible refine w_retE ?_
  | with_reducible refine w_nextE ?_
  | with_reducible refine w_rtE ?_
  | with_reducible refine w_nxE ?_
  | with_reducible refine w_asgE ?_
  | with_reducible refine w_dropE ?_
  | with_reducible refine w_retNE ?_
  | with_reducible refine w_seq ?_
  | ((with_reducible refine w_var (d := ?d) ?h ?_); (case h => exact rfl))
  | with_reducible refine w_con ?_
  | with_reducible refine w_cons ?_
  | with_reducible refine w_nil ?_
  | with_reducible refine w_op ?_
  | with_reducible refine w_call ?_
  | with_reducible refine w_asg ?_
  | with_reducible refine w_name ?_
  | with_reducible refine w_ret ?_
  | with_reducible refine w_retE ?_
  | with_reducible refine w_if ?_
  | with_reducible refine w_test ?_
  | with_reducible refine w_tk ?_
  | with_reducible refine w_seqE ?_
  | with_reducible refine w_drop ?_
  | with_reducible refine w_next ?_
  | with_reducible refine w_nextE ?_
  | with_reducible refine w_nx ?_
  | with_reducible refine w_ct ?_
  | with_reducible refine w_rt ?_
  | with_reducible refine w_rtE ?_
  | with_reducible refine w_nxE ?_
  | with_reducible refine w_bk ?_
  | with_reducible refine w_retN ?_
  | with_reducible refine w_retNE ?_
  | with_reducible refine w_asgE ?_
  | with_reducible refine w_dropE ?_
  | with_reducible refine w_cont ?_
  | with_reducible refine w_break ?_
  | with_reducible refine w_for ?_
  | with_reducible refine w_lc ?_
  | with_reducible refine w_iL ?_
  | with_reducible refine w_iT ?_
  | with_reducible refine w_iE ?_
  | with_reducible refine w_iR1 ?_
  | with_reducible refine w_iR2 ?_
  | with_reducible refine w_iR3 ?_
  | with_reducible refine w_tkI ?_
  | with_reducible refine w_and ?_
  | with_reducible refine w_or ?_
  | with_reducible refine w_not ?_
  | with_reducible refine w_yes ?_
  | with_reducible refine w_andV ?_
  | with_reducible refine w_orV ?_
  | with_reducible refine w_notV ?_
  | with_reducible refine w_ifE ?_
  | with_reducible refine w_un ?_
  | with_reducible refine w_neg ?_
  | with_reducible refine w_tup ?_
  | with_reducible refine w_lst ?_
  | ((with_reducible refine w_tupk ?h ?_); (case h => exact rfl))
  | ((with_reducible refine w_lstk ?h ?_); (case h => exact rfl))
  | with_reducible refine w_int0 ?_
  | with_reducible refine w_addI ?_
  | with_reducible refine w_cb ?_
  | with_reducible refine w_sl ?_
  | with_reducible refine w_no ?_
  | with_reducible refine w_part ?_
  | with_reducible refine w_partk ?_
  | with_reducible refine w_bm ?_
  | with_reducible refine w_bmS ?_
  | with_reducible refine w_get2 ?_
  | with_reducible refine w_newK ?_
  | with_reducible refine w_isi ?_
  | with_reducible refine w_nnil ?_
  | with_reducible refine w_ncons ?_
  | with_reducible refine w_nsub ?_
  | with_reducible refine w_brT ?_
  | with_reducible refine w_brF ?_
  | with_reducible refine w_brB ?_
  | with_reducible refine w_ltI ?_
  | with_reducible refine w_ltS ?_
  | with_reducible refine w_eqI ?_
  | with_reducible refine w_neI ?_
  | with_reducible refine w_neB ?_
  | with_reducible refine w_isN ?_
  | with_reducible refine w_isT ?_
  | with_reducible refine w_isI ?_
  | with_reducible refine w_isS ?_
  | with_reducible refine w_isR ?_
  | with_reducible refine w_ntN ?_
  | with_reducible refine w_ntT ?_
  | with_reducible refine w_ntI ?_
  | with_reducible refine w_ntS ?_
  | with_reducible refine w_ntR ?_
  | with_reducible refine w_slT ?_
  | with_reducible refine w_lenT ?_
  | with_reducible refine w_intI ?_
  | with_reducible refine w_intB ?_
  | with_reducible refine w_max ?_
  | with_reducible refine w_min ?_
  | with_reducible refine w_abs ?_
  | with_reducible refine w_pow12 ?_
  | with_reducible refine w_pow18 ?_
  | with_reducible refine w_pow9 ?_
  | with_reducible refine w_pow10 ?_
  | with_reducible refine w_pow11 ?_
  | ((with_reducible refine w_mod ?h ?_); (case h => omega))
  | ((with_reducible refine w_mulL ?h1 ?h2 ?_); (case h1 => omega); (case h2 => omega))
  | ((with_reducible refine w_mulR ?h1 ?h2 ?_); (case h1 => omega); (case h2 => omega))
  | ((with_reducible refine w_fdiv ?h1 ?h2 ?_); (case h1 => omega); (case h2 => omega))
  | ((with_reducible refine w_ixT (z := ?z) ?h ?_); (case h => exact rfl))
  | ((with_reducible refine w_ixL (xs := ?xs) (z := ?z) ?h ?e ?_); (case h => walk_at "fact"); (case e => exact rfl))
  | ((with_reducible refine w_draw ?h ?h0 ?h1 ?_); (case h => walk_at "fact"); (case h0 => omega); (case h1 => omega))
  | ((with_reducible refine w_lenLS (ws := ?xs) ?h ?_); (case h => walk_at "fact"))
  | ((with_reducible refine w_lenL (xs := ?xs) ?h ?_); (case h => walk_at "fact"))
  | ((with_reducible refine w_bmL (ds := ?xs) ?h ?_); (case h => walk_at "fact"))
  | ((with_reducible refine w_app (ds := ?xs) ?h ?hl ?_); (case h => walk_at "fact"); (case hl => simp only [List.length_append, List.length_cons, List.length_nil, List.length_map]; omega))
  | ((with_reducible refine w_addT ?h ?_); (case h => exact rfl))
  | ((with_reducible refine w_addS2 (n := ?n) (m := ?m) ?h1 ?h2 ?h ?_); (case h1 => walk_at "sok"); (case h2 => walk_at "sok"); (case h => exact rfl))
  | ((with_reducible refine w_slS ?h ?_); (case h => walk_at "len"))
  | ((with_reducible refine w_lenS ?h ?_); (case h => walk_at "len"))
  | ((with_reducible refine w_slL (xs := ?xs) ?h ?_); (case h => walk_at "fact"))
  | ((with_reducible refine w_listR (xs := ?xs) ?h ?_); (case h => walk_at "fact"))
  | ((with_reducible refine w_gk (kvs := ?xs) ?h ?_); (case h => walk_at "fact"))
  | ((with_reducible refine w_eqSt ?h ?_); (case h => decide +kernel))
  | ((with_reducible refine w_eqSf ?h ?_); (case h => decide +kernel))
  | ((with_reducible refine w_neSt ?h ?_); (case h => decide +kernel))
  | ((with_reducible refine w_neSf ?h ?_); (case h => decide +kernel))
  | ((with_reducible refine w_inT (k := true) ?h1 ?h2 ?h3 ?_); (case h1 => exact rfl); (case h2 => exact rfl); (case h3 => decide +kernel))
  | ((with_reducible refine w_inT (k := false) ?h1 ?h2 ?h3 ?_); (case h1 => exact rfl); (case h2 => exact rfl); (case h3 => decide +kernel))
  | ((with_reducible refine w_r1 ?h1 ?h2 ?_); (case h1 => omega); (case h2 => omega))
  | ((with_reducible refine w_r2 ?h1 ?h2 ?h3 ?h4 ?_); (case h1 => omega); (case h2 => omega); (case h3 => omega); (case h4 => omega))
  | ((with_reducible refine w_r3 ?h1 ?h2 ?h3 ?h4 ?_); (case h1 => omega); (case h2 => omega); (case h3 => omega); (case h4 => omega))
  | ((with_reducible refine w_brD ?h ?_); (case h => first | assumption | omega))
  | ((with_reducible refine w_brN ?h ?_); (case h => first | assumption | omega))
  | ((with_reducible refine w_putL (xs := ?xs) (j := ?j) ?h ?e ?_); (case h => walk_at "fact"); (case e => exact rfl))
  | ((with_reducible refine w_pop0 (ds := ?xs) (d := ?d) ?h ?_); (case h => walk_at "fact"))
  | ((with_reducible refine w_ins0 (ds := ?xs) ?h ?hl ?_); (case h => walk_at "fact"); (case hl => simp only [List.length_append, List.length_cons, List.length_nil, List.length_map]; omega))
  | with_reducible refine w_disp ?_
  | with_reducible refine w_dpcons ?_
  | with_reducible refine w_dpnil ?_
  | ((with_reducible refine w_dispk (kvs := ?kvs) ?h ?e ?l ?_); (case h => walk_at "fact"); (case e => exact rfl); (case l => exact rfl))
  | walk_at "d2"
  | with_reducible intro _)
local macro_rules | `(tactic| walk_at "d") => `(tactic| repeat' (walk_at "d1"))
local macro_rules | `(tactic| walk_at "dd") => `(tactic| repeat' (first | walk_at "d1" | walk_at "two"))
local macro_rules | `(tactic| walk_at "two") => `(tactic| first | with_reducible refine br_dec (fun _ => ?_) (fun _ => ?_) | with_reducible refine br_b (fun _ => ?_) (fun _ => ?_))
local macro_rules | `(tactic| walk_at "d2") => `(tactic| first
  | ((with_reducible refine w_ntup2 (a := ?a) (b := ?b) ?h ?_); (case h => exact rfl))
  | ((with_reducible refine w_ntup3 (a := ?a) (b := ?b) (c := ?c) ?h ?_); (case h => exact rfl))
  | ((with_reducible refine at_row (l := ?l) (z := ?z) ?h ?hi ?_); (case h => walk_at "fact"); (case hi => assumption))
  | ((with_reducible show sp_l_end _ _ _ _ _); refine ⟨_, _, rfl, ?h, ?h0, ?h1, ?_⟩; (case h => walk_at "fact"); (case h0 => omega); (case h1 => omega); intro _ _ _ _ _)
  | ((with_reducible refine ix_amt _ ?_))
  | ((with_reducible refine ix_w0 _ ?_))
  | ((with_reducible refine ix_a0 _ ?_))
  | ((with_reducible refine ix_r0 _ ?_))
  | with_reducible refine w_far ?_
  | with_reducible refine nt_ans ?_
  | ((with_reducible show sp_l_changed _ _ _ _ _); refine ⟨_, _, _, _, _, rfl, ⟨?h, ?h2, ?h3⟩, ?h4, ?_⟩; (case h => walk_at "fact"); (case h2 => assumption); (case h3 => assumption); (case h4 => omega); intro _ _ _ _)
  | ((with_reducible refine w_getI (kvs := ?xs) ?h ?hi ?_); (case h => walk_at "fact"); (case hi => assumption)))
def sp_l_told (K : PySem.W.Frag) : SpD := sp_too_near K
def t_l_told (K : PySem.W.Frag) : DS := (sSeq (sAsg (dCb rList2 (dCons (dVar 0) dNil)) (nName 2))
    (sSeq (sAsg (dCall (sp_too_near K) Ed0 (dCons (dVar 0) (dCons (dVar 1) dNil))) (nName 3))
    (sSeq (sIf (dTest (dOp rNeD (dVar 0) (dVar 2))) (sRet (dCon (.int 0))) sNext)
    (sSeq (sIf (dTest (dOp rIsN (dVar 3) (dCon .non))) (sRet (dCon .non)) sNext)
    (sSeq (sIf (dOr (dNot (dTest (rIsi2 "tuple" (dVar 3)))) (dTest (dOp rNeD (dCb rLen2 (dCons (dVar 3) dNil)) (dCon (.int 2))))) (sRet (dCon (.int 0))) sNext)
    (sSeq (sFor (iT (dVar 3)) (nName 4) (sIf (dOr (dTest (rIsi2 "bool" (dVar 4))) (dNot (dTest (rIsi2 "int" (dVar 4))))) (sRet (dCon (.int 0))) sNext))
    (sRet (dVar 3))))))))
theorem rd_l_told (K : PySem.W.Frag) : ∀ ds S Q (Ed : DXK), sp_l_told K ds S Q Ed → Opens K S (t_l_told K (dEnd K Q) (startS N_l_told ds)) := by
  rintro _ S Q _ ⟨r, rows, life, rfl, R, q⟩
  have hr := R.h
  refine Opens.here ?_
  unfold t_l_told
  walk_at "d"
  rename_i p hp
  refine ⟨_, _, _, rfl, R.sub (by walk_at "sub"), fun b S1 s1 hb => ?_⟩
  walk_at "d"
  refine w_neD (k := true) (EqD.refL (n := 2) (xs := rows.map Rw.enc) (by walk_at "fact") (by walk_at "fact") (rows_good R.g) (by decide)) ?_
  walk_at "d"
  cases b with
  | none =>
    refine w_isN ?_
    walk_at "d"
    exact Opens.here (q none _ (by walk_at "sub") hb)
  | some b =>
    obtain ⟨i, j⟩ := b
    obtain ⟨_, e, f, hi, hj, _⟩ := hb.2.1
    have eb := bestV_at hi hj
    have fin : ∀ S', Dv.Sub S S' → Opens K S' (Q (.tup [.int (e.k : Int), .int (f.k : Int)])) := fun S' s' => by
      rw [← eb]
      exact Opens.here (q (some (i, j)) _ s' hb)
    rw [eb]
    walk_at "d"
    refine ⟨true, rfl, ?_⟩
    walk_at "d"
    refine for_tupl (fun pre σ S' => ∃ o4, σ = [some (.ref r), some (.int life), some (.ref p), some (.tup [.int (e.k : Int), .int (f.k : Int)]), o4] ∧ Dv.Sub S S') ?_ ?_ ?_
    · exact ⟨_, rfl, by walk_at "sub"⟩
    · rintro pre d post σ S' ed ⟨o4, rfl, s⟩
      obtain ⟨v, rfl⟩ : ∃ v, d = .int v := by
        have : d ∈ ([.int (e.k : Int), .int (f.k : Int)] : List DV) := by rw [ed]; simp
        simp only [List.mem_cons, List.not_mem_nil, or_false] at this
        rcases this with rfl | rfl <;> exact ⟨_, rfl⟩
      walk_at "d"
      refine ⟨false, rfl, ?_⟩
      walk_at "d"
      refine ⟨true, rfl, ?_⟩
      walk_at "d"
      exact ⟨_, rfl, s⟩
    · rintro σ S' ⟨o4, rfl, s⟩
      walk_at "d"
      exact fin _ s
theorem cut_pos {α : Type} (f : α → DV) (xs : List α) {k : Int} (h0 : 0 ≤ k) (hx : 1 ≤ xs.length) : ∃ ys : List α, cutD (xs.map f) none (some (1 + k)) = ys.map f ∧ (∀ y, y ∈ ys → y ∈ xs) ∧ ys.length ≤ xs.length ∧ 1 ≤ ys.length := by
  refine ⟨xs.take (HT.sIx xs.length xs.length (some (1 + k))), ?_, fun y m => List.mem_of_mem_take m, ?_, ?_⟩
  · unfold Dv.cutD
    rw [List.length_map, List.map_take]
    rfl
  · rw [List.length_take]; omega
  · rw [List.length_take]
    have e : HT.sIx xs.length xs.length (some (1 + k)) = min (1 + k).toNat xs.length := by
      show (if 1 + k < 0 then _ else _) = _
      rw [if_neg (by omega)]
    rw [e]
    omega
theorem bestV_good (E : List Ent) (b : Option (Nat × Nat)) : good 1 (bestV E b) := by
  cases b with
  | none => exact good_non
  | some b => exact good_tup (all_cons good_int (all_cons good_int all_nil))
theorem bestV_eq {S : Sr} (E : List Ent) (b : Option (Nat × Nat)) : EqD S (bestV E b) (bestV E b) true := by
  have h := EqD.data (S := S) (bestV_good E b) (bestV_good E b) (by decide)
  rw [eqv_toP (bestV_good E b).1] at h
  exact h
def sp_law (K : PySem.W.Frag) : SpD := spLaw
def t_law (K : PySem.W.Frag) : DS := (sSeq (sAsg (dCall (sp_l_deck K) Ed0 (dCons (dVar 0) dNil)) (nName 1))
    (sSeq (sAsg (dCall (sp_l_menus K) Ed0 (dCons (dVar 1) dNil)) (nName 2))
    (sSeq (sFor (iR1 (dCons (dCon (.int 4)) dNil)) (nName 3) (sSeq (sAsg (dLst (dCons (dOp rIx2 (dVar 2) (dCon (.int 0))) (dCons (dOp rIx2 (dVar 2) (dCon (.int 1))) (dCons (dSl (dOp rIx2 (dVar 2) (dCon (.int 2))) dNo (dPart (dOp rAdd (dCon (.int 1)) (dCall (sp_l_draw K) Ed0 (dCons (dVar 1) (dCons (dCon (.int 2)) dNil)))))) (dCons (dSl (dOp rIx2 (dVar 2) (dCon (.int 3))) dNo (dPart (dOp rAdd (dCon (.int 1)) (dCall (sp_l_draw K) Ed0 (dCons (dVar 1) (dCons (dCon (.int 3)) dNil)))))) dNil))))) (nName 4))
    (sSeq (sAsg (dCall (sp_l_some_head K) Ed0 (dCons (dVar 1) (dCons (dVar 4) dNil))) (nName 5))
    (sSeq (sAsg (dCall (sp_l_lived K) Ed0 (dCons (dVar 1) (dCons (dVar 5) (dCons (dVar 4) (dCons (dOp rIx2 (dLst (dCons (dCall (sp_l_draw K) Ed0 (dCons (dVar 1) (dCons (dCon (.int 9)) dNil))) (dCons (dCall (sp_l_draw K) Ed0 (dCons (dVar 1) (dCons (dCon (.int 31)) dNil))) dNil))) (dCall (sp_l_draw K) Ed0 (dCons (dVar 1) (dCons (dCon (.int 2)) dNil)))) dNil))))) (nName 5))
    (sSeq (sAsg (dCall (sp_l_life K) Ed0 (dCons (dVar 1) (dCons (dVar 5) dNil))) (nName 6))
    (sSeq (sAsg (dCall (sp_l_due K) Ed0 (dCons (dVar 5) (dCons (dVar 6) dNil))) (nName 7))
    (sIf (dOr (dTest (dOp rNeD (dCall (sp_l_told K) Ed0 (dCons (dVar 5) (dCons (dVar 6) dNil))) (dVar 7))) (dTest (dOp rNeD (dCall (sp_l_told K) Ed0 (dCons (dVar 5) (dCons (dVar 6) dNil))) (dVar 7)))) (sRet (dCon (.bl false))) sNext)))))))
    (sRet (dOp rIsN (dCall (sp_too_near K) Ed0 (dCons (dLst dNil) (dCons (dCon (.int 1)) dNil))) (dCon .non))))))
theorem rd_law (K : PySem.W.Frag) : ∀ ds S Q (Ed : DXK), sp_law K ds S Q Ed → Opens K S (t_law K (dEnd K Q) (startS N_law ds)) := by
  rintro _ S Q _ ⟨ns, rfl, len, q⟩
  refine Opens.here ?_
  unfold t_law
  walk_at "d"
  refine ⟨ns, rfl, len, fun a na => ?_⟩
  have ha : up S a (deckB K) a = some (deckB K) := up_same
  generalize up S a (deckB K) = S1 at ha ⊢
  walk_at "d"
  refine ⟨_, rfl, ha, fun m a1 a2 a3 a4 w1 w2 w3 w4 S2 s2 M => ?_⟩
  have ha2 := s2 _ _ ha
  walk_at "d"
  refine for_rng (fun i σ S' => ∃ (o3 o4 o5 o6 o7 : Option DV), σ = [some (.scr ns), some (.ref a), some (.ref m), o3, o4, o5, o6, o7] ∧ Dv.Sub S2 S') ?_ ?_ ?_
  · exact ⟨_, _, _, _, _, rfl, .refl⟩
  · rintro i σ S' hi ⟨o3, o4, o5, o6, o7, rfl, s⟩
    have M' := M.sub s
    have hm := M'.m
    have l1 := M'.l1.l
    have l2 := M'.l2.l
    have l3 := M'.l3.l
    have l4 := M'.l4.l
    walk_at "d"
    rename_i k3 h30 h31 p3 f3 k4 h40 h41 p4 f4 pm fm
    obtain ⟨v3, e3, m3, z3, y3⟩ := cut_pos DV.str w3 h30 M'.l3.lo
    obtain ⟨v4, e4, m4, z4, y4⟩ := cut_pos DV.str w4 h40 M'.l4.lo
    rw [e3] at f4 fm ⊢
    rw [e4] at fm ⊢
    have zz3 := M'.l3.hi
    have zz4 := M'.l4.hi
    have M1 : Menus (up (up (up S' p3 (.lst (v3.map DV.str))) p4 (.lst (v4.map DV.str))) pm (.lst [.ref a1, .ref a2, .ref p3, .ref p4])) pm a1 a2 p3 p4 w1 w2 v3 v4 :=
      ⟨up_same, M'.l1.sub (by walk_at "sub"), M'.l2.sub (by walk_at "sub"), ⟨by walk_at "fact", fun w hw => M'.l3.t w (m3 w hw), y3, by omega⟩, ⟨by walk_at "fact", fun w hw => M'.l4.t w (m4 w hw), y4, by omega⟩⟩
    refine ⟨_, _, _, _, _, _, _, _, _, _, rfl, by walk_at "fact", M1, fun r rows S3 s3 n3 h3 g nd rl => ?_⟩
    have hm1 := M1.m
    have k1 := M1.l1.l
    have k2 := M1.l2.l
    have k3 := M1.l3.l
    have k4 := M1.l4.l
    have ha1 : (up (up (up S' p3 (.lst (v3.map DV.str))) p4 (.lst (v4.map DV.str))) pm (.lst [.ref a1, .ref a2, .ref p3, .ref p4])) a = some (deckB K) := by walk_at "fact"
    have sX : Dv.Sub S2 (up (up (up S' p3 (.lst (v3.map DV.str))) p4 (.lst (v4.map DV.str))) pm (.lst [.ref a1, .ref a2, .ref p3, .ref p4])) := by walk_at "sub"
    generalize (up (up (up S' p3 (.lst (v3.map DV.str))) p4 (.lst (v4.map DV.str))) pm (.lst [.ref a1, .ref a2, .ref p3, .ref p4])) = X at M1 s3 n3 hm1 k1 k2 k3 k4 ha1 sX
    clear hm l1 l2 l3 l4 M'
    have n_a : a ≠ r := sneF ha1 n3
    have n_m : pm ≠ r := sneF hm1 n3
    have n_1 : a1 ≠ r := sneF k1 n3
    have n_2 : a2 ≠ r := sneF k2 n3
    have n_3 : p3 ≠ r := sneF k3 n3
    have n_4 : p4 ≠ r := sneF k4 n3
    have nr : Fr S2 r := Sub.nn sX n3
    walk_at "d"
    refine pickI 0 30 (by walk_at "fact") (by assumption) (by simp only [List.length_cons, List.length_nil]; omega) (by walk_at "ints") fun many _ _ => ?_
    walk_at "d"
    refine ⟨_, _, _, _, _, _, _, _, _, _, _, _, rows, rfl, by walk_at "fact", M1.sub (by walk_at "sub"), ⟨by walk_at "ne", by walk_at "ne", by walk_at "ne", by walk_at "ne", by walk_at "ne", by walk_at "ne"⟩, by walk_at "fact", g, fun n t an h => absurd h (nd n t an), rl, by omega, by omega, fun rows' S5 k5 h5 g5 d5 l5 => ?_⟩
    walk_at "d"
    refine ⟨_, _, _, rfl, by walk_at "fact", ⟨h5, g5, d5, by omega⟩, fun life S6 s6 => ?_⟩
    walk_at "d"
    refine ⟨_, _, _, rfl, ⟨by walk_at "fact", g5, d5, by omega⟩, fun b S7 s7 hb => ?_⟩
    walk_at "d"
    refine ⟨_, _, _, rfl, ⟨by walk_at "fact", g5, d5, by omega⟩, fun b2 S8 s8 hb2 => ?_⟩
    have e2 := hb2.uniq hb
    subst e2
    walk_at "d"
    refine w_neD (k := true) (bestV_eq _ _) ?_
    walk_at "d"
    refine ⟨_, _, _, rfl, ⟨by walk_at "fact", g5, d5, by omega⟩, fun b3 S9 s9 hb3 => ?_⟩
    have e3 := hb3.uniq hb
    subst e3
    walk_at "d"
    refine w_neD (k := true) (bestV_eq _ _) ?_
    walk_at "d"
    exact ⟨_, _, _, _, _, rfl, by walk_at "sub"⟩
  · rintro σ S' ⟨o3, o4, o5, o6, o7, rfl, s⟩
    walk_at "d"
    refine ⟨_, [], 1, rfl, ⟨up_same, fun _ h => (by cases h), fun _ _ _ h => (by cases h), (by simp)⟩, fun b S3 s3 hb => ?_⟩
    cases b with
    | none =>
      walk_at "d"
      refine w_isN ?_
      exact Opens.here (q _)
    | some b =>
      obtain ⟨_, e, f, h, _⟩ := hb.2.1
      cases h
end K72
set_option Elab.async false
set_option linter.all false
set_option maxRecDepth 100000
set_option maxHeartbeats 1000000
namespace K72
open PySem PySem.Spec PyProof.Rows L2 Dv Ty
local macro_rules | `(tactic| walk_at "sub") => `(tactic| first | with_reducible exact Sub.refl | assumption | ((with_reducible refine Sub.up2 ?_ (by assumption)); walk_at "sub") | ((with_reducible refine Sub.upF ?_ (by first | assumption | exact Sub.nn (by assumption) (by assumption))); walk_at "sub") | ((with_reducible refine Sub.trans ?_ (by assumption)); walk_at "sub") | ((with_reducible refine Kp.sub2 ?h1 (by assumption) ?h2); (case h2 => walk_at "fr"); (case h1 => walk_at "sub")))
local macro_rules | `(tactic| walk_at "kp") => `(tactic| first | exact Kp.refl | assumption | ((with_reducible refine Kp.set ?_); walk_at "kp") | ((with_reducible refine Kp.up2 ?_ (by assumption)); walk_at "kp") | ((with_reducible refine Kp.upF ?_ ?h); (case h => walk_at "fr"); walk_at "kp") | ((with_reducible refine Kp.sub ?_ (by assumption)); walk_at "kp") | ((with_reducible refine Kp.trans ?_ (by assumption)); walk_at "kp") | ((with_reducible refine Kp.tr2 ?h1 (by assumption) ?h2); (case h2 => walk_at "fr"); (case h1 => walk_at "kp")) | (refine Kp.of ?_; walk_at "sub"))
local macro_rules | `(tactic| walk_at "keep") => `(tactic| first | with_reducible exact Keep.refl | assumption | ((with_reducible refine Keep.up2 ?_ (by assumption)); walk_at "keep") | ((with_reducible refine Keep.sub ?_ (by assumption)); walk_at "keep") | ((with_reducible refine Keep.trans ?_ (by assumption)); walk_at "keep"))
local macro_rules | `(tactic| walk_at "ne") => `(tactic| first | assumption | (apply Ne.symm; assumption) | ((with_reducible refine sneF (S := ?S) (o := ?o) ?h1 ?h2); (case h2 => assumption); (case h1 => walk_at "fact")) | ((with_reducible refine Ne.symm (sneF (S := ?S) (o := ?o) ?h1 ?h2)); (case h2 => assumption); (case h1 => walk_at "fact")))
local macro_rules | `(tactic| walk_at "fact") => `(tactic| first | assumption | exact up_same | ((with_reducible refine up_at (by assumption) ?_); walk_at "fact") | ((with_reducible refine up_at2 ?h ?_); (case h => walk_at "ne"); walk_at "fact") | ((with_reducible refine Sub.at (by assumption) ?_); walk_at "fact") | ((with_reducible refine Kp.at (by assumption) ?h ?_); (case h => walk_at "ne"); walk_at "fact"))
local macro_rules | `(tactic| walk_at "sok") => `(tactic| first | assumption | (refine sOk_lit ?_; decide +kernel) | ((with_reducible refine sOk.cut ?_ _ _); walk_at "sok") | ((with_reducible refine sOk.app (n := ?n) (m := ?m) ?h1 ?h2); (case h1 => walk_at "sok"); (case h2 => walk_at "sok")))
local macro_rules | `(tactic| walk_at "fr") => `(tactic| first | assumption | ((refine Sub.nn (S' := ?S') ?h1 ?h2); (case h2 => assumption); (case h1 => walk_at "sub")))
local macro_rules | `(tactic| walk_at "len") => `(tactic| first | (refine sOk.le (n := ?n) ?h1 ?h2; (case h1 => walk_at "sok"); (case h2 => decide)) | omega | decide +kernel)
local macro_rules | `(tactic| walk_at "ints") => `(tactic| first | exact all_nil | (refine all_cons ⟨_, rfl, by omega, by omega⟩ ?_; walk_at "ints") | (refine all_cons ⟨_, rfl⟩ ?_; walk_at "ints"))
local macro_rules | `(tactic| walk_at "d2") => `(tactic| fail "d2")
local macro_rules | `(tactic| walk_at "d1") => `(tactic| first
  | with_reducible refine w_seqE ?_
  | with_reducible refine w_retE ?_
  | with_reducible refine w_nextE ?_
  | with_reducible refine w_rtE ?_
  | with_reducible refine w_nxE ?_
  | with_reducible refine w_asgE ?_
  | with_reducible refine w_dropE ?_
  | with_reducible refine w_retNE ?_
  | with_reducible refine w_seq ?_
  | ((with_reducible refine w_var (d := ?d) ?h ?_); (case h => exact rfl))
  | with_reducible refine w_con ?_
  | with_reducible refine w_cons ?_
  | with_reducible refine w_nil ?_
  | with_reducible refine w_op ?_
  | with_reducible refine w_call ?_
  | with_reducible refine w_asg ?_
  | with_reducible refine w_name ?_
  | with_reducible refine w_ret ?_
  | with_reducible refine w_retE ?_
  | with_reducible refine w_if ?_
  | with_reducible refine w_test ?_
  | with_reducible refine w_tk ?_
  | with_reducible refine w_seqE ?_
  | with_reducible refine w_drop ?_
  | with_reducible refine w_next ?_
  | with_reducible refine w_nextE ?_
  | with_reducible refine w_nx ?_
  | with_reducible refine w_ct ?_
  | with_reducible refine w_rt ?_
  | with_reducible refine w_rtE ?_
  | with_reducible refine w_nxE ?_
  | with_reducible refine w_bk ?_
  | with_reducible refine w_retN ?_
  | with_reducible refine w_retNE ?_
  | with_reducible refine w_asgE ?_
  | with_reducible refine w_dropE ?_
  | with_reducible refine w_cont ?_
  | with_reducible refine w_break ?_
  | with_reducible refine w_for ?_
  | with_reducible refine w_lc ?_
  | with_reducible refine w_iL ?_
  | with_reducible refine w_iT ?_
  | with_reducible refine w_iE ?_
  | with_reducible refine w_iR1 ?_
  | with_reducible refine w_iR2 ?_
  | with_reducible refine w_iR3 ?_
  | with_reducible refine w_tkI ?_
  | with_reducible refine w_and ?_
  | with_reducible refine w_or ?_
  | with_reducible refine w_not ?_
  | with_reducible refine w_yes ?_
  | with_reducible refine w_andV ?_
  | with_reducible refine w_orV ?_
  | with_reducible refine w_notV ?_
  | with_reducible refine w_ifE ?_
  | with_reducible refine w_un ?_
  | with_reducible refine w_neg ?_
  | with_reducible refine w_tup ?_
  | with_reducible refine w_lst ?_
  | ((with_reducible refine w_tupk ?h ?_); (case h => exact rfl))
  | ((with_reducible refine w_lstk ?h ?_); (case h => exact rfl))
  | with_reducible refine w_int0 ?_
  | with_reducible refine w_addI ?_
  | with_reducible refine w_cb ?_
  | with_reducible refine w_sl ?_
  | with_reducible refine w_no ?_
  | with_reducible refine w_part ?_
  | with_reducible refine w_partk ?_
  | with_reducible refine w_bm ?_
  | with_reducible refine w_bmS ?_
  | with_reducible refine w_get2 ?_
  | with_reducible refine w_newK ?_
  | with_reducible refine w_isi ?_
  | with_reducible refine w_nnil ?_
  | with_reducible refine w_ncons ?_
  | with_reducible refine w_nsub ?_
  | with_reducible refine w_brT ?_
  | with_reducible refine w_brF ?_
  | with_reducible refine w_brB ?_
  | with_reducible refine w_ltI ?_
  | with_reducible refine w_ltS ?_
  | with_reducible refine w_eqI ?_
  | with_reducible refine w_neI ?_
  | with_reducible refine w_neB ?_
  | with_reducible refine w_isN ?_
  | with_reducible refine w_isT ?_
  | with_reducible refine w_isI ?_
  | with_reducible refine w_isS ?_
  | with_reducible refine w_isR ?_
  | with_reducible refine w_ntN ?_
  | with_reducible refine w_ntT ?_
  | with_reducible refine w_ntI ?_
  | with_reducible refine w_ntS ?_
  | with_reducible refine w_ntR ?_
  | with_reducible refine w_slT ?_
  | with_reducible refine w_lenT ?_
  | with_reducible refine w_intI ?_
  | with_reducible refine w_intB ?_
  | with_reducible refine w_max ?_
  | with_reducible refine w_min ?_
  | with_reducible refine w_abs ?_
  | with_reducible refine w_pow12 ?_
  | with_reducible refine w_pow18 ?_
  | with_reducible refine w_pow9 ?_
  | with_reducible refine w_pow10 ?_
  | with_reducible refine w_pow11 ?_
  | ((with_reducible refine w_mod ?h ?_); (case h => omega))
  | ((with_reducible refine w_mulL ?h1 ?h2 ?_); (case h1 => omega); (case h2 => omega))
  | ((with_reducible refine w_mulR ?h1 ?h2 ?_); (case h1 => omega); (case h2 => omega))
  | ((with_reducible refine w_fdiv ?h1 ?h2 ?_); (case h1 => omega); (case h2 => omega))
  | ((with_reducible refine w_ixT (z := ?z) ?h ?_); (case h => exact rfl))
  | ((with_reducible refine w_ixL (xs := ?xs) (z := ?z) ?h ?e ?_); (case h => walk_at "fact"); (case e => exact rfl))
  | ((with_reducible refine w_draw ?h ?h0 ?h1 ?_); (case h => walk_at "fact"); (case h0 => omega); (case h1 => omega))
  | ((with_reducible refine w_lenLS (ws := ?xs) ?h ?_); (case h => walk_at "fact"))
  | ((with_reducible refine w_lenL (xs := ?xs) ?h ?_); (case h => walk_at "fact"))
  | ((with_reducible refine w_bmL (ds := ?xs) ?h ?_); (case h => walk_at "fact"))
  | ((with_reducible refine w_app (ds := ?xs) ?h ?hl ?_); (case h => walk_at "fact"); (case hl => simp only [List.length_append, List.length_cons, List.length_nil, List.length_map]; omega))
  | ((with_reducible refine w_addT ?h ?_); (case h => exact rfl))
  | ((with_reducible refine w_addS2 (n := ?n) (m := ?m) ?h1 ?h2 ?h ?_); (case h1 => walk_at "sok"); (case h2 => walk_at "sok"); (case h => exact rfl))
  | ((with_reducible refine w_slS ?h ?_); (case h => walk_at "len"))
  | ((with_reducible refine w_lenS ?h ?_); (case h => walk_at "len"))
  | ((with_reducible refine w_slL (xs := ?xs) ?h ?_); (case h => walk_at "fact"))
  | ((with_reducible refine w_listR (xs := ?xs) ?h ?_); (case h => walk_at "fact"))
  | ((with_reducible refine w_gk (kvs := ?xs) ?h ?_); (case h => walk_at "fact"))
  | ((with_reducible refine w_eqSt ?h ?_); (case h => decide +kernel))
  | ((with_reducible refine w_eqSf ?h ?_); (case h => decide +kernel))
  | ((with_reducible refine w_neSt ?h ?_); (case h => decide +kernel))
  | ((with_reducible refine w_neSf ?h ?_); (case h => decide +kernel))
  | ((with_reducible refine w_inT (k := true) ?h1 ?h2 ?h3 ?_); (case h1 => exact rfl); (case h2 => exact rfl); (case h3 => decide +kernel))
  | ((with_reducible refine w_inT (k := false) ?h1 ?h2 ?h3 ?_); (case h1 => exact rfl); (case h2 => exact rfl); (case h3 => decide +kernel))
  | ((with_reducible refine w_r1 ?h1 ?h2 ?_); (case h1 => omega); (case h2 => omega))
  | ((with_reducible refine w_r2 ?h1 ?h2 ?h3 ?h4 ?_); (case h1 => omega); (case h2 => omega); (case h3 => omega); (case h4 => omega))
  | ((with_reducible refine w_r3 ?h1 ?h2 ?h3 ?h4 ?_); (case h1 => omega); (case h2 => omega); (case h3 => omega); (case h4 => omega))
  | ((with_reducible refine w_brD ?h ?_); (case h => first | assumption | omega))
  | ((with_reducible refine w_brN ?h ?_); (case h => first | assumption | omega))
  | ((with_reducible refine w_putL (xs := ?xs) (j := ?j) ?h ?e ?_); (case h => walk_at "fact"); (case e => exact rfl))
  | ((with_reducible refine w_pop0 (ds := ?xs) (d := ?d) ?h ?_); (case h => walk_at "fact"))
  | ((with_reducible refine w_ins0 (ds := ?xs) ?h ?hl ?_); (case h => walk_at "fact"); (case hl => simp only [List.length_append, List.length_cons, List.length_nil, List.length_map]; omega))
  | with_reducible refine w_disp ?_
  | with_reducible refine w_dpcons ?_
  | with_reducible refine w_dpnil ?_
  | ((with_reducible refine w_dispk (kvs := ?kvs) ?h ?e ?l ?_); (case h => walk_at "fact"); (case e => exact rfl); (case l => exact rfl))
  | walk_at "d2"
  | with_reducible intro _)
local macro_rules | `(tactic| walk_at "d") => `(tactic| repeat' (walk_at "d1"))
local macro_rules | `(tactic| walk_at "dd") => `(tactic| repeat' (first | walk_at "d1" | walk_at "two"))
local macro_rules | `(tactic| walk_at "two") => `(tactic| first | with_reducible refine br_dec (fun _ => ?_) (fun _ => ?_) | with_reducible refine br_b (fun _ => ?_) (fun _ => ?_))

theorem w_slScr {σ : DSt} {S : Sr} {Q : DK} {ns : List Int} {l u : Option Int} (q : ∀ p, Fr S p → Q (.ref p) (up S p (.lst (Dv.cutD (ns.map DV.int) l u)))) : rSl2 (.scr ns) l u S Q := q
theorem rd_l_deck (K : PySem.W.Frag) : ∀ ds S Q (Ed : DXK), sp_l_deck K ds S Q Ed → Opens K S (t_l_deck K (dEnd K Q) (startS N_l_deck ds)) := by
  rintro _ S Q _ ⟨ns, rfl, len, q⟩
  refine Opens.here ?_
  unfold t_l_deck
  obtain ⟨cs, e, m, l⟩ := cutD_map DV.int ns none (some 63)
  walk_at "d"
  refine w_slScr (σ := []) fun p hp => ?_
  rw [e]
  walk_at "d"
  rename_i b hb
  refine w_slScr (σ := []) fun p2 hp2 => ?_
  rw [e]
  walk_at "d"
  refine ⟨cs, up_same, ?_⟩
  walk_at "d"
  rename_i a na
  have nab : a ≠ b := by walk_at "ne"
  have fa : Fr S a := by walk_at "fr"
  have fb : Fr S b := by walk_at "fr"
  refine deck_shut (S := up S a (deckB K)) (b := b) (cells := cs) ⟨up_same, by walk_at "fact", nab, by omega⟩ (fun c o hc h => ?_) (fun o h => ?_) (q a fa)
  · rw [up_ne hc] at h
    exact ⟨sneF h fb, by walk_at "fact"⟩
  · rw [up_same] at h
    exact (Option.some.inj h).symm
section
variable {P : Program} {w : World} {K : PySem.W.Frag} {mg : Str → Option Value} {base : Heap}
theorem passL {P : Program} {w : World} {X : Cx} : Passes (L2.CX P w) X E0 := fun _ _ _ _ _ _ _ h => by
  obtain ⟨_, _, _, _, _, _, _, _, _, _, _, _, z⟩ := h
  exact z.elim
theorem dgw_tupK {X : Cx} {H0 : Hp} {pos : Pos} {vs : List Nat} {es : List Expr} {k : Nat} {g' : TGs} {g : DGs} {n : Nat} (K : PySem.W.Frag) (h : Dgsw X H0 es vs g' g) (hK : X.K = K := by rfl) (hc : X.calm = true := by rfl)
    (hn : (assignEach es X.env).length = n := by rfl) (hst : (assignEach es X.env).findIdx? (·.1) = none := by rfl) : Dgw X H0 (.Tuple es k pos) vs (gTup K n g') (nTup n g) := by
  subst hK
  exact dgw_tup h hc hn hst
theorem dv_came_rows (G : Glb K mg) (cdv : Value) (A : Around) (outer : List Env) (s : Shared) (H : Hp) (E : XK) (hr : Room 0 (A.deeper (envOfC "came_rows" (defScope s_came_rows) s.heap.objs.size G.came_rows.a cdv))) :
    Dss (cxOf (L2.CX P w) P w K mg base N_came_rows "came_rows" (defScope s_came_rows) G.came_rows.a cdv A outer s H E).nox H (defBody s_came_rows) (t_came_rows K) := by
  have hu1 := hu_of hr
  have hu64 := hr.units
  have hu0 := hr.units0
  have hu65 := room65 hr
  exact (dss_cons (ds_set (i := 1) de_newK sc_came_rows.nd)
    (dss_cons (ds_for PassesOwn.never (di_list (de_var (i := 0))) (dg_name (i := 2) sc_came_rows.nd) (dss_one (ds_if (dt_cmp (o_eq hu64) (de_ix hu1 (de_var (i := 2)) de_int) de_str) (dss_one (ds_asg (de_var (i := 2)) (dg_sub hu1 (de_var (i := 1)) (de_ix hu1 (de_var (i := 2)) de_int)))) dss_nil)))
    (dss_one (ds_ret (de_var (i := 1))))))
theorem ok_came_rows (G : Glb K mg) : FnOk P w K mg base (L2.CX P w) 1 G.came_rows.a G.came_rows.fd ["rows"] (spV K (sp_came_rows K)) :=
  FunD.okD0 (k := 0) G.came_rows.F sc_came_rows (fun ds S Q E h => by
    first | unfold sp_came_rows at h | skip
    repeat (first | (obtain ⟨rfl, _⟩ := h; rfl) | (obtain ⟨_, h⟩ := h))) (fun cdv A outer s H E hr => dv_came_rows G cdv A outer s H E hr) (rd_came_rows K)
theorem dv_kept_of (G : Glb K mg) (cdv : Value) (A : Around) (outer : List Env) (s : Shared) (H : Hp) (E : XK) (hr : Room 1 (A.deeper (envOfC "kept_of" (defScope s_kept_of) s.heap.objs.size G.kept_of.a cdv))) :
    Dss (cxOf (L2.CX P w) P w K mg base N_kept_of "kept_of" (defScope s_kept_of) G.kept_of.a cdv A outer s H E).nox H (defBody s_kept_of) (t_kept_of K) := by
  have hu1 := hu_of hr
  have hu64 := hr.units
  have hu0 := hr.units0
  have hu65 := room65 hr
  exact (dss_cons (ds_set (i := 1) (de_call (E := E0) (ok_came_rows G) (hr.mono (by decide)) G.came_rows.m G.came_rows.F.kp G.came_rows.b passL lnk0 (da_cons (de_var (i := 0)) da_nil)) sc_kept_of.nd)
    (dss_cons (ds_set (i := 2) (de_lst da_nil) sc_kept_of.nd)
    (dss_cons (ds_for PassesOwn.never (di_list (de_var (i := 0))) (dg_name (i := 3) sc_kept_of.nd) (dss_one (ds_if (dt_cmp (o_eq hu64) (de_ix hu1 (de_var (i := 3)) de_int) de_str) (dss_one (ds_expr (de_bm m_append (de_var (i := 2)) (da_cons (de_slice (de_var (i := 3)) (do_some de_int) do_none) da_nil) PySem.F.plainAttrs_list PySem.F.slot_list_append PySem.F.type_list_append))) (dss_one (ds_if (dt_cmp (o_eq hu64) (de_ix hu1 (de_var (i := 3)) de_int) de_str) (dss_cons (ds_asg (de_slice (de_var (i := 3)) (do_some de_int) do_none) (dg_tup (dgs_cons (dg_name (i := 4) sc_kept_of.nd) (dgs_cons (dg_name (i := 5) sc_kept_of.nd) (dgs_cons (dg_name (i := 6) sc_kept_of.nd) dgs_nil)))))
    (dss_cons (ds_asg (de_slice (de_ix hu1 (de_var (i := 1)) (de_var (i := 4))) (do_some de_int) do_none) (dg_tup (dgs_cons (dg_name (i := 7) sc_kept_of.nd) (dgs_cons (dg_name (i := 8) sc_kept_of.nd) (dgs_cons (dg_name (i := 9) sc_kept_of.nd) dgs_nil)))))
    (dss_one (ds_expr (de_bm m_append (de_var (i := 2)) (da_cons (de_tup (da_cons (de_var (i := 4)) (da_cons (de_var (i := 5)) (da_cons (de_var (i := 7)) (da_cons (de_var (i := 8)) (da_cons (de_var (i := 9)) (da_cons (de_var (i := 6)) da_nil))))))) da_nil) PySem.F.plainAttrs_list PySem.F.slot_list_append PySem.F.type_list_append))))) dss_nil)))))
    (dss_one (ds_ret (de_var (i := 2)))))))
theorem ok_kept_of (G : Glb K mg) : FnOk P w K mg base (L2.CX P w) 2 G.kept_of.a G.kept_of.fd ["rows"] (spV K (sp_kept_of K)) :=
  FunD.okD0 (k := 1) G.kept_of.F sc_kept_of (fun ds S Q E h => by
    first | unfold sp_kept_of at h | skip
    repeat (first | (obtain ⟨rfl, _⟩ := h; rfl) | (obtain ⟨_, h⟩ := h))) (fun cdv A outer s H E hr => dv_kept_of G cdv A outer s H E hr) (rd_kept_of K)
theorem dv_too_near (G : Glb K mg) (cdv : Value) (A : Around) (outer : List Env) (s : Shared) (H : Hp) (E : XK) (hr : Room 2 (A.deeper (envOfC "too_near" (defScope s_too_near) s.heap.objs.size G.too_near.a cdv))) :
    Dss (cxOf (L2.CX P w) P w K mg base N_too_near "too_near" (defScope s_too_near) G.too_near.a cdv A outer s H E).nox H (defBody s_too_near) (t_too_near K) := by
  have hu1 := hu_of hr
  have hu64 := hr.units
  have hu0 := hr.units0
  have hu65 := room65 hr
  exact (dss_cons (ds_setLc (i := 2) (own := [("place", 7), ("row", 8)]) sc_too_near.nd (di_enum (da_cons (de_var (i := 0)) da_nil) (by rfl) G.n_enumerate) (blkOk_by (own := [("place", 7), ("row", 8)]) (N := N_too_near) (sc := defScope s_too_near) (by decide +kernel)) (fun _ _ _ _ _ => (dgw_tupK K (dgsw_cons (dgw_name (i := 7) sc_too_near.nd) (dgsw_cons (dgw_name (i := 8) sc_too_near.nd) dgsw_nil)))) (fun _ _ _ _ _ => (dts_one (dt_cmp (o_inD hu1) (de_ix hu1 (de_var (i := 8)) de_int) (de_tup (da_cons de_str (da_cons de_str da_nil)))))) (fun _ _ _ _ _ => (de_var (i := 7))) (sw_true rfl rfl rfl (by decide +kernel)))
    (dss_cons (ds_set (i := 3) (de_call (E := E0) (ok_kept_of G) (hr.mono (by decide)) G.kept_of.m G.kept_of.F.kp G.kept_of.b passL lnk0 (da_cons (de_var (i := 0)) da_nil)) sc_too_near.nd)
    (dss_cons (ds_for PassesOwn.never (di_enum (da_cons (de_var (i := 3)) da_nil) (by rfl) G.n_enumerate) (dg_tup (dgs_cons (dg_name (i := 4) sc_too_near.nd) (dgs_cons (dg_name (i := 5) sc_too_near.nd) dgs_nil))) (dss_one (ds_for PassesOwn.never (di_range3 (da_cons (de_op o_sub (de_var (i := 4)) de_int) (da_cons (de_neg de_int) (da_cons (de_neg de_int) da_nil))) (by rfl) G.n_range) (dg_name (i := 6) sc_too_near.nd) (dss_one (ds_if (Dw.dt (dw_and (dt_cmp (o_eq hu64) (de_slice (de_ix hu1 (de_var (i := 3)) (de_var (i := 6))) (do_some de_int) (do_some de_int)) (de_slice (de_var (i := 5)) (do_some de_int) (do_some de_int))) (dw_and1 (dt_cmp (o_lt hu0) (de_ix hu1 (de_var (i := 5)) de_int) (de_op o_add (de_ix hu1 (de_ix hu1 (de_var (i := 3)) (de_var (i := 6))) de_int) (de_var (i := 1))))))) (dss_one (ds_ret (de_tup (da_cons (de_ix hu1 (de_var (i := 2)) (de_var (i := 6))) (da_cons (de_ix hu1 (de_var (i := 2)) (de_var (i := 4))) da_nil))))) dss_nil)))))
    (dss_one (ds_ret de_non)))))
theorem ok_too_near (G : Glb K mg) : FnOk P w K mg base (L2.CX P w) 3 G.too_near.a G.too_near.fd ["rows", "life"] (spV K (sp_too_near K)) :=
  FunD.okD0 (k := 2) G.too_near.F sc_too_near (fun ds S Q E h => by
    first | unfold sp_too_near at h | skip
    repeat (first | (obtain ⟨rfl, _⟩ := h; rfl) | (obtain ⟨_, h⟩ := h))) (fun cdv A outer s H E hr => dv_too_near G cdv A outer s H E hr) (rd_too_near K)
theorem dv_l_deck (G : Glb K mg) (cdv : Value) (A : Around) (outer : List Env) (s : Shared) (H : Hp) (E : XK) (hr : Room 0 (A.deeper (envOfC "_law_deck" (defScope s_l_deck) s.heap.objs.size G.l_deck.a cdv))) :
    Dss (cxOf (L2.CX P w) P w K mg base N_l_deck "_law_deck" (defScope s_l_deck) G.l_deck.a cdv A outer s H E).nox H (defBody s_l_deck) (t_l_deck K) := by
  have hu1 := hu_of hr
  have hu64 := hr.units
  have hu0 := hr.units0
  have hu65 := room65 hr
  exact (dss_one (ds_ret (de_lst (da_cons (de_callTy b_list (da_cons (de_slice (de_var (i := 0)) do_none (do_some de_int)) da_nil) (by rfl) G.n_list bb_list) (da_cons (de_op o_add de_int (de_op o_mod (de_callB b_sum (da_cons (de_slice (de_var (i := 0)) do_none (do_some de_int)) da_nil) (by rfl) G.n_sum bb_sum) de_int)) (da_cons de_int da_nil))))))
theorem ok_l_deck (G : Glb K mg) : FnOk P w K mg base (L2.CX P w) 1 G.l_deck.a G.l_deck.fd ["_law_script"] (spV K (sp_l_deck K)) :=
  FunD.okD0 (k := 0) G.l_deck.F sc_l_deck (fun ds S Q E h => by
    first | unfold sp_l_deck at h | skip
    repeat (first | (obtain ⟨rfl, _⟩ := h; rfl) | (obtain ⟨_, h⟩ := h))) (fun cdv A outer s H E hr => dv_l_deck G cdv A outer s H E hr) (rd_l_deck K)
theorem dv_l_draw (G : Glb K mg) (cdv : Value) (A : Around) (outer : List Env) (s : Shared) (H : Hp) (E : XK) (hr : Room 0 (A.deeper (envOfC "_law_draw" (defScope s_l_draw) s.heap.objs.size G.l_draw.a cdv))) :
    Dss (cxOf (L2.CX P w) P w K mg base N_l_draw "_law_draw" (defScope s_l_draw) G.l_draw.a cdv A outer s H E).nox H (defBody s_l_draw) (t_l_draw K) := by
  have hu1 := hu_of hr
  have hu64 := hr.units
  have hu0 := hr.units0
  have hu65 := room65 hr
  exact (dss_cons (ds_asg (de_op o_add (de_ix hu1 (de_var (i := 0)) de_int) de_int) (dg_sub hu1 (de_var (i := 0)) de_int))
    (dss_cons (ds_set (i := 2) (de_ix hu1 (de_var (i := 0)) de_int) sc_l_draw.nd)
    (dss_cons (ds_if (dt_cmp (o_ne hu64) (de_ix hu1 (de_var (i := 0)) de_int) (de_lst da_nil)) (dss_cons (ds_set (i := 2) (de_bm m_pop0 (de_ix hu1 (de_var (i := 0)) de_int) (da_cons de_int da_nil) PySem.F.plainAttrs_list PySem.F.slot_list_pop PySem.F.type_list_pop) sc_l_draw.nd)
    (dss_one (ds_if (dt_cmp o_ge (de_var (i := 2)) (de_op o_pow de_int de_int)) (dss_cons (ds_expr (de_bm m_insert (de_ix hu1 (de_var (i := 0)) de_int) (da_cons de_int (da_cons (de_op o_fdiv (de_var (i := 2)) (de_var (i := 1))) da_nil)) PySem.F.plainAttrs_list PySem.F.slot_list_insert PySem.F.type_list_insert))
    (dss_one (ds_ret (de_op o_mod (de_var (i := 2)) (de_var (i := 1)))))) dss_nil))) dss_nil)
    (dss_cons (ds_set (i := 3) (de_op o_mod (de_op o_add (de_op o_add (de_op o_mul (de_op o_mod (de_var (i := 2)) de_int) de_int) (de_op o_mul de_int (de_ix hu1 (de_var (i := 0)) de_int))) de_int) de_int) sc_l_draw.nd)
    (dss_cons (ds_set (i := 3) (de_op o_mod (de_op o_mul (de_var (i := 3)) (de_var (i := 3))) de_int) sc_l_draw.nd)
    (dss_one (ds_ret (de_op o_mod (de_op o_fdiv (de_op o_mod (de_op o_mul (de_var (i := 3)) (de_op o_add (de_var (i := 3)) de_int)) de_int) de_int) (de_var (i := 1))))))))))
theorem ok_l_draw (G : Glb K mg) : FnOk P w K mg base (L2.CX P w) 1 G.l_draw.a G.l_draw.fd ["_law_deck_here", "_law_many"] (spV K (sp_l_draw K)) :=
  FunD.okD0 (k := 0) G.l_draw.F sc_l_draw (fun ds S Q E h => by
    first | unfold sp_l_draw at h | skip
    repeat (first | (obtain ⟨rfl, _⟩ := h; rfl) | (obtain ⟨_, h⟩ := h))) (fun cdv A outer s H E hr => dv_l_draw G cdv A outer s H E hr) (rd_l_draw K)
theorem dv_l_unlike (G : Glb K mg) (cdv : Value) (A : Around) (outer : List Env) (s : Shared) (H : Hp) (E : XK) (hr : Room 1 (A.deeper (envOfC "_law_unlike" (defScope s_l_unlike) s.heap.objs.size G.l_unlike.a cdv))) :
    Dss (cxOf (L2.CX P w) P w K mg base N_l_unlike "_law_unlike" (defScope s_l_unlike) G.l_unlike.a cdv A outer s H E).nox H (defBody s_l_unlike) (t_l_unlike K) := by
  have hu1 := hu_of hr
  have hu64 := hr.units
  have hu0 := hr.units0
  have hu65 := room65 hr
  exact (dss_cons (ds_set (i := 4) (de_bm m_join de_str (da_cons (de_lc (own := [("_law_k", 9)]) sc_l_unlike.nd (di_range1 (da_cons (de_var (i := 2)) da_nil) (by rfl) G.n_range) (blkOk_by (own := [("_law_k", 9)]) (N := N_l_unlike) (sc := defScope s_l_unlike) (by decide +kernel)) (fun _ _ _ _ _ => (dgw_name (i := 9) sc_l_unlike.nd)) (fun _ _ _ _ _ => dts_nil) (fun _ _ _ _ _ => (de_ix hu1 (de_var (i := 1)) (de_call (E := E0) (ok_l_draw G) (hr.mono (by decide)) G.l_draw.m G.l_draw.F.kp G.l_draw.b passL lnk0 (da_cons (de_var (i := 0)) (da_cons (de_callB b_len (da_cons (de_var (i := 1)) da_nil) (by rfl) G.n_len bb_len) da_nil)))))) da_nil) PySem.F.plainAttrs_str PySem.F.slot_str_join PySem.F.type_str_join) sc_l_unlike.nd)
    (dss_cons (ds_if (dt_cmp (o_eq hu64) (de_call (E := E0) (ok_l_draw G) (hr.mono (by decide)) G.l_draw.m G.l_draw.F.kp G.l_draw.b passL lnk0 (da_cons (de_var (i := 0)) (da_cons de_int da_nil))) de_int) (dss_one (ds_ret (de_lc (own := [("_law_k", 9)]) sc_l_unlike.nd (di_range1 (da_cons (de_var (i := 3)) da_nil) (by rfl) G.n_range) (blkOk_by (own := [("_law_k", 9)]) (N := N_l_unlike) (sc := defScope s_l_unlike) (by decide +kernel)) (fun _ _ _ _ _ => (dgw_name (i := 9) sc_l_unlike.nd)) (fun _ _ _ _ _ => dts_nil) (fun _ _ _ _ _ => (de_slice (de_var (i := 4)) do_none (do_some (de_op o_add (de_var (i := 9)) de_int))))))) dss_nil)
    (dss_cons (ds_set (i := 5) (de_op o_add de_int (de_call (E := E0) (ok_l_draw G) (hr.mono (by decide)) G.l_draw.m G.l_draw.F.kp G.l_draw.b passL lnk0 (da_cons (de_var (i := 0)) (da_cons (de_var (i := 2)) da_nil)))) sc_l_unlike.nd)
    (dss_cons (ds_set (i := 6) (de_call (E := E0) (ok_l_draw G) (hr.mono (by decide)) G.l_draw.m G.l_draw.F.kp G.l_draw.b passL lnk0 (da_cons (de_var (i := 0)) (da_cons (de_var (i := 5)) da_nil))) sc_l_unlike.nd)
    (dss_cons (ds_set (i := 7) (de_call (E := E0) (ok_l_draw G) (hr.mono (by decide)) G.l_draw.m G.l_draw.F.kp G.l_draw.b passL lnk0 (da_cons (de_var (i := 0)) (da_cons (de_callB b_len (da_cons (de_var (i := 1)) da_nil) (by rfl) G.n_len bb_len) da_nil))) sc_l_unlike.nd)
    (dss_cons (ds_set (i := 8) (de_tup (da_cons (de_slice (de_var (i := 4)) do_none (do_some (de_var (i := 6)))) (da_cons (de_slice (de_var (i := 4)) (do_some (de_op o_add (de_var (i := 6)) de_int)) (do_some (de_var (i := 5)))) da_nil))) sc_l_unlike.nd)
    (dss_one (ds_ret (de_lc (own := [("_law_k", 9)]) sc_l_unlike.nd (di_range1 (da_cons (de_var (i := 3)) da_nil) (by rfl) G.n_range) (blkOk_by (own := [("_law_k", 9)]) (N := N_l_unlike) (sc := defScope s_l_unlike) (by decide +kernel)) (fun _ _ _ _ _ => (dgw_name (i := 9) sc_l_unlike.nd)) (fun _ _ _ _ _ => dts_nil) (fun _ _ _ _ _ => (de_op o_add (de_op o_add (de_ix hu1 (de_var (i := 8)) de_int) (de_ix hu1 (de_var (i := 1)) (de_op o_mod (de_op o_add (de_var (i := 7)) (de_var (i := 9))) (de_callB b_len (da_cons (de_var (i := 1)) da_nil) (by rfl) G.n_len bb_len)))) (de_ix hu1 (de_var (i := 8)) de_int))))))))))))
theorem ok_l_unlike (G : Glb K mg) : FnOk P w K mg base (L2.CX P w) 2 G.l_unlike.a G.l_unlike.fd ["_law_deck_here", "_law_signs", "_law_longest", "_law_many"] (spV K (sp_l_unlike K)) :=
  FunD.okD0 (k := 1) G.l_unlike.F sc_l_unlike (fun ds S Q E h => by
    first | unfold sp_l_unlike at h | skip
    repeat (first | (obtain ⟨rfl, _⟩ := h; rfl) | (obtain ⟨_, h⟩ := h))) (fun cdv A outer s H E hr => dv_l_unlike G cdv A outer s H E hr) (rd_l_unlike K)
theorem dv_l_menus (G : Glb K mg) (cdv : Value) (A : Around) (outer : List Env) (s : Shared) (H : Hp) (E : XK) (hr : Room 2 (A.deeper (envOfC "_law_menus" (defScope s_l_menus) s.heap.objs.size G.l_menus.a cdv))) :
    Dss (cxOf (L2.CX P w) P w K mg base N_l_menus "_law_menus" (defScope s_l_menus) G.l_menus.a cdv A outer s H E).nox H (defBody s_l_menus) (t_l_menus K) := by
  have hu1 := hu_of hr
  have hu64 := hr.units
  have hu0 := hr.units0
  have hu65 := room65 hr
  exact (dss_cons (ds_set (i := 1) de_str sc_l_menus.nd)
    (dss_cons (ds_set (i := 2) (de_lst (da_cons (de_call (E := E0) (ok_l_unlike G) (hr.mono (by decide)) G.l_unlike.m G.l_unlike.F.kp G.l_unlike.b passL lnk0 (da_cons (de_var (i := 0)) (da_cons (de_var (i := 1)) (da_cons de_int (da_cons (de_op o_add de_int (de_call (E := E0) (ok_l_draw G) (hr.mono (by decide)) G.l_draw.m G.l_draw.F.kp G.l_draw.b passL lnk0 (da_cons (de_var (i := 0)) (da_cons de_int da_nil)))) da_nil))))) da_nil)) sc_l_menus.nd)
    (dss_cons (ds_expr (de_bm m_append (de_var (i := 2)) (da_cons (de_call (E := E0) (ok_l_unlike G) (hr.mono (by decide)) G.l_unlike.m G.l_unlike.F.kp G.l_unlike.b passL lnk0 (da_cons (de_var (i := 0)) (da_cons (de_var (i := 1)) (da_cons de_int (da_cons (de_op o_add de_int (de_call (E := E0) (ok_l_draw G) (hr.mono (by decide)) G.l_draw.m G.l_draw.F.kp G.l_draw.b passL lnk0 (da_cons (de_var (i := 0)) (da_cons de_int da_nil)))) da_nil))))) da_nil) PySem.F.plainAttrs_list PySem.F.slot_list_append PySem.F.type_list_append))
    (dss_cons (ds_expr (de_bm m_append (de_var (i := 2)) (da_cons (de_call (E := E0) (ok_l_unlike G) (hr.mono (by decide)) G.l_unlike.m G.l_unlike.F.kp G.l_unlike.b passL lnk0 (da_cons (de_var (i := 0)) (da_cons (de_var (i := 1)) (da_cons de_int (da_cons (de_op o_add de_int (de_call (E := E0) (ok_l_draw G) (hr.mono (by decide)) G.l_draw.m G.l_draw.F.kp G.l_draw.b passL lnk0 (da_cons (de_var (i := 0)) (da_cons de_int da_nil)))) da_nil))))) da_nil) PySem.F.plainAttrs_list PySem.F.slot_list_append PySem.F.type_list_append))
    (dss_cons (ds_expr (de_bm m_append (de_var (i := 2)) (da_cons (de_call (E := E0) (ok_l_unlike G) (hr.mono (by decide)) G.l_unlike.m G.l_unlike.F.kp G.l_unlike.b passL lnk0 (da_cons (de_var (i := 0)) (da_cons (de_op o_add (de_var (i := 1)) de_str) (da_cons de_int (da_cons (de_op o_add de_int (de_call (E := E0) (ok_l_draw G) (hr.mono (by decide)) G.l_draw.m G.l_draw.F.kp G.l_draw.b passL lnk0 (da_cons (de_var (i := 0)) (da_cons de_int da_nil)))) da_nil))))) da_nil) PySem.F.plainAttrs_list PySem.F.slot_list_append PySem.F.type_list_append))
    (dss_cons (ds_if (dt_cmp (o_eq hu64) (de_call (E := E0) (ok_l_draw G) (hr.mono (by decide)) G.l_draw.m G.l_draw.F.kp G.l_draw.b passL lnk0 (da_cons (de_var (i := 0)) (da_cons de_int da_nil))) de_int) (dss_cons (ds_set (i := 3) (de_bm m_join de_str (da_cons (de_lc (own := [("_law_k", 6)]) sc_l_menus.nd (di_range1 (da_cons de_int da_nil) (by rfl) G.n_range) (blkOk_by (own := [("_law_k", 6)]) (N := N_l_menus) (sc := defScope s_l_menus) (by decide +kernel)) (fun _ _ _ _ _ => (dgw_name (i := 6) sc_l_menus.nd)) (fun _ _ _ _ _ => dts_nil) (fun _ _ _ _ _ => (de_ix hu1 (de_var (i := 1)) (de_call (E := E0) (ok_l_draw G) (hr.mono (by decide)) G.l_draw.m G.l_draw.F.kp G.l_draw.b passL lnk0 (da_cons (de_var (i := 0)) (da_cons de_int da_nil)))))) da_nil) PySem.F.plainAttrs_str PySem.F.slot_str_join PySem.F.type_str_join) sc_l_menus.nd)
    (dss_cons (ds_set (i := 4) (de_op o_add de_int (de_call (E := E0) (ok_l_draw G) (hr.mono (by decide)) G.l_draw.m G.l_draw.F.kp G.l_draw.b passL lnk0 (da_cons (de_var (i := 0)) (da_cons de_int da_nil)))) sc_l_menus.nd)
    (dss_cons (ds_setLc (i := 5) (own := [("_law_k", 6)]) sc_l_menus.nd (di_range1 (da_cons (de_var (i := 4)) da_nil) (by rfl) G.n_range) (blkOk_by (own := [("_law_k", 6)]) (N := N_l_menus) (sc := defScope s_l_menus) (by decide +kernel)) (fun _ _ _ _ _ => (dgw_name (i := 6) sc_l_menus.nd)) (fun _ _ _ _ _ => dts_nil) (fun _ _ _ _ _ => (de_slice (de_var (i := 3)) do_none (do_some (de_op o_add (de_var (i := 6)) de_int)))) (sw_true rfl rfl rfl (by decide +kernel)))
    (dss_one (ds_set (i := 2) (de_op o_add (de_slice (de_var (i := 2)) do_none (do_some de_int)) (de_lst (da_cons (de_var (i := 5)) (da_cons (de_lc (own := [("_law_k", 6)]) sc_l_menus.nd (di_range1 (da_cons (de_var (i := 4)) da_nil) (by rfl) G.n_range) (blkOk_by (own := [("_law_k", 6)]) (N := N_l_menus) (sc := defScope s_l_menus) (by decide +kernel)) (fun _ _ _ _ _ => (dgw_name (i := 6) sc_l_menus.nd)) (fun _ _ _ _ _ => dts_nil) (fun _ _ _ _ _ => (de_slice (de_var (i := 3)) (do_some (de_op o_add (de_var (i := 6)) de_int)) do_none))) da_nil)))) sc_l_menus.nd))))) dss_nil)
    (dss_one (ds_ret (de_var (i := 2))))))))))
theorem ok_l_menus (G : Glb K mg) : FnOk P w K mg base (L2.CX P w) 3 G.l_menus.a G.l_menus.fd ["_law_deck_here"] (spV K (sp_l_menus K)) :=
  FunD.okD0 (k := 2) G.l_menus.F sc_l_menus (fun ds S Q E h => by
    first | unfold sp_l_menus at h | skip
    repeat (first | (obtain ⟨rfl, _⟩ := h; rfl) | (obtain ⟨_, h⟩ := h))) (fun cdv A outer s H E hr => dv_l_menus G cdv A outer s H E hr) (rd_l_menus K)
theorem dv_l_end (G : Glb K mg) (cdv : Value) (A : Around) (outer : List Env) (s : Shared) (H : Hp) (E : XK) (hr : Room 1 (A.deeper (envOfC "_law_end" (defScope s_l_end) s.heap.objs.size G.l_end.a cdv))) :
    Dss (cxOf (L2.CX P w) P w K mg base N_l_end "_law_end" (defScope s_l_end) G.l_end.a cdv A outer s H E).nox H (defBody s_l_end) (t_l_end K) := by
  have hu1 := hu_of hr
  have hu64 := hr.units
  have hu0 := hr.units0
  have hu65 := room65 hr
  exact (dss_one (ds_ret (de_ix hu1 (de_lst (da_cons de_int (da_cons (de_op o_sub (de_var (i := 1)) de_int) (da_cons (de_call (E := E0) (ok_l_draw G) (hr.mono (by decide)) G.l_draw.m G.l_draw.F.kp G.l_draw.b passL lnk0 (da_cons (de_var (i := 0)) (da_cons (de_var (i := 1)) da_nil))) (da_cons (de_call (E := E0) (ok_l_draw G) (hr.mono (by decide)) G.l_draw.m G.l_draw.F.kp G.l_draw.b passL lnk0 (da_cons (de_var (i := 0)) (da_cons (de_var (i := 1)) da_nil))) da_nil))))) (de_call (E := E0) (ok_l_draw G) (hr.mono (by decide)) G.l_draw.m G.l_draw.F.kp G.l_draw.b passL lnk0 (da_cons (de_var (i := 0)) (da_cons de_int da_nil))))))
theorem ok_l_end (G : Glb K mg) : FnOk P w K mg base (L2.CX P w) 2 G.l_end.a G.l_end.fd ["_law_deck_here", "_law_many"] (spV K (sp_l_end K)) :=
  FunD.okD0 (k := 1) G.l_end.F sc_l_end (fun ds S Q E h => by
    first | unfold sp_l_end at h | skip
    repeat (first | (obtain ⟨rfl, _⟩ := h; rfl) | (obtain ⟨_, h⟩ := h))) (fun cdv A outer s H E hr => dv_l_end G cdv A outer s H E hr) (rd_l_end K)
theorem dv_l_deed (G : Glb K mg) (cdv : Value) (A : Around) (outer : List Env) (s : Shared) (H : Hp) (E : XK) (hr : Room 2 (A.deeper (envOfC "_law_deed" (defScope s_l_deed) s.heap.objs.size G.l_deed.a cdv))) :
    Dss (cxOf (L2.CX P w) P w K mg base N_l_deed "_law_deed" (defScope s_l_deed) G.l_deed.a cdv A outer s H E).nox H (defBody s_l_deed) (t_l_deed K) := by
  have hu1 := hu_of hr
  have hu64 := hr.units
  have hu0 := hr.units0
  have hu65 := room65 hr
  exact (dss_cons (ds_set (i := 3) (de_ix hu1 (de_lst (da_cons (de_op o_add de_int (de_call (E := E0) (ok_l_draw G) (hr.mono (by decide)) G.l_draw.m G.l_draw.F.kp G.l_draw.b passL lnk0 (da_cons (de_var (i := 0)) (da_cons de_int da_nil)))) (da_cons (de_op o_add de_int (de_call (E := E0) (ok_l_end G) (hr.mono (by decide)) G.l_end.m G.l_end.F.kp G.l_end.b passL lnk0 (da_cons (de_var (i := 0)) (da_cons (de_op o_pow de_int de_int) da_nil)))) da_nil))) (de_call (E := E0) (ok_l_draw G) (hr.mono (by decide)) G.l_draw.m G.l_draw.F.kp G.l_draw.b passL lnk0 (da_cons (de_var (i := 0)) (da_cons de_int da_nil)))) sc_l_deed.nd)
    (dss_cons (ds_set (i := 4) (de_call (E := E0) (ok_l_draw G) (hr.mono (by decide)) G.l_draw.m G.l_draw.F.kp G.l_draw.b passL lnk0 (da_cons (de_var (i := 0)) (da_cons (de_callB b_len (da_cons (de_var (i := 1)) da_nil) (by rfl) G.n_len bb_len) da_nil))) sc_l_deed.nd)
    (dss_cons (ds_set (i := 5) (de_ix hu1 (de_var (i := 1)) (de_var (i := 4))) sc_l_deed.nd)
    (dss_cons (ds_set (i := 6) (de_ix hu1 (de_var (i := 1)) (de_op o_mod (de_op o_add (de_op o_add (de_var (i := 4)) de_int) (de_call (E := E0) (ok_l_draw G) (hr.mono (by decide)) G.l_draw.m G.l_draw.F.kp G.l_draw.b passL lnk0 (da_cons (de_var (i := 0)) (da_cons (de_op o_sub (de_callB b_len (da_cons (de_var (i := 1)) da_nil) (by rfl) G.n_len bb_len) de_int) da_nil)))) (de_callB b_len (da_cons (de_var (i := 1)) da_nil) (by rfl) G.n_len bb_len))) sc_l_deed.nd)
    (dss_cons (ds_set (i := 7) (de_call (E := E0) (ok_l_draw G) (hr.mono (by decide)) G.l_draw.m G.l_draw.F.kp G.l_draw.b passL lnk0 (da_cons (de_var (i := 0)) (da_cons (de_callB b_len (da_cons (de_var (i := 2)) da_nil) (by rfl) G.n_len bb_len) da_nil))) sc_l_deed.nd)
    (dss_cons (ds_set (i := 8) (de_ix hu1 (de_var (i := 2)) (de_var (i := 7))) sc_l_deed.nd)
    (dss_cons (ds_set (i := 9) (de_ix hu1 (de_var (i := 2)) (de_op o_mod (de_op o_add (de_op o_add (de_var (i := 7)) de_int) (de_call (E := E0) (ok_l_draw G) (hr.mono (by decide)) G.l_draw.m G.l_draw.F.kp G.l_draw.b passL lnk0 (da_cons (de_var (i := 0)) (da_cons (de_op o_sub (de_callB b_len (da_cons (de_var (i := 2)) da_nil) (by rfl) G.n_len bb_len) de_int) da_nil)))) (de_callB b_len (da_cons (de_var (i := 2)) da_nil) (by rfl) G.n_len bb_len))) sc_l_deed.nd)
    (dss_cons (ds_set (i := 10) (de_lst (da_cons (de_tup (da_cons de_str (da_cons (de_var (i := 5)) (da_cons (de_var (i := 3)) da_nil)))) (da_cons (de_tup (da_cons de_str (da_cons (de_var (i := 5)) (da_cons (de_var (i := 3)) da_nil)))) (da_cons (de_tup (da_cons de_str (da_cons (de_var (i := 5)) (da_cons (de_var (i := 6)) (da_cons (de_var (i := 3)) da_nil))))) da_nil)))) sc_l_deed.nd)
    (dss_cons (ds_set (i := 10) (de_op o_add (de_var (i := 10)) (de_lst (da_cons (de_tup (da_cons de_str (da_cons (de_var (i := 8)) (da_cons (de_var (i := 5)) (da_cons (de_var (i := 3)) da_nil))))) (da_cons (de_tup (da_cons de_str (da_cons (de_var (i := 8)) (da_cons (de_var (i := 5)) (da_cons (de_var (i := 3)) da_nil))))) (da_cons (de_tup (da_cons de_str (da_cons (de_var (i := 8)) (da_cons (de_var (i := 9)) (da_cons (de_var (i := 5)) (da_cons (de_var (i := 3)) da_nil)))))) da_nil))))) sc_l_deed.nd)
    (dss_one (ds_ret (de_ix hu1 (de_var (i := 10)) (de_call (E := E0) (ok_l_draw G) (hr.mono (by decide)) G.l_draw.m G.l_draw.F.kp G.l_draw.b passL lnk0 (da_cons (de_var (i := 0)) (da_cons de_int da_nil)))))))))))))))
theorem ok_l_deed (G : Glb K mg) : FnOk P w K mg base (L2.CX P w) 3 G.l_deed.a G.l_deed.fd ["_law_deck_here", "_law_names", "_law_houses"] (spV K (sp_l_deed K)) :=
  FunD.okD0 (k := 2) G.l_deed.F sc_l_deed (fun ds S Q E h => by
    first | unfold sp_l_deed at h | skip
    repeat (first | (obtain ⟨rfl, _⟩ := h; rfl) | (obtain ⟨_, h⟩ := h))) (fun cdv A outer s H E hr => dv_l_deed G cdv A outer s H E hr) (rd_l_deed K)
theorem dv_l_spot (G : Glb K mg) (cdv : Value) (A : Around) (outer : List Env) (s : Shared) (H : Hp) (E : XK) (hr : Room 1 (A.deeper (envOfC "_law_spot" (defScope s_l_spot) s.heap.objs.size G.l_spot.a cdv))) :
    Dss (cxOf (L2.CX P w) P w K mg base N_l_spot "_law_spot" (defScope s_l_spot) G.l_spot.a cdv A outer s H E).nox H (defBody s_l_spot) (t_l_spot K) := by
  have hu1 := hu_of hr
  have hu64 := hr.units
  have hu0 := hr.units0
  have hu65 := room65 hr
  exact (dss_one (ds_ret (de_tup (da_cons (de_ix hu1 (de_ix hu1 (de_var (i := 1)) de_int) (de_call (E := E0) (ok_l_draw G) (hr.mono (by decide)) G.l_draw.m G.l_draw.F.kp G.l_draw.b passL lnk0 (da_cons (de_var (i := 0)) (da_cons (de_callB b_len (da_cons (de_ix hu1 (de_var (i := 1)) de_int) da_nil) (by rfl) G.n_len bb_len) da_nil)))) (da_cons (de_ix hu1 (de_ix hu1 (de_var (i := 1)) de_int) (de_call (E := E0) (ok_l_draw G) (hr.mono (by decide)) G.l_draw.m G.l_draw.F.kp G.l_draw.b passL lnk0 (da_cons (de_var (i := 0)) (da_cons (de_callB b_len (da_cons (de_ix hu1 (de_var (i := 1)) de_int) da_nil) (by rfl) G.n_len bb_len) da_nil)))) da_nil)))))
theorem ok_l_spot (G : Glb K mg) : FnOk P w K mg base (L2.CX P w) 2 G.l_spot.a G.l_spot.fd ["_law_deck_here", "_law_menus_here"] (spV K (sp_l_spot K)) :=
  FunD.okD0 (k := 1) G.l_spot.F sc_l_spot (fun ds S Q E h => by
    first | unfold sp_l_spot at h | skip
    repeat (first | (obtain ⟨rfl, _⟩ := h; rfl) | (obtain ⟨_, h⟩ := h))) (fun cdv A outer s H E hr => dv_l_spot G cdv A outer s H E hr) (rd_l_spot K)
theorem dv_l_changes (G : Glb K mg) (cdv : Value) (A : Around) (outer : List Env) (s : Shared) (H : Hp) (E : XK) (hr : Room 0 (A.deeper (envOfC "_law_changes" (defScope s_l_changes) s.heap.objs.size G.l_changes.a cdv))) :
    Dss (cxOf (L2.CX P w) P w K mg base N_l_changes "_law_changes" (defScope s_l_changes) G.l_changes.a cdv A outer s H E).nox H (defBody s_l_changes) (t_l_changes K) := by
  have hu1 := hu_of hr
  have hu64 := hr.units
  have hu0 := hr.units0
  have hu65 := room65 hr
  exact (dss_cons (ds_if (dt_cmp (o_ne hu64) (de_ix hu1 (de_var (i := 1)) de_int) de_str) (dss_one (ds_ret (de_lst da_nil))) dss_nil)
    (dss_cons (ds_if (dt_cmp (o_eq hu64) (de_ix hu1 (de_var (i := 0)) de_int) de_str) (dss_one (ds_ret (de_lst (da_cons (de_tup (da_cons (de_ix hu1 (de_var (i := 0)) de_int) (da_cons (de_neg (de_ix hu1 (de_var (i := 0)) de_int)) da_nil))) (da_cons (de_tup (da_cons (de_ix hu1 (de_var (i := 0)) de_int) (da_cons (de_ix hu1 (de_var (i := 0)) de_int) da_nil))) da_nil))))) dss_nil)
    (dss_one (ds_ret (de_lst (da_cons (de_tup (da_cons (de_ix hu1 (de_var (i := 0)) (de_neg de_int)) (da_cons (de_ix hu1 (de_lst (da_cons (de_ix hu1 (de_var (i := 0)) (de_neg de_int)) (da_cons (de_neg (de_ix hu1 (de_var (i := 0)) (de_neg de_int))) da_nil))) (de_callTy b_int (da_cons (de_cmp (o_inD hu1) (de_ix hu1 (de_var (i := 0)) de_int) (de_tup (da_cons de_str (da_cons de_str da_nil)))) da_nil) (by rfl) G.n_int bb_int)) da_nil))) da_nil))))))
theorem ok_l_changes (G : Glb K mg) : FnOk P w K mg base (L2.CX P w) 1 G.l_changes.a G.l_changes.fd ["_law_deed_here", "_law_answer_here"] (spV K (sp_l_changes K)) :=
  FunD.okD0 (k := 0) G.l_changes.F sc_l_changes (fun ds S Q E h => by
    first | unfold sp_l_changes at h | skip
    repeat (first | (obtain ⟨rfl, _⟩ := h; rfl) | (obtain ⟨_, h⟩ := h))) (fun cdv A outer s H E hr => dv_l_changes G cdv A outer s H E hr) (rd_l_changes K)
theorem dv_l_changed (G : Glb K mg) (cdv : Value) (A : Around) (outer : List Env) (s : Shared) (H : Hp) (E : XK) (hr : Room 1 (A.deeper (envOfC "_law_changed" (defScope s_l_changed) s.heap.objs.size G.l_changed.a cdv))) :
    Dss (cxOf (L2.CX P w) P w K mg base N_l_changed "_law_changed" (defScope s_l_changed) G.l_changed.a cdv A outer s H E).nox H (defBody s_l_changed) (t_l_changed K) := by
  have hu1 := hu_of hr
  have hu64 := hr.units
  have hu0 := hr.units0
  have hu65 := room65 hr
  exact (dss_one (ds_for PassesOwn.never (di_list (de_call (E := E0) (ok_l_changes G) (hr.mono (by decide)) G.l_changes.m G.l_changes.F.kp G.l_changes.b passL lnk0 (da_cons (de_var (i := 1)) (da_cons (de_var (i := 2)) da_nil)))) (dg_tup (dgs_cons (dg_name (i := 3) sc_l_changed.nd) (dgs_cons (dg_name (i := 4) sc_l_changed.nd) dgs_nil))) (dss_one (ds_asg (de_op o_add (de_get2 hu1 (de_var (i := 0)) (de_var (i := 3)) de_int) (de_var (i := 4))) (dg_sub hu1 (de_var (i := 0)) (de_var (i := 3)))))))
theorem ok_l_changed (G : Glb K mg) : FnOk P w K mg base (L2.CX P w) 2 G.l_changed.a G.l_changed.fd ["_law_book", "_law_deed_here", "_law_answer_here"] (spV K (sp_l_changed K)) :=
  FunD.okD0 (k := 1) G.l_changed.F sc_l_changed (fun ds S Q E h => by
    first | unfold sp_l_changed at h | skip
    repeat (first | (obtain ⟨rfl, _⟩ := h; rfl) | (obtain ⟨_, h⟩ := h))) (fun cdv A outer s H E hr => dv_l_changed G cdv A outer s H E hr) (rd_l_changed K)
theorem dv_l_sized (G : Glb K mg) (cdv : Value) (A : Around) (outer : List Env) (s : Shared) (H : Hp) (E : XK) (hr : Room 1 (A.deeper (envOfC "_law_sized" (defScope s_l_sized) s.heap.objs.size G.l_sized.a cdv))) :
    Dss (cxOf (L2.CX P w) P w K mg base N_l_sized "_law_sized" (defScope s_l_sized) G.l_sized.a cdv A outer s H E).nox H (defBody s_l_sized) (t_l_sized K) := by
  have hu1 := hu_of hr
  have hu64 := hr.units
  have hu0 := hr.units0
  have hu65 := room65 hr
  exact (dss_cons (ds_set (i := 3) (de_ix hu1 (de_var (i := 2)) (de_neg de_int)) sc_l_sized.nd)
    (dss_cons (ds_if (dt_cmp (o_eq hu64) (de_ix hu1 (de_var (i := 2)) de_int) de_str) (dss_one (ds_set (i := 3) (de_ix hu1 (de_var (i := 2)) (de_op o_add de_int (de_call (E := E0) (ok_l_draw G) (hr.mono (by decide)) G.l_draw.m G.l_draw.F.kp G.l_draw.b passL lnk0 (da_cons (de_var (i := 0)) (da_cons de_int da_nil))))) sc_l_sized.nd)) dss_nil)
    (dss_cons (ds_set (i := 4) (de_get2 hu1 (de_var (i := 1)) (de_var (i := 3)) de_int) sc_l_sized.nd)
    (dss_cons (ds_set (i := 5) (de_lst (da_cons (de_ix hu1 (de_var (i := 2)) (de_neg de_int)) (da_cons (de_op o_add de_int (de_call (E := E0) (ok_l_draw G) (hr.mono (by decide)) G.l_draw.m G.l_draw.F.kp G.l_draw.b passL lnk0 (da_cons (de_var (i := 0)) (da_cons de_int da_nil)))) (da_cons (de_var (i := 4)) (da_cons (de_op o_add (de_var (i := 4)) de_int) (da_cons (de_op o_sub (de_op o_pow de_int de_int) (de_var (i := 4))) (da_cons (de_op o_add (de_op o_sub (de_op o_pow de_int de_int) (de_var (i := 4))) de_int) da_nil))))))) sc_l_sized.nd)
    (dss_cons (ds_set (i := 6) (de_ix hu1 (de_var (i := 5)) (de_call (E := E0) (ok_l_draw G) (hr.mono (by decide)) G.l_draw.m G.l_draw.F.kp G.l_draw.b passL lnk0 (da_cons (de_var (i := 0)) (da_cons de_int da_nil)))) sc_l_sized.nd)
    (dss_one (ds_ret (de_op o_add (de_slice (de_var (i := 2)) do_none (do_some (de_neg de_int))) (de_tup (da_cons (de_callB b_max (da_cons de_int (da_cons (de_callB b_min (da_cons (de_op o_pow de_int de_int) (da_cons (de_var (i := 6)) da_nil)) (by rfl) G.n_min bb_min) da_nil)) (by rfl) G.n_max bb_max) da_nil))))))))))
theorem ok_l_sized (G : Glb K mg) : FnOk P w K mg base (L2.CX P w) 2 G.l_sized.a G.l_sized.fd ["_law_deck_here", "_law_book", "_law_deed_here"] (spV K (sp_l_sized K)) :=
  FunD.okD0 (k := 1) G.l_sized.F sc_l_sized (fun ds S Q E h => by
    first | unfold sp_l_sized at h | skip
    repeat (first | (obtain ⟨rfl, _⟩ := h; rfl) | (obtain ⟨_, h⟩ := h))) (fun cdv A outer s H E hr => dv_l_sized G cdv A outer s H E hr) (rd_l_sized K)
theorem dv_l_early (G : Glb K mg) (cdv : Value) (A : Around) (outer : List Env) (s : Shared) (H : Hp) (E : XK) (hr : Room 0 (A.deeper (envOfC "_law_early" (defScope s_l_early) s.heap.objs.size G.l_early.a cdv))) :
    Dss (cxOf (L2.CX P w) P w K mg base N_l_early "_law_early" (defScope s_l_early) G.l_early.a cdv A outer s H E).nox H (defBody s_l_early) (t_l_early K) := by
  have hu1 := hu_of hr
  have hu64 := hr.units
  have hu0 := hr.units0
  have hu65 := room65 hr
  exact (dss_cons (ds_set (i := 2) (de_ix hu1 (de_var (i := 1)) (de_neg de_int)) sc_l_early.nd)
    (dss_cons (ds_set (i := 3) (de_ix hu1 (de_var (i := 1)) (de_neg de_int)) sc_l_early.nd)
    (dss_cons (ds_if (dt_cmp (o_eq hu64) (de_ix hu1 (de_var (i := 1)) de_int) de_str) (dss_one (ds_set (i := 3) (de_ix hu1 (de_var (i := 1)) de_int) sc_l_early.nd)) dss_nil)
    (dss_cons (ds_set (i := 4) (de_get2 hu1 (de_var (i := 0)) (de_var (i := 3)) de_int) sc_l_early.nd)
    (dss_cons (ds_if (Dw.dt (dw_and (dt_cmp (o_inD hu1) (de_ix hu1 (de_var (i := 1)) de_int) (de_tup (da_cons de_str (da_cons de_str (da_cons de_str da_nil))))) (dw_and1 (dt_cmp (o_lt hu0) (de_var (i := 4)) (de_var (i := 2)))))) (dss_one (ds_ret (de_tup (da_cons de_str (da_cons (de_var (i := 4)) da_nil))))) dss_nil)
    (dss_cons (ds_if (Dw.dt (dw_and (dt_cmp (o_inD hu1) (de_ix hu1 (de_var (i := 1)) de_int) (de_tup (da_cons de_str (da_cons de_str da_nil)))) (dw_and1 (dt_cmp o_gt (de_op o_add (de_var (i := 4)) (de_var (i := 2))) (de_op o_pow de_int de_int))))) (dss_one (ds_ret (de_tup (da_cons de_str (da_cons (de_var (i := 4)) da_nil))))) dss_nil)
    (dss_cons (ds_if (Dw.dt (dw_and (dt_cmp (o_eq hu64) (de_ix hu1 (de_var (i := 1)) de_int) de_str) (dw_and1 (dt_cmp o_gt (de_op o_add (de_get2 hu1 (de_var (i := 0)) (de_ix hu1 (de_var (i := 1)) de_int) de_int) (de_var (i := 2))) (de_op o_pow de_int de_int))))) (dss_one (ds_ret (de_tup (da_cons de_str (da_cons (de_get2 hu1 (de_var (i := 0)) (de_ix hu1 (de_var (i := 1)) de_int) de_int) da_nil))))) dss_nil)
    (dss_cons (ds_if (dt_cmp (o_eq hu64) (de_ix hu1 (de_var (i := 1)) de_int) de_str) (dss_one (ds_ret (de_tup (da_cons de_str (da_cons (de_op o_sub (de_var (i := 4)) (de_var (i := 2))) (da_cons (de_op o_add (de_get2 hu1 (de_var (i := 0)) (de_ix hu1 (de_var (i := 1)) de_int) de_int) (de_var (i := 2))) da_nil)))))) dss_nil)
    (dss_cons (ds_if (dt_cmp (o_inD hu1) (de_ix hu1 (de_var (i := 1)) de_int) (de_tup (da_cons de_str (da_cons de_str da_nil)))) (dss_one (ds_ret (de_tup (da_cons de_str (da_cons (de_op o_add (de_var (i := 4)) (de_ix hu1 (de_lst (da_cons (de_var (i := 2)) (da_cons (de_neg (de_var (i := 2))) da_nil))) (de_callTy b_int (da_cons (de_cmp (o_eq hu64) (de_ix hu1 (de_var (i := 1)) de_int) de_str) da_nil) (by rfl) G.n_int bb_int))) da_nil))))) dss_nil)
    (dss_one (ds_ret de_non)))))))))))
theorem ok_l_early (G : Glb K mg) : FnOk P w K mg base (L2.CX P w) 1 G.l_early.a G.l_early.fd ["_law_book", "_law_deed_here"] (spV K (sp_l_early K)) :=
  FunD.okD0 (k := 0) G.l_early.F sc_l_early (fun ds S Q E h => by
    first | unfold sp_l_early at h | skip
    repeat (first | (obtain ⟨rfl, _⟩ := h; rfl) | (obtain ⟨_, h⟩ := h))) (fun cdv A outer s H E hr => dv_l_early G cdv A outer s H E hr) (rd_l_early K)
theorem dv_l_lates (G : Glb K mg) (cdv : Value) (A : Around) (outer : List Env) (s : Shared) (H : Hp) (E : XK) (hr : Room 0 (A.deeper (envOfC "_law_lates" (defScope s_l_lates) s.heap.objs.size G.l_lates.a cdv))) :
    Dss (cxOf (L2.CX P w) P w K mg base N_l_lates "_law_lates" (defScope s_l_lates) G.l_lates.a cdv A outer s H E).nox H (defBody s_l_lates) (t_l_lates K) := by
  have hu1 := hu_of hr
  have hu64 := hr.units
  have hu0 := hr.units0
  have hu65 := room65 hr
  exact (dss_cons (ds_if (dt_cmp (o_eq hu64) (de_ix hu1 (de_var (i := 1)) de_int) de_str) (dss_one (ds_ret (de_lst (da_cons (de_tup (da_cons de_str (da_cons (de_ix hu1 (de_var (i := 1)) de_int) da_nil))) (da_cons (de_tup (da_cons de_str (da_cons (de_ix hu1 (de_var (i := 1)) de_int) da_nil))) (da_cons (de_tup (da_cons de_str da_nil)) da_nil)))))) dss_nil)
    (dss_cons (ds_set (i := 2) (de_op o_add (de_get2 hu1 (de_var (i := 0)) (de_ix hu1 (de_var (i := 1)) de_int) de_int) (de_ix hu1 (de_lst (da_cons (de_ix hu1 (de_var (i := 1)) de_int) (da_cons (de_neg (de_ix hu1 (de_var (i := 1)) de_int)) da_nil))) (de_callTy b_int (da_cons (de_cmp (o_eq hu64) (de_ix hu1 (de_var (i := 1)) de_int) de_str) da_nil) (by rfl) G.n_int bb_int))) sc_l_lates.nd)
    (dss_one (ds_ret (de_lst (da_cons (de_tup (da_cons de_str (da_cons (de_ix hu1 (de_var (i := 1)) de_int) da_nil))) (da_cons (de_tup (da_cons de_str (da_cons (de_var (i := 2)) da_nil))) da_nil)))))))
theorem ok_l_lates (G : Glb K mg) : FnOk P w K mg base (L2.CX P w) 1 G.l_lates.a G.l_lates.fd ["_law_book", "_law_deed_here"] (spV K (sp_l_lates K)) :=
  FunD.okD0 (k := 0) G.l_lates.F sc_l_lates (fun ds S Q E h => by
    first | unfold sp_l_lates at h | skip
    repeat (first | (obtain ⟨rfl, _⟩ := h; rfl) | (obtain ⟨_, h⟩ := h))) (fun cdv A outer s H E hr => dv_l_lates G cdv A outer s H E hr) (rd_l_lates K)
theorem dv_l_right (G : Glb K mg) (cdv : Value) (A : Around) (outer : List Env) (s : Shared) (H : Hp) (E : XK) (hr : Room 1 (A.deeper (envOfC "_law_right" (defScope s_l_right) s.heap.objs.size G.l_right.a cdv))) :
    Dss (cxOf (L2.CX P w) P w K mg base N_l_right "_law_right" (defScope s_l_right) G.l_right.a cdv A outer s H E).nox H (defBody s_l_right) (t_l_right K) := by
  have hu1 := hu_of hr
  have hu64 := hr.units
  have hu0 := hr.units0
  have hu65 := room65 hr
  exact (dss_cons (ds_set (i := 3) (de_call (E := E0) (ok_l_early G) (hr.mono (by decide)) G.l_early.m G.l_early.F.kp G.l_early.b passL lnk0 (da_cons (de_var (i := 1)) (da_cons (de_ix hu1 (de_var (i := 2)) de_int) da_nil))) sc_l_right.nd)
    (dss_cons (ds_set (i := 4) (de_cmp (o_inD hu1) (de_ix hu1 (de_ix hu1 (de_var (i := 2)) de_int) de_int) (de_tup (da_cons de_str (da_cons de_str (da_cons de_str da_nil))))) sc_l_right.nd)
    (dss_cons (ds_if (Dw.dt (dw_and (dt_val (de_ix hu1 (de_var (i := 2)) de_int)) (dw_and1 (dt_cmp o_is (de_var (i := 3)) de_non)))) (dss_cons (ds_set (i := 5) (de_call (E := E0) (ok_l_lates G) (hr.mono (by decide)) G.l_lates.m G.l_lates.F.kp G.l_lates.b passL lnk0 (da_cons (de_var (i := 1)) (da_cons (de_ix hu1 (de_var (i := 2)) de_int) da_nil))) sc_l_right.nd)
    (dss_one (ds_ret (de_ix hu1 (de_var (i := 5)) (de_call (E := E0) (ok_l_draw G) (hr.mono (by decide)) G.l_draw.m G.l_draw.F.kp G.l_draw.b passL lnk0 (da_cons (de_var (i := 0)) (da_cons (de_callB b_len (da_cons (de_var (i := 5)) da_nil) (by rfl) G.n_len bb_len) da_nil))))))) dss_nil)
    (dss_cons (ds_if (Dw.dt (dw_or (dt_val (de_ix hu1 (de_var (i := 2)) de_int)) (dw_or1 (Dw.dt (dw_and (dt_cmp o_is (de_var (i := 3)) de_non) (dw_and1 (dt_val (de_var (i := 4))))))))) (dss_one (ds_ret de_non)) dss_nil)
    (dss_one (ds_ret (de_var (i := 3))))))))
theorem ok_l_right (G : Glb K mg) : FnOk P w K mg base (L2.CX P w) 2 G.l_right.a G.l_right.fd ["_law_deck_here", "_law_book", "_law_one"] (spV K (sp_l_right K)) :=
  FunD.okD0 (k := 1) G.l_right.F sc_l_right (fun ds S Q E h => by
    first | unfold sp_l_right at h | skip
    repeat (first | (obtain ⟨rfl, _⟩ := h; rfl) | (obtain ⟨_, h⟩ := h))) (fun cdv A outer s H E hr => dv_l_right G cdv A outer s H E hr) (rd_l_right K)
theorem dv_l_lived (G : Glb K mg) (cdv : Value) (A : Around) (outer : List Env) (s : Shared) (H : Hp) (E : XK) (hr : Room 3 (A.deeper (envOfC "_law_lived" (defScope s_l_lived) s.heap.objs.size G.l_lived.a cdv))) :
    Dss (cxOf (L2.CX P w) P w K mg base N_l_lived "_law_lived" (defScope s_l_lived) G.l_lived.a cdv A outer s H E).nox H (defBody s_l_lived) (t_l_lived K) := by
  have hu1 := hu_of hr
  have hu64 := hr.units
  have hu0 := hr.units0
  have hu65 := room65 hr
  exact (dss_cons (ds_set (i := 4) (de_callTy b_dictP (da_cons (de_lc (own := [("_law_row", 14)]) sc_l_lived.nd (di_list (de_var (i := 1))) (blkOk_by (own := [("_law_row", 14)]) (N := N_l_lived) (sc := defScope s_l_lived) (by decide +kernel)) (fun _ _ _ _ _ => (dgw_name (i := 14) sc_l_lived.nd)) (fun _ _ _ _ _ => (dts_one (dt_cmp (o_eq hu64) (de_ix hu1 (de_var (i := 14)) de_int) de_str))) (fun _ _ _ _ _ => (de_tup (da_cons (de_ix hu1 (de_var (i := 14)) de_int) (da_cons (de_ix hu1 (de_var (i := 14)) de_int) da_nil))))) da_nil) (by rfl) G.n_dict bb_dict) sc_l_lived.nd)
    (dss_cons (ds_set (i := 5) (de_lst da_nil) sc_l_lived.nd)
    (dss_cons (ds_set (i := 6) (de_slice (de_lst (da_cons de_str (da_cons de_str da_nil))) do_none (do_some (de_op o_add de_int (de_call (E := E0) (ok_l_draw G) (hr.mono (by decide)) G.l_draw.m G.l_draw.F.kp G.l_draw.b passL lnk0 (da_cons (de_var (i := 0)) (da_cons de_int da_nil)))))) sc_l_lived.nd)
    (dss_cons (ds_set (i := 7) (de_callB b_max (da_cons (de_op o_add (de_lc (own := [("_law_row", 14)]) sc_l_lived.nd (di_list (de_var (i := 1))) (blkOk_by (own := [("_law_row", 14)]) (N := N_l_lived) (sc := defScope s_l_lived) (by decide +kernel)) (fun _ _ _ _ _ => (dgw_name (i := 14) sc_l_lived.nd)) (fun _ _ _ _ _ => (dts_one (dt_cmp (o_inD hu1) (de_ix hu1 (de_var (i := 14)) de_int) (de_var (i := 6))))) (fun _ _ _ _ _ => (de_ix hu1 (de_var (i := 14)) de_int))) (de_lst (da_cons de_int da_nil))) da_nil) (by rfl) G.n_max bb_max) sc_l_lived.nd)
    (dss_cons (ds_set (i := 8) (de_callB b_max (da_cons (de_op o_add (de_lc (own := [("_law_row", 14)]) sc_l_lived.nd (di_list (de_var (i := 1))) (blkOk_by (own := [("_law_row", 14)]) (N := N_l_lived) (sc := defScope s_l_lived) (by decide +kernel)) (fun _ _ _ _ _ => (dgw_name (i := 14) sc_l_lived.nd)) (fun _ _ _ _ _ => (dts_one (dt_cmp (o_eq hu64) (de_ix hu1 (de_var (i := 14)) de_int) de_str))) (fun _ _ _ _ _ => (de_ix hu1 (de_var (i := 14)) de_int))) (de_lst (da_cons de_int da_nil))) da_nil) (by rfl) G.n_max bb_max) sc_l_lived.nd)
    (dss_cons (ds_for PassesOwn.never (di_range1 (da_cons (de_var (i := 3)) da_nil) (by rfl) G.n_range) (dg_name (i := 9) sc_l_lived.nd) (dss_cons (ds_set (i := 10) (de_call (E := E0) (ok_l_draw G) (hr.mono (by decide)) G.l_draw.m G.l_draw.F.kp G.l_draw.b passL lnk0 (da_cons (de_var (i := 0)) (da_cons de_int da_nil))) sc_l_lived.nd)
    (dss_cons (ds_set (i := 8) (de_op o_add (de_var (i := 8)) (de_ix hu1 (de_lst (da_cons de_int (da_cons de_int (da_cons de_int (da_cons (de_call (E := E0) (ok_l_draw G) (hr.mono (by decide)) G.l_draw.m G.l_draw.F.kp G.l_draw.b passL lnk0 (da_cons (de_var (i := 0)) (da_cons de_int da_nil))) da_nil))))) (de_call (E := E0) (ok_l_draw G) (hr.mono (by decide)) G.l_draw.m G.l_draw.F.kp G.l_draw.b passL lnk0 (da_cons (de_var (i := 0)) (da_cons de_int da_nil))))) sc_l_lived.nd)
    (dss_one (ds_if (Dw.dt (dw_or (dt_cmp (o_lt hu0) (de_var (i := 10)) de_int) (dw_or1 (dt_cmp (o_eq hu64) (de_var (i := 5)) (de_lst da_nil))))) (dss_cons (ds_set (i := 7) (de_op o_add (de_op o_add (de_var (i := 7)) de_int) (de_ix hu1 (de_lst (da_cons de_int (da_cons de_int (da_cons (de_call (E := E0) (ok_l_draw G) (hr.mono (by decide)) G.l_draw.m G.l_draw.F.kp G.l_draw.b passL lnk0 (da_cons (de_var (i := 0)) (da_cons de_int da_nil))) da_nil)))) (de_call (E := E0) (ok_l_draw G) (hr.mono (by decide)) G.l_draw.m G.l_draw.F.kp G.l_draw.b passL lnk0 (da_cons (de_var (i := 0)) (da_cons de_int da_nil))))) sc_l_lived.nd)
    (dss_cons (ds_set (i := 11) (de_call (E := E0) (ok_l_sized G) (hr.mono (by decide)) G.l_sized.m G.l_sized.F.kp G.l_sized.b passL lnk0 (da_cons (de_var (i := 0)) (da_cons (de_var (i := 4)) (da_cons (de_call (E := E0) (ok_l_deed G) (hr.mono (by decide)) G.l_deed.m G.l_deed.F.kp G.l_deed.b passL lnk0 (da_cons (de_var (i := 0)) (da_cons (de_ix hu1 (de_var (i := 2)) de_int) (da_cons (de_ix hu1 (de_var (i := 2)) de_int) da_nil)))) da_nil)))) sc_l_lived.nd)
    (dss_cons (ds_expr (de_bm m_append (de_var (i := 1)) (da_cons (de_op o_add (de_op o_add (de_tup (da_cons de_str (da_cons (de_var (i := 7)) (da_cons (de_var (i := 8)) da_nil)))) (de_call (E := E0) (ok_l_spot G) (hr.mono (by decide)) G.l_spot.m G.l_spot.F.kp G.l_spot.b passL lnk0 (da_cons (de_var (i := 0)) (da_cons (de_var (i := 2)) da_nil)))) (de_tup (da_cons (de_var (i := 11)) da_nil))) da_nil) PySem.F.plainAttrs_list PySem.F.slot_list_append PySem.F.type_list_append))
    (dss_one (ds_expr (de_bm m_append (de_var (i := 5)) (da_cons (de_lst (da_cons (de_var (i := 7)) (da_cons (de_var (i := 11)) (da_cons de_bl da_nil)))) da_nil) PySem.F.plainAttrs_list PySem.F.slot_list_append PySem.F.type_list_append)))))) (dss_cons (ds_set (i := 12) (de_ix hu1 (de_var (i := 5)) (de_call (E := E0) (ok_l_draw G) (hr.mono (by decide)) G.l_draw.m G.l_draw.F.kp G.l_draw.b passL lnk0 (da_cons (de_var (i := 0)) (da_cons (de_callB b_len (da_cons (de_var (i := 5)) da_nil) (by rfl) G.n_len bb_len) da_nil)))) sc_l_lived.nd)
    (dss_cons (ds_set (i := 13) (de_call (E := E0) (ok_l_right G) (hr.mono (by decide)) G.l_right.m G.l_right.F.kp G.l_right.b passL lnk0 (da_cons (de_var (i := 0)) (da_cons (de_var (i := 4)) (da_cons (de_var (i := 12)) da_nil)))) sc_l_lived.nd)
    (dss_one (ds_if (Dw.dt (dw_and (dt_cmp (o_eq hu64) (de_var (i := 10)) de_int) (dw_and (dt_not (dt_val (de_ix hu1 (de_var (i := 12)) de_int))) (dw_and1 (dt_cmp (o_inD hu1) (de_ix hu1 (de_ix hu1 (de_var (i := 12)) de_int) de_int) (de_tup (da_cons de_str (da_cons de_str (da_cons de_str da_nil))))))))) (dss_cons (ds_expr (de_bm m_append (de_var (i := 1)) (da_cons (de_tup (da_cons de_str (da_cons (de_ix hu1 (de_var (i := 12)) de_int) da_nil))) da_nil) PySem.F.plainAttrs_list PySem.F.slot_list_append PySem.F.type_list_append))
    (dss_one (ds_asg de_bl (dg_sub hu1 (de_var (i := 12)) de_int)))) (dss_one (ds_if (dt_cmp o_isnot (de_var (i := 13)) de_non) (dss_cons (ds_expr (de_bm m_append (de_var (i := 1)) (da_cons (de_tup (da_cons de_str (da_cons (de_ix hu1 (de_var (i := 12)) de_int) (da_cons (de_var (i := 8)) (da_cons (de_var (i := 13)) da_nil))))) da_nil) PySem.F.plainAttrs_list PySem.F.slot_list_append PySem.F.type_list_append))
    (dss_cons (ds_expr (de_call (E := E0) (ok_l_changed G) (hr.mono (by decide)) G.l_changed.m G.l_changed.F.kp G.l_changed.b passL lnk0 (da_cons (de_var (i := 4)) (da_cons (de_ix hu1 (de_var (i := 12)) de_int) (da_cons (de_var (i := 13)) da_nil)))))
    (dss_one (ds_expr (de_bm (m_remove hu65) (de_var (i := 5)) (da_cons (de_var (i := 12)) da_nil) PySem.F.plainAttrs_list PySem.F.slot_list_remove PySem.F.type_list_remove))))) dss_nil)))))))))))
    (dss_one (ds_ret (de_var (i := 1))))))))))
theorem ok_l_lived (G : Glb K mg) : FnOk P w K mg base (L2.CX P w) 4 G.l_lived.a G.l_lived.fd ["_law_deck_here", "_law_rows", "_law_menus_here", "_law_many"] (spV K (sp_l_lived K)) :=
  FunD.okD0 (k := 3) G.l_lived.F sc_l_lived (fun ds S Q E h => by
    first | unfold sp_l_lived at h | skip
    repeat (first | (obtain ⟨rfl, _⟩ := h; rfl) | (obtain ⟨_, h⟩ := h))) (fun cdv A outer s H E hr => dv_l_lived G cdv A outer s H E hr) (rd_l_lived K)
theorem dv_l_words (G : Glb K mg) (cdv : Value) (A : Around) (outer : List Env) (s : Shared) (H : Hp) (E : XK) (hr : Room 0 (A.deeper (envOfC "_law_words" (defScope s_l_words) s.heap.objs.size G.l_words.a cdv))) :
    Dss (cxOf (L2.CX P w) P w K mg base N_l_words "_law_words" (defScope s_l_words) G.l_words.a cdv A outer s H E).nox H (defBody s_l_words) (t_l_words K) := by
  have hu1 := hu_of hr
  have hu64 := hr.units
  have hu0 := hr.units0
  have hu65 := room65 hr
  exact (dss_cons (ds_set (i := 2) (de_disp (dps_cons de_str (de_lst (da_cons de_str (da_cons de_str da_nil))) (dps_cons de_str (de_lst (da_cons de_str (da_cons de_str da_nil))) (dps_cons de_str (de_lst (da_cons de_str (da_cons de_str (da_cons de_str da_nil)))) (dps_cons de_str (de_lst (da_cons de_str (da_cons de_str da_nil))) dps_nil))))) sc_l_words.nd)
    (dss_cons (ds_asg (de_lst (da_cons de_str (da_cons de_str (da_cons de_str da_nil)))) (dg_sub hu1 (de_var (i := 2)) de_str))
    (dss_cons (ds_asg (de_lst (da_cons de_str (da_cons de_str (da_cons de_str da_nil)))) (dg_sub hu1 (de_var (i := 2)) de_str))
    (dss_cons (ds_set (i := 3) (de_ix hu1 (de_var (i := 2)) (de_ix hu1 (de_var (i := 0)) de_int)) sc_l_words.nd)
    (dss_cons (ds_if (dt_cmp (o_inD hu1) (de_ix hu1 (de_var (i := 0)) de_int) (de_tup (da_cons de_str (da_cons de_str (da_cons de_str da_nil))))) (dss_one (ds_ret (de_var (i := 3)))) dss_nil)
    (dss_one (ds_ret (de_lc (own := [("_law_word", 4)]) sc_l_words.nd (di_list (de_var (i := 3))) (blkOk_by (own := [("_law_word", 4)]) (N := N_l_words) (sc := defScope s_l_words) (by decide +kernel)) (fun _ _ _ _ _ => (dgw_name (i := 4) sc_l_words.nd)) (fun _ _ _ _ _ => (dts_one (dt_cmp (o_ne hu64) (de_cmp (o_inD hu1) (de_var (i := 4)) (de_tup (da_cons de_str (da_cons de_str da_nil)))) (de_var (i := 1))))) (fun _ _ _ _ _ => (de_var (i := 4)))))))))))
theorem ok_l_words (G : Glb K mg) : FnOk P w K mg base (L2.CX P w) 1 G.l_words.a G.l_words.fd ["_law_deed_here", "_law_asked"] (spV K (sp_l_words K)) :=
  FunD.okD0 (k := 0) G.l_words.F sc_l_words (fun ds S Q E h => by
    first | unfold sp_l_words at h | skip
    repeat (first | (obtain ⟨rfl, _⟩ := h; rfl) | (obtain ⟨_, h⟩ := h))) (fun cdv A outer s H E hr => dv_l_words G cdv A outer s H E hr) (rd_l_words K)
theorem dv_l_answer (G : Glb K mg) (cdv : Value) (A : Around) (outer : List Env) (s : Shared) (H : Hp) (E : XK) (hr : Room 2 (A.deeper (envOfC "_law_answer" (defScope s_l_answer) s.heap.objs.size G.l_answer.a cdv))) :
    Dss (cxOf (L2.CX P w) P w K mg base N_l_answer "_law_answer" (defScope s_l_answer) G.l_answer.a cdv A outer s H E).nox H (defBody s_l_answer) (t_l_answer K) := by
  have hu1 := hu_of hr
  have hu64 := hr.units
  have hu0 := hr.units0
  have hu65 := room65 hr
  exact (dss_cons (ds_set (i := 3) (de_ix hu1 (de_var (i := 1)) (de_neg de_int)) sc_l_answer.nd)
    (dss_cons (ds_set (i := 4) (de_call (E := E0) (ok_l_end G) (hr.mono (by decide)) G.l_end.m G.l_end.F.kp G.l_end.b passL lnk0 (da_cons (de_var (i := 0)) (da_cons (de_op o_add (de_op o_sub (de_op o_pow de_int de_int) (de_var (i := 3))) de_int) da_nil))) sc_l_answer.nd)
    (dss_cons (ds_set (i := 5) (de_op o_add (de_var (i := 3)) (de_call (E := E0) (ok_l_end G) (hr.mono (by decide)) G.l_end.m G.l_end.F.kp G.l_end.b passL lnk0 (da_cons (de_var (i := 0)) (da_cons (de_op o_add (de_op o_sub (de_op o_pow de_int de_int) (de_var (i := 3))) de_int) da_nil)))) sc_l_answer.nd)
    (dss_cons (ds_if (dt_cmp (o_eq hu64) (de_var (i := 2)) de_str) (dss_one (ds_ret (de_tup (da_cons de_str (da_cons (de_ix hu1 (de_var (i := 1)) (de_op o_add de_int (de_op o_mul (de_call (E := E0) (ok_l_draw G) (hr.mono (by decide)) G.l_draw.m G.l_draw.F.kp G.l_draw.b passL lnk0 (da_cons (de_var (i := 0)) (da_cons de_int da_nil))) (de_callTy b_int (da_cons (de_cmp (o_eq hu64) (de_ix hu1 (de_var (i := 1)) de_int) de_str) da_nil) (by rfl) G.n_int bb_int)))) da_nil))))) dss_nil)
    (dss_cons (ds_if (dt_cmp (o_eq hu64) (de_var (i := 2)) de_str) (dss_one (ds_ret (de_tup (da_cons de_str da_nil)))) dss_nil)
    (dss_cons (ds_if (dt_cmp (o_eq hu64) (de_var (i := 2)) de_str) (dss_one (ds_ret (de_tup (da_cons de_str (da_cons (de_call (E := E0) (ok_l_end G) (hr.mono (by decide)) G.l_end.m G.l_end.F.kp G.l_end.b passL lnk0 (da_cons (de_var (i := 0)) (da_cons (de_var (i := 3)) da_nil))) da_nil))))) dss_nil)
    (dss_cons (ds_if (dt_cmp (o_eq hu64) (de_var (i := 2)) de_str) (dss_one (ds_ret (de_tup (da_cons de_str (da_cons (de_op o_sub (de_op o_pow de_int de_int) (de_call (E := E0) (ok_l_end G) (hr.mono (by decide)) G.l_end.m G.l_end.F.kp G.l_end.b passL lnk0 (da_cons (de_var (i := 0)) (da_cons (de_var (i := 3)) da_nil)))) da_nil))))) dss_nil)
    (dss_cons (ds_if (dt_cmp (o_eq hu64) (de_ix hu1 (de_var (i := 1)) de_int) de_str) (dss_one (ds_ret (de_tup (da_cons de_str (da_cons (de_var (i := 4)) (da_cons (de_var (i := 5)) da_nil)))))) dss_nil)
    (dss_one (ds_ret (de_tup (da_cons de_str (da_cons (de_ix hu1 (de_lst (da_cons (de_var (i := 4)) (da_cons (de_var (i := 5)) da_nil))) (de_callTy b_int (da_cons (de_cmp (o_inD hu1) (de_ix hu1 (de_var (i := 1)) de_int) (de_tup (da_cons de_str (da_cons de_str da_nil)))) da_nil) (by rfl) G.n_int bb_int)) da_nil)))))))))))))
theorem ok_l_answer (G : Glb K mg) : FnOk P w K mg base (L2.CX P w) 3 G.l_answer.a G.l_answer.fd ["_law_deck_here", "_law_deed_here", "_law_word"] (spV K (sp_l_answer K)) :=
  FunD.okD0 (k := 2) G.l_answer.F sc_l_answer (fun ds S Q E h => by
    first | unfold sp_l_answer at h | skip
    repeat (first | (obtain ⟨rfl, _⟩ := h; rfl) | (obtain ⟨_, h⟩ := h))) (fun cdv A outer s H E hr => dv_l_answer G cdv A outer s H E hr) (rd_l_answer K)
theorem dv_l_kept (G : Glb K mg) (cdv : Value) (A : Around) (outer : List Env) (s : Shared) (H : Hp) (E : XK) (hr : Room 3 (A.deeper (envOfC "_law_kept" (defScope s_l_kept) s.heap.objs.size G.l_kept.a cdv))) :
    Dss (cxOf (L2.CX P w) P w K mg base N_l_kept "_law_kept" (defScope s_l_kept) G.l_kept.a cdv A outer s H E).nox H (defBody s_l_kept) (t_l_kept K) := by
  have hu1 := hu_of hr
  have hu64 := hr.units
  have hu0 := hr.units0
  have hu65 := room65 hr
  exact (dss_cons (ds_set (i := 4) (de_call (E := E0) (ok_l_deed G) (hr.mono (by decide)) G.l_deed.m G.l_deed.F.kp G.l_deed.b passL lnk0 (da_cons (de_var (i := 0)) (da_cons (de_ix hu1 (de_var (i := 1)) de_int) (da_cons (de_ix hu1 (de_var (i := 1)) de_int) da_nil)))) sc_l_kept.nd)
    (dss_cons (ds_set (i := 5) (de_op o_add (de_call (E := E0) (ok_l_words G) (hr.mono (by decide)) G.l_words.m G.l_words.F.kp G.l_words.b passL lnk0 (da_cons (de_var (i := 4)) (da_cons de_bl da_nil))) (de_call (E := E0) (ok_l_words G) (hr.mono (by decide)) G.l_words.m G.l_words.F.kp G.l_words.b passL lnk0 (da_cons (de_var (i := 4)) (da_cons de_bl da_nil)))) sc_l_kept.nd)
    (dss_cons (ds_set (i := 6) (de_call (E := E0) (ok_l_answer G) (hr.mono (by decide)) G.l_answer.m G.l_answer.F.kp G.l_answer.b passL lnk0 (da_cons (de_var (i := 0)) (da_cons (de_var (i := 4)) (da_cons (de_ix hu1 (de_var (i := 5)) (de_call (E := E0) (ok_l_draw G) (hr.mono (by decide)) G.l_draw.m G.l_draw.F.kp G.l_draw.b passL lnk0 (da_cons (de_var (i := 0)) (da_cons (de_callB b_len (da_cons (de_var (i := 5)) da_nil) (by rfl) G.n_len bb_len) da_nil)))) da_nil)))) sc_l_kept.nd)
    (dss_one (ds_ret (de_op o_add (de_op o_add (de_tup (da_cons de_str (da_cons (de_var (i := 2)) (da_cons (de_var (i := 3)) da_nil)))) (de_call (E := E0) (ok_l_spot G) (hr.mono (by decide)) G.l_spot.m G.l_spot.F.kp G.l_spot.b passL lnk0 (da_cons (de_var (i := 0)) (da_cons (de_var (i := 1)) da_nil)))) (de_tup (da_cons (de_var (i := 4)) (da_cons (de_var (i := 6)) da_nil)))))))))
theorem ok_l_kept (G : Glb K mg) : FnOk P w K mg base (L2.CX P w) 4 G.l_kept.a G.l_kept.fd ["_law_deck_here", "_law_menus_here", "_law_number", "_law_turn"] (spV K (sp_l_kept K)) :=
  FunD.okD0 (k := 3) G.l_kept.F sc_l_kept (fun ds S Q E h => by
    first | unfold sp_l_kept at h | skip
    repeat (first | (obtain ⟨rfl, _⟩ := h; rfl) | (obtain ⟨_, h⟩ := h))) (fun cdv A outer s H E hr => dv_l_kept G cdv A outer s H E hr) (rd_l_kept K)
theorem dv_l_head (G : Glb K mg) (cdv : Value) (A : Around) (outer : List Env) (s : Shared) (H : Hp) (E : XK) (hr : Room 4 (A.deeper (envOfC "_law_head" (defScope s_l_head) s.heap.objs.size G.l_head.a cdv))) :
    Dss (cxOf (L2.CX P w) P w K mg base N_l_head "_law_head" (defScope s_l_head) G.l_head.a cdv A outer s H E).nox H (defBody s_l_head) (t_l_head K) := by
  have hu1 := hu_of hr
  have hu64 := hr.units
  have hu0 := hr.units0
  have hu65 := room65 hr
  exact (dss_cons (ds_set (i := 2) (de_ix hu1 (de_lst (da_cons (de_op o_add de_int (de_call (E := E0) (ok_l_draw G) (hr.mono (by decide)) G.l_draw.m G.l_draw.F.kp G.l_draw.b passL lnk0 (da_cons (de_var (i := 0)) (da_cons de_int da_nil)))) (da_cons (de_op o_add de_int (de_call (E := E0) (ok_l_draw G) (hr.mono (by decide)) G.l_draw.m G.l_draw.F.kp G.l_draw.b passL lnk0 (da_cons (de_var (i := 0)) (da_cons de_int da_nil)))) da_nil))) (de_call (E := E0) (ok_l_draw G) (hr.mono (by decide)) G.l_draw.m G.l_draw.F.kp G.l_draw.b passL lnk0 (da_cons (de_var (i := 0)) (da_cons de_int da_nil)))) sc_l_head.nd)
    (dss_cons (ds_set (i := 3) (de_call (E := E0) (ok_l_end G) (hr.mono (by decide)) G.l_end.m G.l_end.F.kp G.l_end.b passL lnk0 (da_cons (de_var (i := 0)) (da_cons (de_op o_mul de_int (de_op o_pow de_int de_int)) da_nil))) sc_l_head.nd)
    (dss_cons (ds_set (i := 4) (de_lst (da_cons (de_tup (da_cons de_str (da_cons (de_var (i := 2)) (da_cons (de_var (i := 3)) da_nil)))) da_nil)) sc_l_head.nd)
    (dss_cons (ds_for PassesOwn.never (di_list (de_callB b_sorted (da_cons (de_ix hu1 (de_var (i := 1)) de_int) da_nil) (by rfl) G.n_sorted bb_sorted)) (dg_name (i := 5) sc_l_head.nd) (dss_one (ds_if (dt_cmp o_gt (de_call (E := E0) (ok_l_draw G) (hr.mono (by decide)) G.l_draw.m G.l_draw.F.kp G.l_draw.b passL lnk0 (da_cons (de_var (i := 0)) (da_cons de_int da_nil))) de_int) (dss_one (ds_expr (de_bm m_append (de_var (i := 4)) (da_cons (de_tup (da_cons de_str (da_cons (de_var (i := 5)) (da_cons (de_op o_add de_int (de_call (E := E0) (ok_l_end G) (hr.mono (by decide)) G.l_end.m G.l_end.F.kp G.l_end.b passL lnk0 (da_cons (de_var (i := 0)) (da_cons (de_op o_pow de_int de_int) da_nil)))) da_nil)))) da_nil) PySem.F.plainAttrs_list PySem.F.slot_list_append PySem.F.type_list_append))) dss_nil)))
    (dss_cons (ds_set (i := 6) de_int sc_l_head.nd)
    (dss_cons (ds_for PassesOwn.never (di_range1 (da_cons (de_call (E := E0) (ok_l_draw G) (hr.mono (by decide)) G.l_draw.m G.l_draw.F.kp G.l_draw.b passL lnk0 (da_cons (de_var (i := 0)) (da_cons de_int da_nil))) da_nil) (by rfl) G.n_range) (dg_name (i := 7) sc_l_head.nd) (dss_cons (ds_set (i := 6) (de_op o_add (de_op o_add (de_var (i := 6)) de_int) (de_ix hu1 (de_lst (da_cons de_int (da_cons de_int (da_cons (de_call (E := E0) (ok_l_draw G) (hr.mono (by decide)) G.l_draw.m G.l_draw.F.kp G.l_draw.b passL lnk0 (da_cons (de_var (i := 0)) (da_cons de_int da_nil))) da_nil)))) (de_call (E := E0) (ok_l_draw G) (hr.mono (by decide)) G.l_draw.m G.l_draw.F.kp G.l_draw.b passL lnk0 (da_cons (de_var (i := 0)) (da_cons de_int da_nil))))) sc_l_head.nd)
    (dss_one (ds_if (dt_cmp (o_lt hu0) (de_var (i := 6)) (de_var (i := 2))) (dss_one (ds_expr (de_bm m_append (de_var (i := 4)) (da_cons (de_call (E := E0) (ok_l_kept G) (hr.mono (by decide)) G.l_kept.m G.l_kept.F.kp G.l_kept.b passL lnk0 (da_cons (de_var (i := 0)) (da_cons (de_var (i := 1)) (da_cons (de_var (i := 6)) (da_cons (de_call (E := E0) (ok_l_end G) (hr.mono (by decide)) G.l_end.m G.l_end.F.kp G.l_end.b passL lnk0 (da_cons (de_var (i := 0)) (da_cons (de_op o_add (de_var (i := 3)) de_int) da_nil))) da_nil))))) da_nil) PySem.F.plainAttrs_list PySem.F.slot_list_append PySem.F.type_list_append))) dss_nil))))
    (dss_one (ds_ret (de_var (i := 4))))))))))
theorem ok_l_head (G : Glb K mg) : FnOk P w K mg base (L2.CX P w) 5 G.l_head.a G.l_head.fd ["_law_deck_here", "_law_menus_here"] (spV K (sp_l_head K)) :=
  FunD.okD0 (k := 4) G.l_head.F sc_l_head (fun ds S Q E h => by
    first | unfold sp_l_head at h | skip
    repeat (first | (obtain ⟨rfl, _⟩ := h; rfl) | (obtain ⟨_, h⟩ := h))) (fun cdv A outer s H E hr => dv_l_head G cdv A outer s H E hr) (rd_l_head K)
theorem dv_l_some_head (G : Glb K mg) (cdv : Value) (A : Around) (outer : List Env) (s : Shared) (H : Hp) (E : XK) (hr : Room 5 (A.deeper (envOfC "_law_some_head" (defScope s_l_some_head) s.heap.objs.size G.l_some_head.a cdv))) :
    Dss (cxOf (L2.CX P w) P w K mg base N_l_some_head "_law_some_head" (defScope s_l_some_head) G.l_some_head.a cdv A outer s H E).nox H (defBody s_l_some_head) (t_l_some_head K) := by
  have hu1 := hu_of hr
  have hu64 := hr.units
  have hu0 := hr.units0
  have hu65 := room65 hr
  exact (dss_cons (ds_set (i := 2) (de_lst da_nil) sc_l_some_head.nd)
    (dss_cons (ds_if (dt_cmp (o_eq hu64) (de_call (E := E0) (ok_l_draw G) (hr.mono (by decide)) G.l_draw.m G.l_draw.F.kp G.l_draw.b passL lnk0 (da_cons (de_var (i := 0)) (da_cons de_int da_nil))) de_int) (dss_one (ds_set (i := 2) (de_call (E := E0) (ok_l_head G) (hr.mono (by decide)) G.l_head.m G.l_head.F.kp G.l_head.b passL lnk0 (da_cons (de_var (i := 0)) (da_cons (de_var (i := 1)) da_nil))) sc_l_some_head.nd)) dss_nil)
    (dss_one (ds_ret (de_var (i := 2))))))
theorem ok_l_some_head (G : Glb K mg) : FnOk P w K mg base (L2.CX P w) 6 G.l_some_head.a G.l_some_head.fd ["_law_deck_here", "_law_menus_here"] (spV K (sp_l_some_head K)) :=
  FunD.okD0 (k := 5) G.l_some_head.F sc_l_some_head (fun ds S Q E h => by
    first | unfold sp_l_some_head at h | skip
    repeat (first | (obtain ⟨rfl, _⟩ := h; rfl) | (obtain ⟨_, h⟩ := h))) (fun cdv A outer s H E hr => dv_l_some_head G cdv A outer s H E hr) (rd_l_some_head K)
theorem dv_l_entries (G : Glb K mg) (cdv : Value) (A : Around) (outer : List Env) (s : Shared) (H : Hp) (E : XK) (hr : Room 0 (A.deeper (envOfC "_law_entries" (defScope s_l_entries) s.heap.objs.size G.l_entries.a cdv))) :
    Dss (cxOf (L2.CX P w) P w K mg base N_l_entries "_law_entries" (defScope s_l_entries) G.l_entries.a cdv A outer s H E).nox H (defBody s_l_entries) (t_l_entries K) := by
  have hu1 := hu_of hr
  have hu64 := hr.units
  have hu0 := hr.units0
  have hu65 := room65 hr
  exact (dss_cons (ds_set (i := 1) (de_callTy b_dictP (da_cons (de_lc (own := [("_law_row", 4)]) sc_l_entries.nd (di_list (de_var (i := 0))) (blkOk_by (own := [("_law_row", 4)]) (N := N_l_entries) (sc := defScope s_l_entries) (by decide +kernel)) (fun _ _ _ _ _ => (dgw_name (i := 4) sc_l_entries.nd)) (fun _ _ _ _ _ => (dts_one (dt_cmp (o_eq hu64) (de_ix hu1 (de_var (i := 4)) de_int) de_str))) (fun _ _ _ _ _ => (de_tup (da_cons (de_ix hu1 (de_var (i := 4)) de_int) (da_cons (de_slice (de_var (i := 4)) (do_some de_int) (do_some de_int)) da_nil))))) da_nil) (by rfl) G.n_dict bb_dict) sc_l_entries.nd)
    (dss_cons (ds_set (i := 2) (de_lst da_nil) sc_l_entries.nd)
    (dss_cons (ds_for PassesOwn.never (di_range1 (da_cons (de_callB b_len (da_cons (de_var (i := 0)) da_nil) (by rfl) G.n_len bb_len) da_nil) (by rfl) G.n_range) (dg_name (i := 3) sc_l_entries.nd) (dss_cons (ds_if (dt_cmp (o_eq hu64) (de_ix hu1 (de_ix hu1 (de_var (i := 0)) (de_var (i := 3))) de_int) de_str) (dss_one (ds_expr (de_bm m_append (de_var (i := 2)) (da_cons (de_tup (da_cons (de_var (i := 3)) (da_cons (de_slice (de_ix hu1 (de_var (i := 0)) (de_var (i := 3))) (do_some de_int) (do_some de_int)) (da_cons (de_ix hu1 (de_ix hu1 (de_var (i := 0)) (de_var (i := 3))) de_int) da_nil)))) da_nil) PySem.F.plainAttrs_list PySem.F.slot_list_append PySem.F.type_list_append))) dss_nil)
    (dss_one (ds_if (dt_cmp (o_eq hu64) (de_ix hu1 (de_ix hu1 (de_var (i := 0)) (de_var (i := 3))) de_int) de_str) (dss_one (ds_expr (de_bm m_append (de_var (i := 2)) (da_cons (de_tup (da_cons (de_var (i := 3)) (da_cons (de_ix hu1 (de_var (i := 1)) (de_ix hu1 (de_ix hu1 (de_var (i := 0)) (de_var (i := 3))) de_int)) (da_cons (de_ix hu1 (de_ix hu1 (de_var (i := 0)) (de_var (i := 3))) de_int) da_nil)))) da_nil) PySem.F.plainAttrs_list PySem.F.slot_list_append PySem.F.type_list_append))) dss_nil))))
    (dss_one (ds_ret (de_var (i := 2)))))))
theorem ok_l_entries (G : Glb K mg) : FnOk P w K mg base (L2.CX P w) 1 G.l_entries.a G.l_entries.fd ["_law_rows"] (spV K (sp_l_entries K)) :=
  FunD.okD0 (k := 0) G.l_entries.F sc_l_entries (fun ds S Q E h => by
    first | unfold sp_l_entries at h | skip
    repeat (first | (obtain ⟨rfl, _⟩ := h; rfl) | (obtain ⟨_, h⟩ := h))) (fun cdv A outer s H E hr => dv_l_entries G cdv A outer s H E hr) (rd_l_entries K)
theorem dv_l_due (G : Glb K mg) (cdv : Value) (A : Around) (outer : List Env) (s : Shared) (H : Hp) (E : XK) (hr : Room 1 (A.deeper (envOfC "_law_due" (defScope s_l_due) s.heap.objs.size G.l_due.a cdv))) :
    Dss (cxOf (L2.CX P w) P w K mg base N_l_due "_law_due" (defScope s_l_due) G.l_due.a cdv A outer s H E).nox H (defBody s_l_due) (t_l_due K) := by
  have hu1 := hu_of hr
  have hu64 := hr.units
  have hu0 := hr.units0
  have hu65 := room65 hr
  exact (dss_cons (ds_set (i := 2) de_non sc_l_due.nd)
    (dss_cons (ds_set (i := 3) (de_call (E := E0) (ok_l_entries G) (hr.mono (by decide)) G.l_entries.m G.l_entries.F.kp G.l_entries.b passL lnk0 (da_cons (de_var (i := 0)) da_nil)) sc_l_due.nd)
    (dss_cons (ds_for PassesOwn.never (di_list (de_var (i := 3))) (dg_tup (dgs_cons (dg_name (i := 4) sc_l_due.nd) (dgs_cons (dg_name (i := 5) sc_l_due.nd) (dgs_cons (dg_name (i := 6) sc_l_due.nd) dgs_nil)))) (dss_one (ds_for PassesOwn.never (di_list (de_var (i := 3))) (dg_tup (dgs_cons (dg_name (i := 7) sc_l_due.nd) (dgs_cons (dg_name (i := 8) sc_l_due.nd) (dgs_cons (dg_name (i := 9) sc_l_due.nd) dgs_nil)))) (dss_one (ds_if (Dw.dt (dw_and (dt_cmp o_gt (de_var (i := 7)) (de_var (i := 4))) (dw_and (dt_cmp (o_eq hu64) (de_var (i := 8)) (de_var (i := 5))) (dw_and1 (dt_cmp (o_lt hu0) (de_var (i := 9)) (de_op o_add (de_var (i := 6)) (de_var (i := 1)))))))) (dss_one (ds_if (Dw.dt (dw_or (dt_cmp o_is (de_var (i := 2)) de_non) (dw_or1 (dt_cmp (o_lt hu0) (de_tup (da_cons (de_var (i := 7)) (da_cons (de_neg (de_var (i := 4))) da_nil))) (de_tup (da_cons (de_ix hu1 (de_var (i := 2)) de_int) (da_cons (de_neg (de_ix hu1 (de_var (i := 2)) de_int)) da_nil))))))) (dss_one (ds_set (i := 2) (de_tup (da_cons (de_var (i := 4)) (da_cons (de_var (i := 7)) da_nil))) sc_l_due.nd)) dss_nil)) dss_nil)))))
    (dss_one (ds_ret (de_var (i := 2)))))))
theorem ok_l_due (G : Glb K mg) : FnOk P w K mg base (L2.CX P w) 2 G.l_due.a G.l_due.fd ["_law_rows", "_law_life_here"] (spV K (sp_l_due K)) :=
  FunD.okD0 (k := 1) G.l_due.F sc_l_due (fun ds S Q E h => by
    first | unfold sp_l_due at h | skip
    repeat (first | (obtain ⟨rfl, _⟩ := h; rfl) | (obtain ⟨_, h⟩ := h))) (fun cdv A outer s H E hr => dv_l_due G cdv A outer s H E hr) (rd_l_due K)
theorem dv_l_life (G : Glb K mg) (cdv : Value) (A : Around) (outer : List Env) (s : Shared) (H : Hp) (E : XK) (hr : Room 2 (A.deeper (envOfC "_law_life" (defScope s_l_life) s.heap.objs.size G.l_life.a cdv))) :
    Dss (cxOf (L2.CX P w) P w K mg base N_l_life "_law_life" (defScope s_l_life) G.l_life.a cdv A outer s H E).nox H (defBody s_l_life) (t_l_life K) := by
  have hu1 := hu_of hr
  have hu64 := hr.units
  have hu0 := hr.units0
  have hu65 := room65 hr
  exact (dss_cons (ds_setLc (i := 2) (own := [("_law_k", 6), ("_law_spot_here", 7), ("_law_turn", 8)]) sc_l_life.nd (di_list (de_call (E := E0) (ok_l_entries G) (hr.mono (by decide)) G.l_entries.m G.l_entries.F.kp G.l_entries.b passL lnk0 (da_cons (de_var (i := 1)) da_nil))) (blkOk_by (own := [("_law_k", 6), ("_law_spot_here", 7), ("_law_turn", 8)]) (N := N_l_life) (sc := defScope s_l_life) (by decide +kernel)) (fun _ _ _ _ _ => (dgw_tupK K (dgsw_cons (dgw_name (i := 6) sc_l_life.nd) (dgsw_cons (dgw_name (i := 7) sc_l_life.nd) (dgsw_cons (dgw_name (i := 8) sc_l_life.nd) dgsw_nil))))) (fun _ _ _ _ _ => dts_nil) (fun _ _ _ _ _ => (de_var (i := 8))) (sw_true rfl rfl rfl (by decide +kernel)))
    (dss_cons (ds_set (i := 3) (de_call (E := E0) (ok_l_draw G) (hr.mono (by decide)) G.l_draw.m G.l_draw.F.kp G.l_draw.b passL lnk0 (da_cons (de_var (i := 0)) (da_cons de_int da_nil))) sc_l_life.nd)
    (dss_cons (ds_if (Dw.dt (dw_and (dt_cmp (o_lt hu0) (de_var (i := 3)) de_int) (dw_and1 (dt_cmp o_gt (de_callB b_len (da_cons (de_var (i := 2)) da_nil) (by rfl) G.n_len bb_len) de_int)))) (dss_cons (ds_set (i := 4) (de_ix hu1 (de_var (i := 2)) (de_call (E := E0) (ok_l_draw G) (hr.mono (by decide)) G.l_draw.m G.l_draw.F.kp G.l_draw.b passL lnk0 (da_cons (de_var (i := 0)) (da_cons (de_callB b_len (da_cons (de_var (i := 2)) da_nil) (by rfl) G.n_len bb_len) da_nil)))) sc_l_life.nd)
    (dss_cons (ds_set (i := 5) (de_ix hu1 (de_var (i := 2)) (de_call (E := E0) (ok_l_draw G) (hr.mono (by decide)) G.l_draw.m G.l_draw.F.kp G.l_draw.b passL lnk0 (da_cons (de_var (i := 0)) (da_cons (de_callB b_len (da_cons (de_var (i := 2)) da_nil) (by rfl) G.n_len bb_len) da_nil)))) sc_l_life.nd)
    (dss_one (ds_ret (de_callB b_max (da_cons de_int (da_cons (de_callB b_min (da_cons (de_op o_pow de_int de_int) (da_cons (de_op o_add (de_callB b_abs (da_cons (de_op o_sub (de_var (i := 4)) (de_var (i := 5))) da_nil) (by rfl) G.n_abs bb_abs) (de_var (i := 3))) da_nil)) (by rfl) G.n_min bb_min) da_nil)) (by rfl) G.n_max bb_max))))) dss_nil)
    (dss_one (ds_ret (de_ix hu1 (de_lst (da_cons (de_op o_add de_int (de_call (E := E0) (ok_l_draw G) (hr.mono (by decide)) G.l_draw.m G.l_draw.F.kp G.l_draw.b passL lnk0 (da_cons (de_var (i := 0)) (da_cons de_int da_nil)))) (da_cons (de_op o_add de_int (de_call (E := E0) (ok_l_end G) (hr.mono (by decide)) G.l_end.m G.l_end.F.kp G.l_end.b passL lnk0 (da_cons (de_var (i := 0)) (da_cons (de_op o_pow de_int de_int) da_nil)))) da_nil))) (de_op o_mod (de_var (i := 3)) de_int)))))))
theorem ok_l_life (G : Glb K mg) : FnOk P w K mg base (L2.CX P w) 3 G.l_life.a G.l_life.fd ["_law_deck_here", "_law_rows"] (spV K (sp_l_life K)) :=
  FunD.okD0 (k := 2) G.l_life.F sc_l_life (fun ds S Q E h => by
    first | unfold sp_l_life at h | skip
    repeat (first | (obtain ⟨rfl, _⟩ := h; rfl) | (obtain ⟨_, h⟩ := h))) (fun cdv A outer s H E hr => dv_l_life G cdv A outer s H E hr) (rd_l_life K)
theorem dv_l_told (G : Glb K mg) (cdv : Value) (A : Around) (outer : List Env) (s : Shared) (H : Hp) (E : XK) (hr : Room 3 (A.deeper (envOfC "_law_told" (defScope s_l_told) s.heap.objs.size G.l_told.a cdv))) :
    Dss (cxOf (L2.CX P w) P w K mg base N_l_told "_law_told" (defScope s_l_told) G.l_told.a cdv A outer s H E).nox H (defBody s_l_told) (t_l_told K) := by
  have hu1 := hu_of hr
  have hu64 := hr.units
  have hu0 := hr.units0
  have hu65 := room65 hr
  exact (dss_cons (ds_set (i := 2) (de_callTy b_list (da_cons (de_var (i := 0)) da_nil) (by rfl) G.n_list bb_list) sc_l_told.nd)
    (dss_cons (ds_set (i := 3) (de_call (E := E0) (ok_too_near G) (hr.mono (by decide)) G.too_near.m G.too_near.F.kp G.too_near.b passL lnk0 (da_cons (de_var (i := 0)) (da_cons (de_var (i := 1)) da_nil))) sc_l_told.nd)
    (dss_cons (ds_if (dt_cmp (o_ne hu64) (de_var (i := 0)) (de_var (i := 2))) (dss_one (ds_ret de_int)) dss_nil)
    (dss_cons (ds_if (dt_cmp o_is (de_var (i := 3)) de_non) (dss_one (ds_ret de_non)) dss_nil)
    (dss_cons (ds_if (Dw.dt (dw_or (dt_not (dt_val (de_isi (de_var (i := 3)) (by rfl) G.n_isinstance bb_isinstance (by rfl) G.n_tuple bb_tuple))) (dw_or1 (dt_cmp (o_ne hu64) (de_callB b_len (da_cons (de_var (i := 3)) da_nil) (by rfl) G.n_len bb_len) de_int)))) (dss_one (ds_ret de_int)) dss_nil)
    (dss_cons (ds_for PassesOwn.never (di_tup (de_var (i := 3))) (dg_name (i := 4) sc_l_told.nd) (dss_one (ds_if (Dw.dt (dw_or (dt_val (de_isi (de_var (i := 4)) (by rfl) G.n_isinstance bb_isinstance (by rfl) G.n_bool bb_bool)) (dw_or1 (dt_not (dt_val (de_isi (de_var (i := 4)) (by rfl) G.n_isinstance bb_isinstance (by rfl) G.n_int bb_int)))))) (dss_one (ds_ret de_int)) dss_nil)))
    (dss_one (ds_ret (de_var (i := 3))))))))))
theorem ok_l_told (G : Glb K mg) : FnOk P w K mg base (L2.CX P w) 4 G.l_told.a G.l_told.fd ["_law_rows", "_law_life_here"] (spV K (sp_l_told K)) :=
  FunD.okD0 (k := 3) G.l_told.F sc_l_told (fun ds S Q E h => by
    first | unfold sp_l_told at h | skip
    repeat (first | (obtain ⟨rfl, _⟩ := h; rfl) | (obtain ⟨_, h⟩ := h))) (fun cdv A outer s H E hr => dv_l_told G cdv A outer s H E hr) (rd_l_told K)
theorem dv_law (G : Glb K mg) (cdv : Value) (A : Around) (outer : List Env) (s : Shared) (H : Hp) (E : XK) (hr : Room 6 (A.deeper (envOfC "law" (defScope s_law) s.heap.objs.size G.law.a cdv))) :
    Dss (cxOf (L2.CX P w) P w K mg base N_law "law" (defScope s_law) G.law.a cdv A outer s H E).nox H (defBody s_law) (t_law K) := by
  have hu1 := hu_of hr
  have hu64 := hr.units
  have hu0 := hr.units0
  have hu65 := room65 hr
  exact (dss_cons (ds_set (i := 1) (de_call (E := E0) (ok_l_deck G) (hr.mono (by decide)) G.l_deck.m G.l_deck.F.kp G.l_deck.b passL lnk0 (da_cons (de_var (i := 0)) da_nil)) sc_law.nd)
    (dss_cons (ds_set (i := 2) (de_call (E := E0) (ok_l_menus G) (hr.mono (by decide)) G.l_menus.m G.l_menus.F.kp G.l_menus.b passL lnk0 (da_cons (de_var (i := 1)) da_nil)) sc_law.nd)
    (dss_cons (ds_for PassesOwn.never (di_range1 (da_cons de_int da_nil) (by rfl) G.n_range) (dg_name (i := 3) sc_law.nd) (dss_cons (ds_set (i := 4) (de_lst (da_cons (de_ix hu1 (de_var (i := 2)) de_int) (da_cons (de_ix hu1 (de_var (i := 2)) de_int) (da_cons (de_slice (de_ix hu1 (de_var (i := 2)) de_int) do_none (do_some (de_op o_add de_int (de_call (E := E0) (ok_l_draw G) (hr.mono (by decide)) G.l_draw.m G.l_draw.F.kp G.l_draw.b passL lnk0 (da_cons (de_var (i := 1)) (da_cons de_int da_nil)))))) (da_cons (de_slice (de_ix hu1 (de_var (i := 2)) de_int) do_none (do_some (de_op o_add de_int (de_call (E := E0) (ok_l_draw G) (hr.mono (by decide)) G.l_draw.m G.l_draw.F.kp G.l_draw.b passL lnk0 (da_cons (de_var (i := 1)) (da_cons de_int da_nil)))))) da_nil))))) sc_law.nd)
    (dss_cons (ds_set (i := 5) (de_call (E := E0) (ok_l_some_head G) (hr.mono (by decide)) G.l_some_head.m G.l_some_head.F.kp G.l_some_head.b passL lnk0 (da_cons (de_var (i := 1)) (da_cons (de_var (i := 4)) da_nil))) sc_law.nd)
    (dss_cons (ds_set (i := 5) (de_call (E := E0) (ok_l_lived G) (hr.mono (by decide)) G.l_lived.m G.l_lived.F.kp G.l_lived.b passL lnk0 (da_cons (de_var (i := 1)) (da_cons (de_var (i := 5)) (da_cons (de_var (i := 4)) (da_cons (de_ix hu1 (de_lst (da_cons (de_call (E := E0) (ok_l_draw G) (hr.mono (by decide)) G.l_draw.m G.l_draw.F.kp G.l_draw.b passL lnk0 (da_cons (de_var (i := 1)) (da_cons de_int da_nil))) (da_cons (de_call (E := E0) (ok_l_draw G) (hr.mono (by decide)) G.l_draw.m G.l_draw.F.kp G.l_draw.b passL lnk0 (da_cons (de_var (i := 1)) (da_cons de_int da_nil))) da_nil))) (de_call (E := E0) (ok_l_draw G) (hr.mono (by decide)) G.l_draw.m G.l_draw.F.kp G.l_draw.b passL lnk0 (da_cons (de_var (i := 1)) (da_cons de_int da_nil)))) da_nil))))) sc_law.nd)
    (dss_cons (ds_set (i := 6) (de_call (E := E0) (ok_l_life G) (hr.mono (by decide)) G.l_life.m G.l_life.F.kp G.l_life.b passL lnk0 (da_cons (de_var (i := 1)) (da_cons (de_var (i := 5)) da_nil))) sc_law.nd)
    (dss_cons (ds_set (i := 7) (de_call (E := E0) (ok_l_due G) (hr.mono (by decide)) G.l_due.m G.l_due.F.kp G.l_due.b passL lnk0 (da_cons (de_var (i := 5)) (da_cons (de_var (i := 6)) da_nil))) sc_law.nd)
    (dss_one (ds_if (Dw.dt (dw_or (dt_cmp (o_ne hu64) (de_call (E := E0) (ok_l_told G) (hr.mono (by decide)) G.l_told.m G.l_told.F.kp G.l_told.b passL lnk0 (da_cons (de_var (i := 5)) (da_cons (de_var (i := 6)) da_nil))) (de_var (i := 7))) (dw_or1 (dt_cmp (o_ne hu64) (de_call (E := E0) (ok_l_told G) (hr.mono (by decide)) G.l_told.m G.l_told.F.kp G.l_told.b passL lnk0 (da_cons (de_var (i := 5)) (da_cons (de_var (i := 6)) da_nil))) (de_var (i := 7)))))) (dss_one (ds_ret de_bl)) dss_nil))))))))
    (dss_one (ds_ret (de_cmp o_is (de_call (E := E0) (ok_too_near G) (hr.mono (by decide)) G.too_near.m G.too_near.F.kp G.too_near.b passL lnk0 (da_cons (de_lst da_nil) (da_cons de_int da_nil))) de_non))))))
theorem ok_law (G : Glb K mg) : FnOk P w K mg base (L2.CX P w) 7 G.law.a G.law.fd ["_law_script"] (spV K (sp_law K)) :=
  FunD.okD0 (k := 6) G.law.F sc_law (fun ds S Q E h => by
    first | unfold sp_law at h | skip
    repeat (first | (obtain ⟨rfl, _⟩ := h; rfl) | (obtain ⟨_, h⟩ := h))) (fun cdv A outer s H E hr => dv_law G cdv A outer s H E hr) (rd_law K)
end
end K72
set_option Elab.async false
set_option linter.all false
set_option maxRecDepth 100000
set_option maxHeartbeats 0
namespace K72
open PySem PySem.Spec PyProof.Rows L2 Dv

def d_came_rows : He.DefD := ⟨("came_rows", none), "came_rows", "came_rows", defArgs s_came_rows, defBody s_came_rows, defScope s_came_rows, [], []⟩
def d_kept_of : He.DefD := ⟨("kept_of", none), "kept_of", "kept_of", defArgs s_kept_of, defBody s_kept_of, defScope s_kept_of, [], []⟩
def d_too_near : He.DefD := ⟨("too_near", none), "too_near", "too_near", defArgs s_too_near, defBody s_too_near, defScope s_too_near, [], []⟩
def d_l_deck : He.DefD := ⟨("_law_deck", none), "_law_deck", "_law_deck", defArgs s_l_deck, defBody s_l_deck, defScope s_l_deck, [], []⟩
def d_l_draw : He.DefD := ⟨("_law_draw", none), "_law_draw", "_law_draw", defArgs s_l_draw, defBody s_l_draw, defScope s_l_draw, [], []⟩
def d_l_unlike : He.DefD := ⟨("_law_unlike", none), "_law_unlike", "_law_unlike", defArgs s_l_unlike, defBody s_l_unlike, defScope s_l_unlike, [], []⟩
def d_l_menus : He.DefD := ⟨("_law_menus", none), "_law_menus", "_law_menus", defArgs s_l_menus, defBody s_l_menus, defScope s_l_menus, [], []⟩
def d_l_end : He.DefD := ⟨("_law_end", none), "_law_end", "_law_end", defArgs s_l_end, defBody s_l_end, defScope s_l_end, [], []⟩
def d_l_deed : He.DefD := ⟨("_law_deed", none), "_law_deed", "_law_deed", defArgs s_l_deed, defBody s_l_deed, defScope s_l_deed, [], []⟩
def d_l_spot : He.DefD := ⟨("_law_spot", none), "_law_spot", "_law_spot", defArgs s_l_spot, defBody s_l_spot, defScope s_l_spot, [], []⟩
def d_l_changes : He.DefD := ⟨("_law_changes", none), "_law_changes", "_law_changes", defArgs s_l_changes, defBody s_l_changes, defScope s_l_changes, [], []⟩
def d_l_changed : He.DefD := ⟨("_law_changed", none), "_law_changed", "_law_changed", defArgs s_l_changed, defBody s_l_changed, defScope s_l_changed, [], []⟩
def d_l_sized : He.DefD := ⟨("_law_sized", none), "_law_sized", "_law_sized", defArgs s_l_sized, defBody s_l_sized, defScope s_l_sized, [], []⟩
def d_l_early : He.DefD := ⟨("_law_early", none), "_law_early", "_law_early", defArgs s_l_early, defBody s_l_early, defScope s_l_early, [], []⟩
def d_l_lates : He.DefD := ⟨("_law_lates", none), "_law_lates", "_law_lates", defArgs s_l_lates, defBody s_l_lates, defScope s_l_lates, [], []⟩
def d_l_right : He.DefD := ⟨("_law_right", none), "_law_right", "_law_right", defArgs s_l_right, defBody s_l_right, defScope s_l_right, [], []⟩
def d_l_lived : He.DefD := ⟨("_law_lived", none), "_law_lived", "_law_lived", defArgs s_l_lived, defBody s_l_lived, defScope s_l_lived, [], []⟩
def d_l_words : He.DefD := ⟨("_law_words", none), "_law_words", "_law_words", defArgs s_l_words, defBody s_l_words, defScope s_l_words, [], []⟩
def d_l_answer : He.DefD := ⟨("_law_answer", none), "_law_answer", "_law_answer", defArgs s_l_answer, defBody s_l_answer, defScope s_l_answer, [], []⟩
def d_l_kept : He.DefD := ⟨("_law_kept", none), "_law_kept", "_law_kept", defArgs s_l_kept, defBody s_l_kept, defScope s_l_kept, [], []⟩
def d_l_head : He.DefD := ⟨("_law_head", none), "_law_head", "_law_head", defArgs s_l_head, defBody s_l_head, defScope s_l_head, [], []⟩
def d_l_some_head : He.DefD := ⟨("_law_some_head", none), "_law_some_head", "_law_some_head", defArgs s_l_some_head, defBody s_l_some_head, defScope s_l_some_head, [], []⟩
def d_l_entries : He.DefD := ⟨("_law_entries", none), "_law_entries", "_law_entries", defArgs s_l_entries, defBody s_l_entries, defScope s_l_entries, [], []⟩
def d_l_due : He.DefD := ⟨("_law_due", none), "_law_due", "_law_due", defArgs s_l_due, defBody s_l_due, defScope s_l_due, [], []⟩
def d_l_life : He.DefD := ⟨("_law_life", none), "_law_life", "_law_life", defArgs s_l_life, defBody s_l_life, defScope s_l_life, [], []⟩
def d_l_told : He.DefD := ⟨("_law_told", none), "_law_told", "_law_told", defArgs s_l_told, defBody s_l_told, defScope s_l_told, [], []⟩
def d_law : He.DefD := ⟨("law", none), "law", "law", defArgs s_law, defBody s_law, defScope s_law, [], []⟩
def fn : List He.DefD := [d_came_rows, d_kept_of, d_too_near, d_l_deck, d_l_draw, d_l_unlike, d_l_menus, d_l_end, d_l_deed, d_l_spot, d_l_changes, d_l_changed, d_l_sized, d_l_early, d_l_lates, d_l_right, d_l_lived, d_l_words, d_l_answer, d_l_kept, d_l_head, d_l_some_head, d_l_entries, d_l_due, d_l_life, d_l_told, d_law]
def fa : List He.Fa := [.glo "came_rows", .glo "kept_of", .glo "too_near", .glo "_law_deck", .glo "_law_draw", .glo "_law_unlike", .glo "_law_menus", .glo "_law_end", .glo "_law_deed", .glo "_law_spot", .glo "_law_changes", .glo "_law_changed", .glo "_law_sized", .glo "_law_early", .glo "_law_lates", .glo "_law_right", .glo "_law_lived", .glo "_law_words", .glo "_law_answer", .glo "_law_kept", .glo "_law_head", .glo "_law_some_head", .glo "_law_entries", .glo "_law_due", .glo "_law_life", .glo "_law_told", .glo "law", .free "abs", .free "bool", .free "dict", .free "enumerate", .free "int", .free "isinstance", .free "len", .free "list", .free "max", .free "min", .free "range", .free "sorted", .free "sum", .free "tuple"]
abbrev R : PySem.W.OpenRow := PySem.W.OpenLaw.row PySem.Challenge.rw_oncedoor_k72_too_near
abbrev hk : PySem.W.Hook := He.hookD 4 fa fn
def ob (s : PySem.W.SharedT) : He.AlD := He.obsDG 4 fa fn (HandSHeadRun.getT s)
theorem ob_eq (s : PySem.W.SharedT) : ob s = hk.obs s.abs := He.obsDG_eq (HandSHeadRun.getT_eq s)
theorem run (w : World) : HandSHeadRun.RunEq R (PySem.W.view R.prog [30]) hk ob 3000 ["came_rows", "kept_of", "too_near", "_law_deck", "_law_draw", "_law_unlike", "_law_end", "_law_deed", "_law_words", "_law_answer", "_law_menus", "_law_spot", "_law_kept", "_law_head", "_law_body", "_law_early", "_law_lates", "_law_changes", "_law_changed", "_law_sized", "_law_right", "_law_lived", "_law_some_head", "_law_entries", "_law_due", "_law_life", "_law_told"] w := by
  intro os
  kernel_rfl
theorem facts {P : Program} {w : World} {K : PySem.W.Frag} {h : Heap} {mg : Str → Option Value} {f : Addr} (X : K.In h) (G0 : h.Ns mainGlobals mg) (hfa : mg ("law" : Str) = some (.ref f)) (c : He.SaysD fa fn K) :
    ∃ fd : FuncData, (∀ (s : Shared) (v : Value), BindsTo s fd ⟨[v], []⟩ [("_law_script", v)]) ∧ ∀ base : Heap, K.In base → base.Ns mainGlobals mg → FnOk P w K mg base CX0 7 f fd ["_law_script"] (spV K spLaw) := by
  obtain ⟨fd_came_rows, F_came_rows⟩ := c.def_ 0 (d := d_came_rows) rfl
  have b_came_rows : Binds K fd_came_rows ["rows"] [] := F_came_rows.bindsN fun _ _ _ _ _ _ us hl => match us, hl with | [_], _ => rfl
  obtain ⟨fd_kept_of, F_kept_of⟩ := c.def_ 1 (d := d_kept_of) rfl
  have b_kept_of : Binds K fd_kept_of ["rows"] [] := F_kept_of.bindsN fun _ _ _ _ _ _ us hl => match us, hl with | [_], _ => rfl
  obtain ⟨fd_too_near, F_too_near⟩ := c.def_ 2 (d := d_too_near) rfl
  have b_too_near : Binds K fd_too_near ["rows", "life"] [] := F_too_near.bindsN fun _ _ _ _ _ _ us hl => match us, hl with | [_, _], _ => rfl
  obtain ⟨fd_l_deck, F_l_deck⟩ := c.def_ 3 (d := d_l_deck) rfl
  have b_l_deck : Binds K fd_l_deck ["_law_script"] [] := F_l_deck.bindsN fun _ _ _ _ _ _ us hl => match us, hl with | [_], _ => rfl
  obtain ⟨fd_l_draw, F_l_draw⟩ := c.def_ 4 (d := d_l_draw) rfl
  have b_l_draw : Binds K fd_l_draw ["_law_deck_here", "_law_many"] [] := F_l_draw.bindsN fun _ _ _ _ _ _ us hl => match us, hl with | [_, _], _ => rfl
  obtain ⟨fd_l_unlike, F_l_unlike⟩ := c.def_ 5 (d := d_l_unlike) rfl
  have b_l_unlike : Binds K fd_l_unlike ["_law_deck_here", "_law_signs", "_law_longest", "_law_many"] [] := F_l_unlike.bindsN fun _ _ _ _ _ _ us hl => match us, hl with | [_, _, _, _], _ => rfl
  obtain ⟨fd_l_menus, F_l_menus⟩ := c.def_ 6 (d := d_l_menus) rfl
  have b_l_menus : Binds K fd_l_menus ["_law_deck_here"] [] := F_l_menus.bindsN fun _ _ _ _ _ _ us hl => match us, hl with | [_], _ => rfl
  obtain ⟨fd_l_end, F_l_end⟩ := c.def_ 7 (d := d_l_end) rfl
  have b_l_end : Binds K fd_l_end ["_law_deck_here", "_law_many"] [] := F_l_end.bindsN fun _ _ _ _ _ _ us hl => match us, hl with | [_, _], _ => rfl
  obtain ⟨fd_l_deed, F_l_deed⟩ := c.def_ 8 (d := d_l_deed) rfl
  have b_l_deed : Binds K fd_l_deed ["_law_deck_here", "_law_names", "_law_houses"] [] := F_l_deed.bindsN fun _ _ _ _ _ _ us hl => match us, hl with | [_, _, _], _ => rfl
  obtain ⟨fd_l_spot, F_l_spot⟩ := c.def_ 9 (d := d_l_spot) rfl
  have b_l_spot : Binds K fd_l_spot ["_law_deck_here", "_law_menus_here"] [] := F_l_spot.bindsN fun _ _ _ _ _ _ us hl => match us, hl with | [_, _], _ => rfl
  obtain ⟨fd_l_changes, F_l_changes⟩ := c.def_ 10 (d := d_l_changes) rfl
  have b_l_changes : Binds K fd_l_changes ["_law_deed_here", "_law_answer_here"] [] := F_l_changes.bindsN fun _ _ _ _ _ _ us hl => match us, hl with | [_, _], _ => rfl
  obtain ⟨fd_l_changed, F_l_changed⟩ := c.def_ 11 (d := d_l_changed) rfl
  have b_l_changed : Binds K fd_l_changed ["_law_book", "_law_deed_here", "_law_answer_here"] [] := F_l_changed.bindsN fun _ _ _ _ _ _ us hl => match us, hl with | [_, _, _], _ => rfl
  obtain ⟨fd_l_sized, F_l_sized⟩ := c.def_ 12 (d := d_l_sized) rfl
  have b_l_sized : Binds K fd_l_sized ["_law_deck_here", "_law_book", "_law_deed_here"] [] := F_l_sized.bindsN fun _ _ _ _ _ _ us hl => match us, hl with | [_, _, _], _ => rfl
  obtain ⟨fd_l_early, F_l_early⟩ := c.def_ 13 (d := d_l_early) rfl
  have b_l_early : Binds K fd_l_early ["_law_book", "_law_deed_here"] [] := F_l_early.bindsN fun _ _ _ _ _ _ us hl => match us, hl with | [_, _], _ => rfl
  obtain ⟨fd_l_lates, F_l_lates⟩ := c.def_ 14 (d := d_l_lates) rfl
  have b_l_lates : Binds K fd_l_lates ["_law_book", "_law_deed_here"] [] := F_l_lates.bindsN fun _ _ _ _ _ _ us hl => match us, hl with | [_, _], _ => rfl
  obtain ⟨fd_l_right, F_l_right⟩ := c.def_ 15 (d := d_l_right) rfl
  have b_l_right : Binds K fd_l_right ["_law_deck_here", "_law_book", "_law_one"] [] := F_l_right.bindsN fun _ _ _ _ _ _ us hl => match us, hl with | [_, _, _], _ => rfl
  obtain ⟨fd_l_lived, F_l_lived⟩ := c.def_ 16 (d := d_l_lived) rfl
  have b_l_lived : Binds K fd_l_lived ["_law_deck_here", "_law_rows", "_law_menus_here", "_law_many"] [] := F_l_lived.bindsN fun _ _ _ _ _ _ us hl => match us, hl with | [_, _, _, _], _ => rfl
  obtain ⟨fd_l_words, F_l_words⟩ := c.def_ 17 (d := d_l_words) rfl
  have b_l_words : Binds K fd_l_words ["_law_deed_here", "_law_asked"] [] := F_l_words.bindsN fun _ _ _ _ _ _ us hl => match us, hl with | [_, _], _ => rfl
  obtain ⟨fd_l_answer, F_l_answer⟩ := c.def_ 18 (d := d_l_answer) rfl
  have b_l_answer : Binds K fd_l_answer ["_law_deck_here", "_law_deed_here", "_law_word"] [] := F_l_answer.bindsN fun _ _ _ _ _ _ us hl => match us, hl with | [_, _, _], _ => rfl
  obtain ⟨fd_l_kept, F_l_kept⟩ := c.def_ 19 (d := d_l_kept) rfl
  have b_l_kept : Binds K fd_l_kept ["_law_deck_here", "_law_menus_here", "_law_number", "_law_turn"] [] := F_l_kept.bindsN fun _ _ _ _ _ _ us hl => match us, hl with | [_, _, _, _], _ => rfl
  obtain ⟨fd_l_head, F_l_head⟩ := c.def_ 20 (d := d_l_head) rfl
  have b_l_head : Binds K fd_l_head ["_law_deck_here", "_law_menus_here"] [] := F_l_head.bindsN fun _ _ _ _ _ _ us hl => match us, hl with | [_, _], _ => rfl
  obtain ⟨fd_l_some_head, F_l_some_head⟩ := c.def_ 21 (d := d_l_some_head) rfl
  have b_l_some_head : Binds K fd_l_some_head ["_law_deck_here", "_law_menus_here"] [] := F_l_some_head.bindsN fun _ _ _ _ _ _ us hl => match us, hl with | [_, _], _ => rfl
  obtain ⟨fd_l_entries, F_l_entries⟩ := c.def_ 22 (d := d_l_entries) rfl
  have b_l_entries : Binds K fd_l_entries ["_law_rows"] [] := F_l_entries.bindsN fun _ _ _ _ _ _ us hl => match us, hl with | [_], _ => rfl
  obtain ⟨fd_l_due, F_l_due⟩ := c.def_ 23 (d := d_l_due) rfl
  have b_l_due : Binds K fd_l_due ["_law_rows", "_law_life_here"] [] := F_l_due.bindsN fun _ _ _ _ _ _ us hl => match us, hl with | [_, _], _ => rfl
  obtain ⟨fd_l_life, F_l_life⟩ := c.def_ 24 (d := d_l_life) rfl
  have b_l_life : Binds K fd_l_life ["_law_deck_here", "_law_rows"] [] := F_l_life.bindsN fun _ _ _ _ _ _ us hl => match us, hl with | [_, _], _ => rfl
  obtain ⟨fd_l_told, F_l_told⟩ := c.def_ 25 (d := d_l_told) rfl
  have b_l_told : Binds K fd_l_told ["_law_rows", "_law_life_here"] [] := F_l_told.bindsN fun _ _ _ _ _ _ us hl => match us, hl with | [_, _], _ => rfl
  obtain ⟨fd_law, F_law⟩ := c.def_ 26 (d := d_law) rfl
  have b_law : Binds K fd_law ["_law_script"] [] := F_law.bindsN fun _ _ _ _ _ _ us hl => match us, hl with | [_], _ => rfl
  have G : Glb K mg := {
    came_rows := ⟨_, fd_came_rows, F_came_rows, He.glo_ok X G0 (c.fact 0 (f := .glo "came_rows") rfl), b_came_rows⟩
    kept_of := ⟨_, fd_kept_of, F_kept_of, He.glo_ok X G0 (c.fact 1 (f := .glo "kept_of") rfl), b_kept_of⟩
    too_near := ⟨_, fd_too_near, F_too_near, He.glo_ok X G0 (c.fact 2 (f := .glo "too_near") rfl), b_too_near⟩
    l_deck := ⟨_, fd_l_deck, F_l_deck, He.glo_ok X G0 (c.fact 3 (f := .glo "_law_deck") rfl), b_l_deck⟩
    l_draw := ⟨_, fd_l_draw, F_l_draw, He.glo_ok X G0 (c.fact 4 (f := .glo "_law_draw") rfl), b_l_draw⟩
    l_unlike := ⟨_, fd_l_unlike, F_l_unlike, He.glo_ok X G0 (c.fact 5 (f := .glo "_law_unlike") rfl), b_l_unlike⟩
    l_menus := ⟨_, fd_l_menus, F_l_menus, He.glo_ok X G0 (c.fact 6 (f := .glo "_law_menus") rfl), b_l_menus⟩
    l_end := ⟨_, fd_l_end, F_l_end, He.glo_ok X G0 (c.fact 7 (f := .glo "_law_end") rfl), b_l_end⟩
    l_deed := ⟨_, fd_l_deed, F_l_deed, He.glo_ok X G0 (c.fact 8 (f := .glo "_law_deed") rfl), b_l_deed⟩
    l_spot := ⟨_, fd_l_spot, F_l_spot, He.glo_ok X G0 (c.fact 9 (f := .glo "_law_spot") rfl), b_l_spot⟩
    l_changes := ⟨_, fd_l_changes, F_l_changes, He.glo_ok X G0 (c.fact 10 (f := .glo "_law_changes") rfl), b_l_changes⟩
    l_changed := ⟨_, fd_l_changed, F_l_changed, He.glo_ok X G0 (c.fact 11 (f := .glo "_law_changed") rfl), b_l_changed⟩
    l_sized := ⟨_, fd_l_sized, F_l_sized, He.glo_ok X G0 (c.fact 12 (f := .glo "_law_sized") rfl), b_l_sized⟩
    l_early := ⟨_, fd_l_early, F_l_early, He.glo_ok X G0 (c.fact 13 (f := .glo "_law_early") rfl), b_l_early⟩
    l_lates := ⟨_, fd_l_lates, F_l_lates, He.glo_ok X G0 (c.fact 14 (f := .glo "_law_lates") rfl), b_l_lates⟩
    l_right := ⟨_, fd_l_right, F_l_right, He.glo_ok X G0 (c.fact 15 (f := .glo "_law_right") rfl), b_l_right⟩
    l_lived := ⟨_, fd_l_lived, F_l_lived, He.glo_ok X G0 (c.fact 16 (f := .glo "_law_lived") rfl), b_l_lived⟩
    l_words := ⟨_, fd_l_words, F_l_words, He.glo_ok X G0 (c.fact 17 (f := .glo "_law_words") rfl), b_l_words⟩
    l_answer := ⟨_, fd_l_answer, F_l_answer, He.glo_ok X G0 (c.fact 18 (f := .glo "_law_answer") rfl), b_l_answer⟩
    l_kept := ⟨_, fd_l_kept, F_l_kept, He.glo_ok X G0 (c.fact 19 (f := .glo "_law_kept") rfl), b_l_kept⟩
    l_head := ⟨_, fd_l_head, F_l_head, He.glo_ok X G0 (c.fact 20 (f := .glo "_law_head") rfl), b_l_head⟩
    l_some_head := ⟨_, fd_l_some_head, F_l_some_head, He.glo_ok X G0 (c.fact 21 (f := .glo "_law_some_head") rfl), b_l_some_head⟩
    l_entries := ⟨_, fd_l_entries, F_l_entries, He.glo_ok X G0 (c.fact 22 (f := .glo "_law_entries") rfl), b_l_entries⟩
    l_due := ⟨_, fd_l_due, F_l_due, He.glo_ok X G0 (c.fact 23 (f := .glo "_law_due") rfl), b_l_due⟩
    l_life := ⟨_, fd_l_life, F_l_life, He.glo_ok X G0 (c.fact 24 (f := .glo "_law_life") rfl), b_l_life⟩
    l_told := ⟨_, fd_l_told, F_l_told, He.glo_ok X G0 (c.fact 25 (f := .glo "_law_told") rfl), b_l_told⟩
    law := ⟨_, fd_law, F_law, He.glo_ok X G0 (c.fact 26 (f := .glo "law") rfl), b_law⟩
    n_abs := He.free_ok X G0 (c.fact 27 (f := .free "abs") rfl)
    n_bool := He.free_ok X G0 (c.fact 28 (f := .free "bool") rfl)
    n_dict := He.free_ok X G0 (c.fact 29 (f := .free "dict") rfl)
    n_enumerate := He.free_ok X G0 (c.fact 30 (f := .free "enumerate") rfl)
    n_int := He.free_ok X G0 (c.fact 31 (f := .free "int") rfl)
    n_isinstance := He.free_ok X G0 (c.fact 32 (f := .free "isinstance") rfl)
    n_len := He.free_ok X G0 (c.fact 33 (f := .free "len") rfl)
    n_list := He.free_ok X G0 (c.fact 34 (f := .free "list") rfl)
    n_max := He.free_ok X G0 (c.fact 35 (f := .free "max") rfl)
    n_min := He.free_ok X G0 (c.fact 36 (f := .free "min") rfl)
    n_range := He.free_ok X G0 (c.fact 37 (f := .free "range") rfl)
    n_sorted := He.free_ok X G0 (c.fact 38 (f := .free "sorted") rfl)
    n_sum := He.free_ok X G0 (c.fact 39 (f := .free "sum") rfl)
    n_tuple := He.free_ok X G0 (c.fact 40 (f := .free "tuple") rfl) }
  have e := hfa.symm.trans G.law.m
  have e2 : f = G.law.a := by injection e with e; injection e
  subst e2
  have bA := FunD.bindsA (ps := ["_law_script"]) G.law.F fun _ _ _ _ _ _ us hl => match us, hl with | [_], _ => rfl
  exact ⟨G.law.fd, fun s v => bA s [v] rfl, fun base _ _ => FnOk.cx0 (ok_law G) fun _ _ _ _ h => h⟩
end K72
open PySem PySem.W PySem.Calls PyProof.Rows
theorem PySem.Challenge.cw_oncedoor_k72_too_near_holds : PySem.Challenge.rw_oncedoor_k72_too_near.Holds := by
  w_on; o_law
  refine HandSHeadRun.head_any (r := OpenLaw.row PySem.Challenge.rw_oncedoor_k72_too_near) (q := view (OpenLaw.row PySem.Challenge.rw_oncedoor_k72_too_near).prog [30]) (H := K72.hk) (ob := K72.ob) (M := 3000) (loose := ["came_rows", "kept_of", "too_near", "_law_deck", "_law_draw", "_law_unlike", "_law_end", "_law_deed", "_law_words", "_law_answer", "_law_menus", "_law_spot", "_law_kept", "_law_head", "_law_body", "_law_early", "_law_lates", "_law_changes", "_law_changed", "_law_sized", "_law_right", "_law_lived", "_law_some_head", "_law_entries", "_law_due", "_law_life", "_law_told"]) (d := HandSHeadRun.topDef (OpenLaw.row PySem.Challenge.rw_oncedoor_k72_too_near).prog 30) (kwd := []) K72.ob_eq
    (by kernel_rfl) (fun s => by kernel_rfl) K72.run (by kernel_rfl) (by kernel_rfl) (by kernel_rfl) (by rfl) (by first | assumption | decide +kernel) (by decide +kernel) ⟨rfl, rfl, rfl, rfl, rfl, by decide +kernel⟩ ?hw ?hc
  case hw => w_witness2
  case hc =>
    refine L2.walk_ofE (l := PySem.Challenge.rw_oncedoor_k72_too_near) (n := 63) (k := 7) (x := "_law_script") (CX := L2.CX0) rfl (by decide) (by kernel_rfl) ⟨rfl, by decide, by decide⟩ ?F (fun _ _ _ _ z => z)
    intro w mg fa h Y G hmg0
    obtain ⟨K, KX, c⟩ := Y
    have hmg : mg ("law" : PySem.Str) = some (.ref fa) := by
      have e : (HandSHeadRun.topDef (OpenLaw.row PySem.Challenge.rw_oncedoor_k72_too_near).prog 30).name = ("law" : PySem.Str) := by kernel_rfl
      rw [← e]
      exact hmg0
    obtain ⟨fd, hb, hF⟩ := K72.facts (P := (PySem.Challenge.rw_oncedoor_k72_too_near).prog) (w := w) KX G hmg c
    exact ⟨K, fd, Dv.spV K Dv.spLaw, KX, hb, fun H a ns hl hO hS => Dv.law_in hl hO hS, hF⟩
