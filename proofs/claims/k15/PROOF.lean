import PyProof.Rows.All
import Wide.All
import OpenK.AllK
import Wide.FinOn
import HandS.ForMost
import HandS.Wide
import HandS.Defaults
import HandS.IsInst
import HandS.Style
import HandS.Flow
import HandS.Remove
import HandS.TupAny
import KE.SortData
import KE.SortKeyHeap
import HandS.Deep
import HandS.Small
import HandS.SortKw
import KE.DataFind
import PySem.Challenge.RW_hearsay_k15_sure_times_are_kept
set_option Elab.async false
set_option linter.all false
set_option maxRecDepth 100000
/-! A small interpreter over values, and what its values stand for in the heap. -/
namespace Ix
open PySem PySem.Spec PyProof.Rows L2

/-- values without a heap -/
inductive D where
  | non | bl (b : Bool) | int (i : Int) | str (x : Str)
  | tup (ds : List D) | lst (ds : List D) | scr (ns : List Int)
  | dK (kvs : List (Key × D)) | dT (kvs : List (List Key × D))
  | ins (c : Nat) (ds : List D)
  deriving Inhabited
/-- what of a value a name alone holds -/
inductive Ow where
  | no | top | lk | tp (os : List Ow)
/-- where the classes stand -/
structure Lk where
  K : PySem.W.Frag
  cA : Nat → Addr
  cF : Nat → List Str

mutual
inductive Rep (L : Lk) (S : Hp) : V → D → Prop
  | non : Rep L S .non .non
  | bl (b : Bool) : Rep L S (.bl b) (.bl b)
  | int (i : Int) : Rep L S (.int i) (.int i)
  | str (x : Str) : Rep L S (.str x) (.str x)
  | tup {a : Addr} {vs : List V} {ds : List D} : S a = some (.tup vs) → RepL L S vs ds → Rep L S (.ref a) (.tup ds)
  | lst {a : Addr} {vs : List V} {ds : List D} : S a = some (.lst vs) → RepL L S vs ds → Rep L S (.ref a) (.lst ds)
  | scr {a : Addr} {ns : List Int} : SqL L.K S a (ns.map V.int) → Rep L S (.ref a) (.scr ns)
  | dK {a : Addr} {kvs : List (Key × V)} {kds : List (Key × D)} : S a = some (.dK kvs) → kvs.map (·.1) = kds.map (·.1) → RepL L S (kvs.map (·.2)) (kds.map (·.2)) → Rep L S (.ref a) (.dK kds)
  | dT {a : Addr} {kvs : List (List Key × V)} {kds : List (List Key × D)} : S a = some (.dT kvs) → kvs.map (·.1) = kds.map (·.1) → RepL L S (kvs.map (·.2)) (kds.map (·.2)) → Rep L S (.ref a) (.dT kds)
  | ins {a dx : Addr} {c : Nat} {fs : List (Str × V)} {ds : List D} : S a = some (.ins (L.cA c) dx fs) → fs.map (·.1) = L.cF c → RepL L S (fs.map (·.2)) ds → Rep L S (.ref a) (.ins c ds)
inductive RepL (L : Lk) (S : Hp) : List V → List D → Prop
  | nil : RepL L S [] []
  | cons {v : V} {vs : List V} {d : D} {ds : List D} : Rep L S v d → RepL L S vs ds → RepL L S (v :: vs) (d :: ds)
end

section
variable {L : Lk} {S S' : Hp}
mutual
theorem Rep.mono (h : Same S S') : ∀ {v : V} {d : D}, Rep L S v d → Rep L S' v d
  | _, _, .non => .non
  | _, _, .bl b => .bl b
  | _, _, .int i => .int i
  | _, _, .str x => .str x
  | _, _, .tup e r => .tup (h _ _ e) (RepL.mono h r)
  | _, _, .lst e r => .lst (h _ _ e) (RepL.mono h r)
  | _, _, .scr e => .scr (h.seq e)
  | _, _, .dK e k r => .dK (h _ _ e) k (RepL.mono h r)
  | _, _, .dT e k r => .dT (h _ _ e) k (RepL.mono h r)
  | _, _, .ins e k r => .ins (h _ _ e) k (RepL.mono h r)
theorem RepL.mono (h : Same S S') : ∀ {vs : List V} {ds : List D}, RepL L S vs ds → RepL L S' vs ds
  | _, _, .nil => .nil
  | _, _, .cons a b => .cons (Rep.mono h a) (RepL.mono h b)
end
theorem RepL.length : ∀ {vs : List V} {ds : List D}, RepL L S vs ds → vs.length = ds.length
  | _, _, .nil => rfl
  | _, _, .cons _ b => congrArg (· + 1) (RepL.length b)
theorem RepL.get : ∀ {vs : List V} {ds : List D} {i : Nat} {d : D}, RepL L S vs ds → ds[i]? = some d → ∃ v, vs[i]? = some v ∧ Rep L S v d
  | _, _, _, _, .nil, e => by simp at e
  | _, _, 0, _, .cons r _, e => by simp at e; subst e; exact ⟨_, rfl, r⟩
  | _, _, i + 1, d, .cons _ t, e => by
    obtain ⟨v, h1, h2⟩ := RepL.get (i := i) (d := d) t (by simpa using e)
    exact ⟨v, by simpa using h1, h2⟩
theorem RepL.get' : ∀ {vs : List V} {ds : List D} {i : Nat} {v : V}, RepL L S vs ds → vs[i]? = some v → ∃ d, ds[i]? = some d ∧ Rep L S v d
  | _, _, _, _, .nil, e => by simp at e
  | _, _, 0, _, .cons r _, e => by simp at e; subst e; exact ⟨_, rfl, r⟩
  | _, _, i + 1, d, .cons _ t, e => by
    obtain ⟨v, h1, h2⟩ := RepL.get' (i := i) (v := d) t (by simpa using e)
    exact ⟨v, by simpa using h1, h2⟩
theorem RepL.append : ∀ {vs ws : List V} {ds es : List D}, RepL L S vs ds → RepL L S ws es → RepL L S (vs ++ ws) (ds ++ es)
  | _, _, _, _, .nil, s => s
  | _, _, _, _, .cons r t, s => .cons r (RepL.append t s)
theorem RepL.set {v : V} {d : D} (r : Rep L S v d) : ∀ {vs : List V} {ds : List D} (i : Nat), RepL L S vs ds → RepL L S (vs.set i v) (ds.set i d)
  | _, _, _, .nil => .nil
  | _, _, 0, .cons _ t => .cons r t
  | _, _, i + 1, .cons q t => .cons q (RepL.set r i t)
theorem RepL.take : ∀ {vs : List V} {ds : List D} (n : Nat), RepL L S vs ds → RepL L S (vs.take n) (ds.take n)
  | _, _, 0, _ => .nil
  | _, _, _ + 1, .nil => .nil
  | _, _, n + 1, .cons r t => .cons r (RepL.take n t)
theorem RepL.drop : ∀ {vs : List V} {ds : List D} (n : Nat), RepL L S vs ds → RepL L S (vs.drop n) (ds.drop n)
  | _, _, 0, r => r
  | _, _, _ + 1, .nil => .nil
  | _, _, n + 1, .cons _ t => RepL.drop n t
theorem RepL.reverse {vs : List V} {ds : List D} (h : RepL L S vs ds) : RepL L S vs.reverse ds.reverse := by
  induction vs generalizing ds with
  | nil => cases h; exact .nil
  | cons v vs ih =>
    cases h with
    | cons a b => rw [List.reverse_cons, List.reverse_cons]; exact (ih b).append (.cons a .nil)
theorem RepL.rep {vs : List V} {ds : List D} (h : RepL L S vs ds) : ∀ k : Nat, RepL L S (List.replicate k vs).flatten (List.replicate k ds).flatten
  | 0 => .nil
  | k + 1 => by rw [List.replicate_succ, List.replicate_succ, List.flatten_cons, List.flatten_cons]; exact h.append (RepL.rep h k)
theorem RepL.nilD {vs : List V} (h : RepL L S vs []) : vs = [] := by cases h; rfl
theorem RepL.ints : ∀ ns : List Int, RepL L S (ns.map V.int) (ns.map D.int)
  | [] => .nil
  | n :: ns => .cons (.int n) (RepL.ints ns)
theorem RepL.intsV : ∀ {vs : List V} {ns : List Int}, RepL L S vs (ns.map D.int) → vs = ns.map V.int
  | _, [], h => by cases h; rfl
  | _, n :: ns, h => by
    cases h with
    | cons a b => cases a; rw [RepL.intsV b]; rfl
end

/-! ### heaps in parts -/
/-- what of H' may be read: of what stood in H the part S, of what is new all but F -/
def grow (S H H' : Hp) (F : List Addr) : Hp := fun a => if a ∈ F then none else match H a with
  | none => H' a
  | some _ => S a
/-- S and what stands at W -/
def vis (S H : Hp) (W : List Addr) : Hp := fun a => if a ∈ W then H a else S a
section
variable {S S' H H1 H2 H' : Hp} {F F1 F2 W W' : List Addr} {a : Addr} {o : HO}
theorem grow_in (h : a ∈ F) : grow S H H' F a = none := by unfold grow; rw [if_pos h]
theorem grow_new (h : a ∉ F) (n : H a = none) : grow S H H' F a = H' a := by unfold grow; rw [if_neg h, n]
theorem grow_old (h : a ∉ F) (n : H a = some o) : grow S H H' F a = S a := by unfold grow; rw [if_neg h, n]
theorem grow_some (h : grow S H H' F a = some o) : a ∉ F ∧ ((H a = none ∧ H' a = some o) ∨ ((∃ u, H a = some u) ∧ S a = some o)) := by
  by_cases hf : a ∈ F
  · rw [grow_in hf] at h; cases h
  · refine ⟨hf, ?_⟩
    cases e : H a with
    | none => rw [grow_new hf e] at h; exact .inl ⟨rfl, h⟩
    | some u => rw [grow_old hf e] at h; exact .inr ⟨⟨u, rfl⟩, h⟩
theorem grow_sub (hS : Same S H) (hH : Same H H') : Same (grow S H H' F) H' := fun a o h => by
  rcases (grow_some h).2 with ⟨_, e⟩ | ⟨_, e⟩
  · exact e
  · exact hH _ _ (hS _ _ e)
theorem grow_keep (hS : Same S H) (hF : ∀ a ∈ F, H a = none) : Same S (grow S H H' F) := fun a o h => by
  have e := hS _ _ h
  rw [grow_old (fun z => by rw [hF a z] at e; cases e) e]
  exact h
theorem grow_monoS (h : Same S S') : Same (grow S H H' F) (grow S' H H' F) := fun a o e => by
  obtain ⟨hf, e⟩ := grow_some e
  rcases e with ⟨n, e⟩ | ⟨⟨u, n⟩, e⟩
  · rw [grow_new hf n]; exact e
  · rw [grow_old hf n]; exact h _ _ e
theorem grow_drop : Same (grow S H H' F) (grow S H H' []) := fun a o e => by
  obtain ⟨hf, e⟩ := grow_some e
  rcases e with ⟨n, e⟩ | ⟨⟨u, n⟩, e⟩
  · rw [grow_new (by simp) n]; exact e
  · rw [grow_old (by simp) n]; exact e
/-- later, with more new things set aside -/
theorem grow_later (hS : Same S H) (h1 : Same H H1) (h2 : Same H1 H2) (hF : ∀ a ∈ F2, H1 a = none) : Same (grow S H H1 F1) (grow S H H2 (F1 ++ F2)) := fun a o e => by
  have e1 := grow_sub hS h1 _ _ e
  obtain ⟨hf, e⟩ := grow_some e
  have hf2 : a ∉ F1 ++ F2 := fun z => (List.mem_append.mp z).elim hf fun z => by rw [hF a z] at e1; cases e1
  rcases e with ⟨n, e⟩ | ⟨⟨u, n⟩, e⟩
  · rw [grow_new hf2 n]; exact h2 _ _ e
  · rw [grow_old hf2 n]; exact e
theorem grow_later0 (h2 : Same H1 H2) : Same (grow S H H1 F) (grow S H H2 F) := fun a o e => by
  obtain ⟨hf, e⟩ := grow_some e
  rcases e with ⟨n, e⟩ | ⟨⟨u, n⟩, e⟩
  · rw [grow_new hf n]; exact h2 _ _ e
  · rw [grow_old hf n]; exact e
/-- from an earlier heap -/
theorem grow_base (hS : Same S H) (h1 : Same H H1) (hF : ∀ a ∈ F1, H a = none) (hD : ∀ a ∈ F1, ∃ u, H1 a = some u) : Same (grow S H1 H2 F2) (grow S H H2 (F1 ++ F2)) := fun a o e => by
  obtain ⟨hf, e⟩ := grow_some e
  rcases e with ⟨n, e⟩ | ⟨⟨u, n⟩, e⟩
  · have hn : H a = none := h1.free n
    have hf2 : a ∉ F1 ++ F2 := fun z => (List.mem_append.mp z).elim (fun z => by obtain ⟨u, q⟩ := hD a z; rw [n] at q; cases q) hf
    rw [grow_new hf2 hn]; exact e
  · have e1 := hS _ _ e
    have hf2 : a ∉ F1 ++ F2 := fun z => (List.mem_append.mp z).elim (fun z => by rw [hF a z] at e1; cases e1) hf
    rw [grow_old hf2 e1]; exact e
theorem grow_base0 (hS : Same S H) (h1 : Same H H1) : Same (grow S H1 H2 F) (grow S H H2 F) := fun a o e => by
  obtain ⟨hf, e⟩ := grow_some e
  rcases e with ⟨n, e⟩ | ⟨⟨u, n⟩, e⟩
  · rw [grow_new hf (h1.free n)]; exact e
  · rw [grow_old hf (hS _ _ e)]; exact e
theorem vis_in (h : a ∈ W) : vis S H W a = H a := by unfold vis; rw [if_pos h]
theorem vis_out (h : a ∉ W) : vis S H W a = S a := by unfold vis; rw [if_neg h]
theorem vis_sub (hS : Same S H) : Same (vis S H W) H := fun a o e => by
  by_cases h : a ∈ W
  · rw [vis_in h] at e; exact e
  · rw [vis_out h] at e; exact hS _ _ e
theorem vis_ge (hS : Same S H) : Same S (vis S H W) := fun a o e => by
  by_cases h : a ∈ W
  · rw [vis_in h]; exact hS _ _ e
  · rw [vis_out h]; exact e
theorem vis_mono (hS : Same S H) (hW : ∀ a ∈ W, a ∈ W') : Same (vis S H W) (vis S H W') := fun a o e => by
  by_cases h : a ∈ W'
  · rw [vis_in h]; exact vis_sub hS _ _ e
  · rw [vis_out (fun z => h (hW a z))] at e; rw [vis_out h]; exact e
theorem vis_step (h : Same H H1) (hW : ∀ a ∈ W, ∃ u, H a = some u) : vis S H1 W = vis S H W := by
  funext a
  by_cases hw : a ∈ W
  · rw [vis_in hw, vis_in hw]
    obtain ⟨u, e⟩ := hW a hw
    rw [e, h _ _ e]
  · rw [vis_out hw, vis_out hw]
theorem vis_nil : vis S H [] = S := by funext a; rw [vis_out (by simp)]
end

/-! ### values of which a part is owned -/
mutual
inductive RepO (L : Lk) (S H : Hp) : V → D → Ow → List Addr → Prop
  | no {v : V} {d : D} : Rep L S v d → RepO L S H v d .no []
  | lst {a : Addr} {vs : List V} {ds : List D} {o : Ow} : o = .top ∨ o = .lk → H a = some (.lst vs) → RepL L S vs ds → RepO L S H (.ref a) (.lst ds) o [a]
  | dK {a : Addr} {kvs : List (Key × V)} {kds : List (Key × D)} {o : Ow} : o = .top ∨ o = .lk → H a = some (.dK kvs) → kvs.map (·.1) = kds.map (·.1) → RepL L S (kvs.map (·.2)) (kds.map (·.2)) → RepO L S H (.ref a) (.dK kds) o [a]
  | dT {a : Addr} {kvs : List (List Key × V)} {kds : List (List Key × D)} {o : Ow} : o = .top ∨ o = .lk → H a = some (.dT kvs) → kvs.map (·.1) = kds.map (·.1) → RepL L S (kvs.map (·.2)) (kds.map (·.2)) → RepO L S H (.ref a) (.dT kds) o [a]
  | tp {a : Addr} {vs : List V} {ds : List D} {os : List Ow} {F : List Addr} : S a = some (.tup vs) → RepOs L S H vs ds os F → RepO L S H (.ref a) (.tup ds) (.tp os) F
inductive RepOs (L : Lk) (S H : Hp) : List V → List D → List Ow → List Addr → Prop
  | nil : RepOs L S H [] [] [] []
  | cons {v : V} {vs : List V} {d : D} {ds : List D} {o : Ow} {os : List Ow} {F1 F2 : List Addr} : RepO L S H v d o F1 → RepOs L S H vs ds os F2 → RepOs L S H (v :: vs) (d :: ds) (o :: os) (F1 ++ F2)
end
section
variable {L : Lk} {S S' H H' : Hp}
mutual
theorem RepO.dom : ∀ {v : V} {d : D} {o : Ow} {F : List Addr}, RepO L S H v d o F → ∀ a ∈ F, ∃ u, H a = some u
  | _, _, _, _, .no _, a, h => by simp at h
  | _, _, _, _, .lst _ e _, a, h => by rw [List.mem_singleton] at h; subst h; exact ⟨_, e⟩
  | _, _, _, _, .dK _ e _ _, a, h => by rw [List.mem_singleton] at h; subst h; exact ⟨_, e⟩
  | _, _, _, _, .dT _ e _ _, a, h => by rw [List.mem_singleton] at h; subst h; exact ⟨_, e⟩
  | _, _, _, _, .tp _ r, a, h => RepOs.dom r a h
theorem RepOs.dom : ∀ {vs : List V} {ds : List D} {os : List Ow} {F : List Addr}, RepOs L S H vs ds os F → ∀ a ∈ F, ∃ u, H a = some u
  | _, _, _, _, .nil, a, h => by simp at h
  | _, _, _, _, .cons r s, a, h => (List.mem_append.mp h).elim (RepO.dom r a) (RepOs.dom s a)
end
mutual
theorem RepO.nt : ∀ {v : V} {d : D} {o : Ow} {F : List Addr}, RepO L S H v d o F → ∀ a ∈ F, ∀ vs, H a ≠ some (.tup vs)
  | _, _, _, _, .no _, a, h, _ => by simp at h
  | _, _, _, _, .lst _ e _, a, h, _ => by rw [List.mem_singleton] at h; subst h; rw [e]; exact fun z => by cases z
  | _, _, _, _, .dK _ e _ _, a, h, _ => by rw [List.mem_singleton] at h; subst h; rw [e]; exact fun z => by cases z
  | _, _, _, _, .dT _ e _ _, a, h, _ => by rw [List.mem_singleton] at h; subst h; rw [e]; exact fun z => by cases z
  | _, _, _, _, .tp _ r, a, h, vs => RepOs.nt r a h vs
theorem RepOs.nt : ∀ {vs : List V} {ds : List D} {os : List Ow} {F : List Addr}, RepOs L S H vs ds os F → ∀ a ∈ F, ∀ vs, H a ≠ some (.tup vs)
  | _, _, _, _, .nil, a, h, _ => by simp at h
  | _, _, _, _, .cons r s, a, h, vs => (List.mem_append.mp h).elim (fun h => RepO.nt r a h vs) (fun h => RepOs.nt s a h vs)
end
mutual
theorem RepO.mono (hS : Same S S') : ∀ {v : V} {d : D} {o : Ow} {F : List Addr}, (∀ a ∈ F, H' a = H a) → RepO L S H v d o F → RepO L S' H' v d o F
  | _, _, _, _, _, .no r => .no (r.mono hS)
  | _, _, _, _, k, .lst p e r => .lst p ((k _ (by simp)).trans e) (r.mono hS)
  | _, _, _, _, k, .dK p e q r => .dK p ((k _ (by simp)).trans e) q (r.mono hS)
  | _, _, _, _, k, .dT p e q r => .dT p ((k _ (by simp)).trans e) q (r.mono hS)
  | _, _, _, _, k, .tp e r => .tp (hS _ _ e) (RepOs.mono hS k r)
theorem RepOs.mono (hS : Same S S') : ∀ {vs : List V} {ds : List D} {os : List Ow} {F : List Addr}, (∀ a ∈ F, H' a = H a) → RepOs L S H vs ds os F → RepOs L S' H' vs ds os F
  | _, _, _, _, _, .nil => .nil
  | _, _, _, _, k, .cons r s => .cons (RepO.mono hS (fun a h => k a (List.mem_append_left _ h)) r) (RepOs.mono hS (fun a h => k a (List.mem_append_right _ h)) s)
end
mutual
theorem RepO.drop (hS : Same S S') : ∀ {v : V} {d : D} {o : Ow} {F : List Addr}, (∀ a ∈ F, S' a = H a) → RepO L S H v d o F → Rep L S' v d
  | _, _, _, _, _, .no r => r.mono hS
  | _, _, _, _, k, .lst p e r => .lst ((k _ (by simp)).trans e) (r.mono hS)
  | _, _, _, _, k, .dK p e q r => .dK ((k _ (by simp)).trans e) q (r.mono hS)
  | _, _, _, _, k, .dT p e q r => .dT ((k _ (by simp)).trans e) q (r.mono hS)
  | _, _, _, _, k, .tp e r => .tup (hS _ _ e) (RepOs.drop hS k r)
theorem RepOs.drop (hS : Same S S') : ∀ {vs : List V} {ds : List D} {os : List Ow} {F : List Addr}, (∀ a ∈ F, S' a = H a) → RepOs L S H vs ds os F → RepL L S' vs ds
  | _, _, _, _, _, .nil => .nil
  | _, _, _, _, k, .cons r s => .cons (RepO.drop hS (fun a h => k a (List.mem_append_left _ h)) r) (RepOs.drop hS (fun a h => k a (List.mem_append_right _ h)) s)
end
end
end Ix
set_option Elab.async false
set_option linter.all false
set_option maxRecDepth 100000
namespace Ix
open PySem PySem.Spec PyProof.Rows L2

/-- the line below which lists, texts and ranges stay here -/
def szb : Nat := 16000000

/-! ### data as the library has it -/
mutual
def D.py : D → Option PyData
  | .non => some .none
  | .bl b => some (.bool b)
  | .int i => some (.int i)
  | .str x => some (.str x)
  | .tup ds => (D.pys ds).map .tuple
  | .lst ds => (D.pys ds).map .list
  | _ => none
def D.pys : List D → Option (List PyData)
  | [] => some []
  | d :: ds => match D.py d, D.pys ds with
    | some a, some b => some (a :: b)
    | _, _ => none
end
def D.pyD (d : D) : PyData := d.py.getD .none
mutual
/-- are there lists or dicts in it -/
def D.hasL : D → Bool
  | .non => false | .bl _ => false | .int _ => false | .str _ => false
  | .tup ds => D.hasLs ds
  | _ => true
def D.hasLs : List D → Bool
  | [] => false
  | d :: ds => d.hasL || D.hasLs ds
end
/-- is all of it that is not owned without lists and dicts -/
def D.cl1 (d : D) (o : Ow) : Bool := match o, d with
  | .no, d => !d.hasL
  | .top, .lst ds => !D.hasLs ds
  | .top, .dK kvs => !D.hasLs (kvs.map (·.2))
  | .top, .dT kvs => !D.hasLs (kvs.map (·.2))
  | _, _ => false
def D.cl (d : D) (o : Ow) : Bool := match o, d with
  | .tp os, .tup ds => (ds.zip os).all (fun p => p.1.cl1 p.2) && os.length == ds.length
  | .tp _, _ => false
  | o, d => d.cl1 o
/-- the key that a value is -/
def D.key : D → Option Key
  | .int i => some (.inl i)
  | .str x => some (.inr x)
  | _ => none
def D.keys : List D → Option (List Key)
  | [] => some []
  | d :: ds => match D.key d, D.keys ds with
    | some a, some b => some (a :: b)
    | _, _ => none
def keyD : Key → D
  | .inl i => .int i
  | .inr x => .str x
section
variable {κ : Type} [DecidableEq κ]
def look (kvs : List (κ × D)) (k : κ) : Option D := (kvs.find? fun kv => decide (kv.1 = k)).map (·.2)
def put (kvs : List (κ × D)) (k : κ) (v : D) : List (κ × D) :=
  if kvs.any (fun kv => decide (kv.1 = k)) then kvs.map (fun kv => if kv.1 = k then (kv.1, v) else kv) else kvs ++ [(k, v)]
end

/-! ### flags of results -/
inductive Fl where
  | own (o : Ow) (is : List Nat)
  | brw (i : Nat) (o : Ow)
def Fl.al : Fl → List Nat
  | .own _ is => is
  | .brw _ .no => []
  | .brw i _ => [i]
/-- what the items of a list are alias of -/
def Fl.el : Fl → List Nat
  | .own _ is => is
  | .brw _ .no => []
  | .brw _ .top => []
  | .brw _ .lk => []
  | .brw i (.tp _) => [i]
def Fl.ow : Fl → Ow
  | .own o _ => o
  | .brw _ _ => .no
abbrev R := D × Fl
abbrev Env := List (Option (D × Ow))
def sc (d : D) : Option R := some (d, .own .no [])
def als (rs : List R) : List Nat := (rs.map (·.2.al)).flatten
def Env.drp : Env → List Nat → Env
  | e, [] => e
  | e, i :: is => Env.drp (match e[i]? with
    | some (some (d, _)) => e.set i (some (d, .no))
    | _ => e) is

/-! ### syntax -/
inductive B1 where
  | len | abs | list | sorted | int | max | min | str
inductive B2 where
  | max | min
inductive Ty where
  | ty (n : String) | cls (c : Nat)
inductive Tg where
  | one (i : Nat) | many (is : List Nat)
mutual
inductive IE where
  | var (i : Nat) | int (n : Int) | non | bl (b : Bool) | str (x : Str)
  | bin (op : Operator) (a b : IE)
  | neg (a : IE) | not_ (a : IE)
  | cmp (op : CmpOp) (a b : IE)
  | chn (op op' : CmpOp) (a b c : IE)
  | bop (isAnd : Bool) (a : IE) (es : IEs)
  | ife (c a b : IE)
  | idx (a k : IE)
  | slc (a : IE) (lo hi : IEs)
  | rev (a : IE)
  | tup (es : IEs) | lst (es : IEs)
  | dKn | dTn | dK1 (k v : IE)
  | comp (elt : IE) (tg : Tg) (it : II) (ifs : IEs) (own : List Nat)
  | call (f : Nat) (es : IEs)
  | mk (c : Nat) (es : IEs)
  | meth (a : IE) (m : Nat) (es : IEs)
  | b1 (b : B1) (a : IE) | b2 (b : B2) (a c : IE)
  | srk (j : Nat) (a : IE) | cou (a k : IE)
  | isi (a : IE) (t : Ty)
  | fld (a : IE) (c j : Nat)
  | get2 (d k x : IE)
inductive IEs where
  | nil | cons (e : IE) (es : IEs)
inductive II where
  | ofE (e : IE) | rng1 (e : IE) | rng2 (a b : IE) | zip (a b : IE) | enm (a : IE)
end

/-! ### operations -/
def binop (op : Operator) (x y : R) : Option R := match op, x.1, y.1 with
  | .Add, .int i, .int j => sc (.int (i + j))
  | .Add, .lst a, .lst b => if a.length + b.length ≤ szb then some (.lst (a ++ b), .own .top (x.2.el ++ y.2.el)) else none
  | .Add, .str a, .str b => if a.length + b.length ≤ szb then sc (.str (a ++ b)) else none
  | .Sub, .int i, .int j => sc (.int (i - j))
  | .Mult, .int i, .int j => if i.natAbs.log2 + j.natAbs.log2 < 1000000 then sc (.int (i * j)) else none
  | .Mult, .lst a, .int j => if -1000000 ≤ j ∧ j ≤ 1000000 ∧ a.length * j.toNat ≤ szb then some (.lst (List.replicate j.toNat a).flatten, .own .top x.2.el) else none
  | .Mult, .str a, .int j => if a.length ≤ 1000 ∧ 0 ≤ j ∧ j ≤ 1000 then sc (.str (Txt.mul a j)) else none
  | .FloorDiv, .int i, .int j => if 0 < j ∧ j.natAbs.log2 < 9000 then sc (.int (i / j)) else none
  | .Mod, .int i, .int j => if 0 < j then sc (.int (i % j)) else none
  | .Pow, .int i, .int j => if 0 ≤ j ∧ j ≤ 1000000 ∧ i.natAbs < 2 ^ 64 then sc (.int (i ^ j.toNat)) else none
  | _, _, _ => none
def deq (x y : D) : Option Bool := match x.py, y.py with
  | some a, some b => if SeqAt.shaped a && SeqAt.shaped b then some (PyData.eqv a b) else none
  | _, _ => none
def din (x : D) (ds : List D) : Option Bool := match x.py, D.pys ds with
  | some a, some bs => if SeqAt.shaped a && SeqAt.shaped (.list bs) then some (bs.any fun z => PyData.eqv z a) else none
  | _, _ => none
def dhas (x y : D) : Option Bool := match y with
  | .lst ds => din x ds
  | .dK kvs => (D.key x).map fun k => (look kvs k).isSome
  | .dT kvs => match x with
    | .tup ks => (D.keys ks).map fun k => (look kvs k).isSome
    | _ => none
  | _ => none
def cmpop (op : CmpOp) (x y : D) : Option Bool := match op with
  | .Eq => deq x y
  | .NotEq => (deq x y).map not
  | .In => dhas x y
  | .NotIn => (dhas x y).map not
  | .Is => match x, y with
    | .bl a, .bl b => some (a == b)
    | x, .non => some (match x with | .non => true | _ => false)
    | _, _ => none
  | .IsNot => match x, y with
    | .bl a, .bl b => some (!(a == b))
    | x, .non => some (match x with | .non => false | _ => true)
    | _, _ => none
  | .Lt => match x, y with | .int i, .int j => some (decide (i < j)) | _, _ => none
  | .LtE => match x, y with | .int i, .int j => some (decide (i ≤ j)) | _, _ => none
  | .Gt => match x, y with | .int i, .int j => some (decide (j < i)) | _, _ => none
  | .GtE => match x, y with | .int i, .int j => some (decide (j ≤ i)) | _, _ => none
def tpAt : Ow → Nat → Ow
  | .tp os, j => match os[j]? with | some o => o | none => .no
  | _, _ => .no
/-- the flag of a tuple's item -/
def Fl.at (fl : Fl) (j : Nat) : Fl := match fl with
  | .own o is => .own (tpAt o j) is
  | .brw b o => .brw b (tpAt o j)
def idxop (x : R) (k : D) : Option R := match x.1, k with
  | .lst ds, .int i => (atI ds i).map fun d => (d, .own .no x.2.el)
  | .scr ns, .int i => (atI ns i).map fun n => (.int n, .own .no [])
  | .tup ds, .int i => (ixN ds.length i).bind fun j => (ds[j]?).map fun d => (d, x.2.at j)
  | .dK kvs, k => (D.key k).bind fun k => (look kvs k).map fun d => (d, .own .no x.2.el)
  | .dT kvs, .tup ks => (D.keys ks).bind fun k => (look kvs k).map fun d => (d, .own .no x.2.el)
  | _, _ => none
def cut {α : Type} (xs : List α) (lo hi : Option Int) : List α := (xs.drop (HT.sIx xs.length 0 lo)).take (HT.sIx xs.length xs.length hi - HT.sIx xs.length 0 lo)
def slcop (x : R) (lo hi : Option Int) : Option R := match x.1 with
  | .lst ds => some (.lst (cut ds lo hi), .own .top x.2.el)
  | .scr ns => some (.lst ((cut ns lo hi).map D.int), .own .top [])
  | .tup ds => if HT.sIx ds.length 0 lo = 0 ∧ HT.sIx ds.length ds.length hi = ds.length then none else some (.tup (cut ds lo hi), .own .no x.2.al)
  | _ => none
/-- sorted(xs): the premises and the answer -/
def sortable (ps : List PyData) : Bool := (ps.all fun a => ps.all fun b => PySem.W.alike a b) && ((ps.all fun a => match a with | .tuple (_ :: _) => true | _ => false) || (ps.all fun a => match a with | .int _ => true | .str _ => true | _ => false)) && ps.all fun a => decide (a.depth ≤ 8)
def sortD (ds : List D) : List D := ds.mergeSort (PySem.W.dataLe false D.pyD)
/-- the whole number at place j -/
def keyOf (j : Nat) : D → Option Int
  | .tup ds => match ds[j]? with | some (.int n) => some n | _ => none
  | _ => none
/-- sorted by the item at place j, the greatest first, stably -/
def sortK (j : Nat) (ds : List D) : List D := ds.mergeSort (PySem.W.dataLe true fun d => .int ((keyOf j d).getD 0))
def tyName : D → Option String
  | .non => some "NoneType" | .bl _ => some "bool" | .int _ => some "int" | .str _ => some "str"
  | .tup _ => some "tuple" | .lst _ => some "list" | .scr _ => some "list" | .dK _ => some "dict" | .dT _ => some "dict"
  | .ins _ _ => none
def listMax : List Int → Option Int
  | [] => none
  | x :: xs => some (xs.foldl max x)
def listMin : List Int → Option Int
  | [] => none
  | x :: xs => some (xs.foldl min x)
def asInts : List D → Option (List Int)
  | [] => some []
  | .int i :: ds => (asInts ds).map (i :: ·)
  | _ :: _ => none
def b1op (b : B1) (x : R) : Option R := match b, x.1 with
  | .len, .lst ds => sc (.int ds.length)
  | .len, .tup ds => sc (.int ds.length)
  | .len, .scr ns => sc (.int ns.length)
  | .abs, .int i => sc (.int (if i < 0 then -i else i))
  | .list, .lst ds => some (.lst ds, .own .top x.2.el)
  | .list, .tup ds => some (.lst ds, .own .top x.2.al)
  | .sorted, .lst ds => match D.pys ds with
    | some ps => if sortable ps ∧ ds.length ≤ szb then some (.lst (sortD ds), .own .top x.2.el) else none
    | none => none
  | .int, .int i => sc (.int i)
  | .int, .bl k => sc (.int (if k then 1 else 0))
  | .max, .lst ds => (asInts ds).bind fun ns => (listMax ns).bind fun m => sc (.int m)
  | .min, .lst ds => (asInts ds).bind fun ns => (listMin ns).bind fun m => sc (.int m)
  | .str, .int i => if i.natAbs.log2 < 1920 then sc (.str (toString i)) else none
  | _, _ => none
def srkop (j : Nat) (x : R) : Option R := match x.1 with
  | .lst ds => if (ds.all fun d => (keyOf j d).isSome) ∧ ds.length ≤ szb then some (.lst (sortK j ds), .own .top x.2.el) else none
  | _ => none
def couop (x y : D) : Option R := match x with
  | .lst ds => match y.py, D.pys ds with
    | some a, some bs => if SeqAt.shaped a && SeqAt.shaped (.list bs) then sc (.int ((bs.countP fun z => PyData.eqv z a : Nat) : Int)) else none
    | _, _ => none
  | _ => none
def b2op (b : B2) (x y : D) : Option R := match b, x, y with
  | .max, .int i, .int j => sc (.int (if j > i then j else i))
  | .min, .int i, .int j => sc (.int (if j < i then j else i))
  | _, _, _ => none
def getop (d : R) (k x : R) : Option R := match d.1, k.1 with
  | .dK kvs, k => (D.key k).map fun k => ((look kvs k).getD x.1, .own .no (d.2.el ++ x.2.al))
  | .dT kvs, .tup ks => (D.keys ks).map fun k => ((look kvs k).getD x.1, .own .no (d.2.el ++ x.2.al))
  | _, _ => none

def setAll (e : Env) : List Nat → List (D × Ow) → Env
  | i :: is, p :: ps => setAll (e.set i (some p)) is ps
  | _, _ => e
def bindT (tg : Tg) (d : D) (env : Env) : Option Env := match tg with
  | .one i => if i < env.length then some (env.set i (some (d, .no))) else none
  | .many is => match d with
    | .tup ds => if ds.length = is.length ∧ is.all (· < env.length) then some (setAll env is (ds.map fun d => (d, .no))) else none
    | _ => none
/-- may a range begin or end there -/
noncomputable def okR (i : Int) : Bool := @decide (-(2 ^ 62) ≤ i ∧ i < 2 ^ 62) (Classical.propDecidable _)
/-- is it below nought -/
noncomputable def okL (i : Int) : Bool := @decide (i < 0) (Classical.propDecidable _)
theorem okL_iff {i : Int} : okL i = true ↔ i < 0 := by unfold okL; exact @decide_eq_true_iff _ (Classical.propDecidable _)
theorem okR_iff {i : Int} : okR i = true ↔ -(2 ^ 62) ≤ i ∧ i < 2 ^ 62 := by unfold okR; exact @decide_eq_true_iff _ (Classical.propDecidable _)
def compL (f : D → Option (Option R)) : List D → Option (List D × List Nat)
  | [] => some ([], [])
  | d :: ds => (f d).bind fun r => (compL f ds).map fun q => match r with
    | some (x, fl) => (x :: q.1, fl.al ++ q.2)
    | none => q
/-- the functions, classes and methods that the code calls -/
structure Orc where
  call : Nat → List D → Option (D × Ow)
  make : Nat → List D → Option D
  meth : Nat → Nat → List D → Option (D × Ow)
  sub : Nat → Nat → Option Bool
def retF (is : List Nat) (r : D × Ow) : R := (r.1, .own r.2 (if is.isEmpty || r.1.cl r.2 then [] else is))
def isiop (G : Orc) (d : D) (t : Ty) : Option Bool := match d, t with
  | .ins c _, .cls c' => G.sub c c'
  | d, .ty n => (tyName d).bind fun m => kitB m n
  | _, _ => none

noncomputable section
mutual
def ev (G : Orc) (env : Env) : IE → Option R
  | .var i => match env[i]? with
    | some (some (d, o)) => some (d, .brw i o)
    | _ => none
  | .int n => sc (.int n)
  | .non => sc .non
  | .bl b => sc (.bl b)
  | .str x => sc (.str x)
  | .bin op a b => (ev G env a).bind fun x => (ev G env b).bind fun y => binop op x y
  | .neg a => (ev G env a).bind fun x => match x.1 with | .int i => sc (.int (-i)) | _ => none
  | .not_ a => (ev G env a).bind fun x => match x.1 with | .bl b => sc (.bl (!b)) | _ => none
  | .cmp op a b => (ev G env a).bind fun x => (ev G env b).bind fun y => (cmpop op x.1 y.1).bind fun b => sc (.bl b)
  | .chn op op' a b c => (ev G env a).bind fun x => (ev G env b).bind fun y => (cmpop op x.1 y.1).bind fun k =>
      if k then (ev G env c).bind fun z => (cmpop op' y.1 z.1).bind fun k' => sc (.bl k') else sc (.bl false)
  | .bop k a es => (ev G env a).bind fun x => match x.1 with
    | .bl b => if b = k then evB G env k b es else sc (.bl b)
    | _ => none
  | .ife c a b => (ev G env c).bind fun x => match x.1 with | .bl k => if k then ev G env a else ev G env b | _ => none
  | .idx a k => (ev G env a).bind fun x => (ev G env k).bind fun y => idxop x y.1
  | .slc a lo hi => (ev G env a).bind fun x => (evP G env lo).bind fun l => (evP G env hi).bind fun h => slcop x l h
  | .rev a => (ev G env a).bind fun x => match x.1 with | .lst ds => some (.lst ds.reverse, .own .top x.2.el) | _ => none
  | .tup es => (evs G env es).bind fun rs => some (.tup (rs.map (·.1)), .own (.tp (rs.map (·.2.ow))) (als rs))
  | .lst es => (evs G env es).bind fun rs => some (.lst (rs.map (·.1)), .own .top (als rs))
  | .dKn => some (.dK [], .own .top [])
  | .dTn => some (.dT [], .own .top [])
  | .dK1 k v => (ev G env k).bind fun x => (ev G env v).bind fun y => (D.key x.1).bind fun k => some (.dK [(k, y.1)], .own .top y.2.al)
  | .comp elt tg it ifs own => (evI G env it).bind fun p => match p.2.1 with
    | [] => if p.1.length ≤ szb then (compL (fun d => (bindT tg d (own.foldl (fun e i => e.set i none) env)).bind fun e => (evC G e ifs).bind fun k =>
        if k then (ev G e elt).map some else some none) p.1).map fun q => (.lst q.1, .own .top q.2) else none
    | _ => none
  | .call f es => (evs G env es).bind fun rs => (G.call f (rs.map (·.1))).map (retF (als rs))
  | .mk c es => (evs G env es).bind fun rs => (G.make c (rs.map (·.1))).map fun d => retF (als rs) (d, .no)
  | .meth a m es => (ev G env a).bind fun x => match x.1 with
    | .ins c ds => (evs G env es).bind fun rs => (G.meth c m (.ins c ds :: rs.map (·.1))).map (retF (x.2.al ++ als rs))
    | _ => none
  | .b1 b a => (ev G env a).bind fun x => b1op b x
  | .srk j a => (ev G env a).bind fun x => srkop j x
  | .cou a k => (ev G env a).bind fun x => (ev G env k).bind fun y => couop x.1 y.1
  | .b2 b a c => (ev G env a).bind fun x => (ev G env c).bind fun y => b2op b x.1 y.1
  | .isi a t => (ev G env a).bind fun x => (isiop G x.1 t).bind fun b => sc (.bl b)
  | .fld a c j => (ev G env a).bind fun x => match x.1 with
    | .ins c' ds => if c' = c then (ds[j]?).map fun d => (d, .own .no x.2.al) else none
    | _ => none
  | .get2 d k x => (ev G env d).bind fun a => (ev G env k).bind fun b => (ev G env x).bind fun c => getop a b c
def evs (G : Orc) (env : Env) : IEs → Option (List R)
  | .nil => some []
  | .cons e es => (ev G env e).bind fun x => (evs G env es).map (x :: ·)
/-- the rest of an and (k = true), of an or (k = false) -/
def evB (G : Orc) (env : Env) (k : Bool) (last : Bool) : IEs → Option R
  | .nil => sc (.bl last)
  | .cons e es => (ev G env e).bind fun x => match x.1 with
    | .bl b => if b = k then evB G env k b es else sc (.bl b)
    | _ => none
/-- a part of a slice -/
def evP (G : Orc) (env : Env) : IEs → Option (Option Int)
  | .nil => some none
  | .cons e .nil => (ev G env e).bind fun x => match x.1 with | .int i => some (some i) | _ => none
  | _ => none
/-- the tests of a comprehension -/
def evC (G : Orc) (env : Env) : IEs → Option Bool
  | .nil => some true
  | .cons e .nil => (ev G env e).bind fun x => match x.1 with | .bl b => some b | _ => none
  | _ => none
/-- the items, what they are alias of, what the walked things are alias of -/
def evI (G : Orc) (env : Env) : II → Option (List D × List Nat × List Nat)
  | .ofE e => (ev G env e).bind fun x => match x.1 with
    | .lst ds => some (ds, x.2.el, x.2.al)
    | .scr ns => some (ns.map D.int, [], x.2.al)
    | _ => none
  | .rng1 e => (ev G env e).bind fun x => match x.1 with | .int j => if okR j then some ((List.range j.toNat).map fun n : Nat => D.int n, [], []) else if okL j then some ([], [], []) else none | _ => none
  | .rng2 a b => (ev G env a).bind fun x => (ev G env b).bind fun y => match x.1, y.1 with
    | .int i, .int j => if okR i && okR j then some ((List.range (j - i).toNat).map fun n : Nat => D.int (i + n), [], []) else none
    | _, _ => none
  | .zip a b => (ev G env a).bind fun x => (ev G env b).bind fun y => match x.1, y.1 with
    | .lst xs, .lst ys => some ((xs.zip ys).map fun p => .tup [p.1, p.2], x.2.el ++ y.2.el, x.2.al ++ y.2.al)
    | _, _ => none
  | .enm a => (ev G env a).bind fun x => match x.1 with
    | .lst xs => some ((xs.zipIdx).map fun p => .tup [.int p.2, p.1], x.2.el, x.2.al)
    | _ => none
end

end
/-! ### statements -/
inductive Out where
  | nx (e : Env) | ct (e : Env) | bk (e : Env) | rt (d : D) (o : Ow)
mutual
inductive IS where
  | set (i : Nat) (e : IE)
  | setT (is : List Nat) (e : IE)
  | par (is : List Nat) (es : IEs)
  | put (i : Nat) (k e : IE)
  | aug (i : Nat) (e : IE)
  | app (i : Nat) (e : IE) | ext (i : Nat) (e : IE) | clr (i : Nat)
  | expr (e : IE)
  | ret (e : IE) | retT (es : IEs) | retN
  | ifs (c : IE) (a b : ISs)
  | for_ (tg : Tg) (it : II) (b : ISs)
  | while_ (c : IE) (b : ISs)
  | cont | brk | pass | never
inductive ISs where
  | nil | cons (s : IS) (r : ISs)
end
def forL (f : D → Env → Option Out) (tg : Tg) : List D → Env → Option Out
  | [], e => some (.nx e)
  | d :: ds, e => (bindT tg d e).bind fun e1 => (f d e1).bind fun o => match o with
    | .nx e' => forL f tg ds e'
    | .ct e' => forL f tg ds e'
    | .bk e' => some (.nx e')
    | .rt d o => some (.rt d o)
/-- a while, with so many turns at most -/
def whileL (c : Env → Option Bool) (f : Env → Option Out) : Nat → Env → Option Out
  | 0, _ => none
  | n + 1, e => (c e).bind fun k => if k then (f e).bind fun o => match o with
    | .nx e' => whileL c f n e'
    | .ct e' => whileL c f n e'
    | .bk e' => some (.nx e')
    | .rt d o => some (.rt d o) else some (.nx e)
def turns : Nat := 1000000
noncomputable section
def blOf (x : R) : Option Bool := match x.1 with | .bl b => some b | _ => none
def evT (G : Orc) (env : Env) (e : IE) : Option Bool := (ev G env e).bind blOf
end
/-- the slots are lent to a loop: their things may not be changed until it ends; which ones were lent -/
def Env.lock : Env → List Nat → Env × List Nat
  | e, [] => (e, [])
  | e, i :: is => match e[i]? with
    | some (some (d, .top)) => ((Env.lock (e.set i (some (d, .lk))) is).1, i :: (Env.lock (e.set i (some (d, .lk))) is).2)
    | some (some (d, .tp _)) => Env.lock (e.set i (some (d, .no))) is
    | _ => Env.lock e is
def Env.unlock : Env → List Nat → Env
  | e, [] => e
  | e, i :: is => Env.unlock (match e[i]? with | some (some (d, .lk)) => e.set i (some (d, .top)) | _ => e) is
def Out.unlock (o : Out) (l : List Nat) : Out := match o with
  | .nx e => .nx (e.unlock l)
  | o => o
/-- what a name at the return hands on -/
def movOw : Ow → Ow
  | .lk => .no
  | o => o
def Fl.rt : Fl → Ow
  | .own o _ => o
  | .brw _ o => movOw o
def cnt (W : List Nat) (i : Nat) : Nat := (W.filter (· == i)).length
/-- each item of a returned tuple: what it hands on; a slot may be handed on once, and by no other item -/
def retO (W : List Nat) (r : R) : Ow := match r.2 with
  | .own o _ => o
  | .brw i .top => if cnt W i ≤ 1 then .top else .no
  | .brw i (.tp os) => if cnt W i ≤ 1 then .tp os else .no
  | .brw _ _ => .no
def retOs (rs : List R) : List Ow := rs.map (retO (als rs))
noncomputable section
mutual
def ex (G : Orc) (env : Env) : IS → Option Out
  | .set i e => (ev G env e).bind fun x => if i < env.length then some (.nx ((env.drp x.2.al).set i (some (x.1, x.2.ow)))) else none
  | .setT is e => (ev G env e).bind fun x => match x.1 with
    | .tup ds => if ds.length = is.length ∧ is.all (· < env.length) then some (.nx (setAll (env.drp x.2.al) is (ds.map fun d => (d, .no)))) else none
    | _ => none
  | .par is es => (evs G env es).bind fun rs => if rs.length = is.length ∧ is.all (· < env.length) then some (.nx (setAll (env.drp (als rs)) is (rs.map fun r => (r.1, r.2.ow)))) else none
  | .put i k e => (ev G env e).bind fun x => (ev G env k).bind fun y => match (env.drp x.2.al)[i]? with
    | some (some (.lst ds, .top)) => match y.1 with
      | .int j => (ixN ds.length j).map fun j => .nx ((env.drp x.2.al).set i (some (.lst (ds.set j x.1), .top)))
      | _ => none
    | some (some (.dK kvs, .top)) => (D.key y.1).bind fun k => if kvs.length < szb then some (.nx ((env.drp x.2.al).set i (some (.dK (put kvs k x.1), .top)))) else none
    | some (some (.dT kvs, .top)) => match y.1 with
      | .tup ks => (D.keys ks).bind fun k => if kvs.length < szb then some (.nx ((env.drp x.2.al).set i (some (.dT (put kvs k x.1), .top)))) else none
      | _ => none
    | _ => none
  | .aug i e => match env[i]? with
    | some (some (.int a, _)) => (ev G env e).bind fun x => match x.1 with
      | .int b => some (.nx (env.set i (some (.int (a + b), .no))))
      | _ => none
    | _ => none
  | .app i e => (ev G env e).bind fun x => match (env.drp x.2.al)[i]? with
    | some (some (.lst ds, .top)) => if ds.length < szb then some (.nx ((env.drp x.2.al).set i (some (.lst (ds ++ [x.1]), .top)))) else none
    | _ => none
  | .ext i e => (ev G env e).bind fun x => match (env.drp x.2.al)[i]?, x.1 with
    | some (some (.lst ds, .top)), .lst es => if ds.length + es.length ≤ szb then some (.nx ((env.drp x.2.al).set i (some (.lst (ds ++ es), .top)))) else none
    | _, _ => none
  | .clr i => match env[i]? with
    | some (some (.lst _, .top)) => some (.nx (env.set i (some (.lst [], .top))))
    | _ => none
  | .expr e => (ev G env e).bind fun _ => some (.nx env)
  | .ret e => (ev G env e).bind fun x => some (.rt x.1 x.2.rt)
  | .retT es => (evs G env es).bind fun rs => some (.rt (.tup (rs.map (·.1))) (.tp (retOs rs)))
  | .retN => some (.rt .non .no)
  | .ifs c a b => (evT G env c).bind fun k => if k then exs G env a else exs G env b
  | .for_ tg it b => (evI G env it).bind fun p => (forL (fun _ e => exs G e b) tg p.1 ((env.drp p.2.1).lock p.2.2).1).map fun o => o.unlock ((env.drp p.2.1).lock p.2.2).2
  | .while_ c b => whileL (fun e => evT G e c) (fun e => exs G e b) turns env
  | .cont => some (.ct env)
  | .brk => some (.bk env)
  | .pass => some (.nx env)
  | .never => none
def exs (G : Orc) (env : Env) : ISs → Option Out
  | .nil => some (.nx env)
  | .cons s r => (ex G env s).bind fun o => match o with
    | .nx e => exs G e r
    | o => some o
end
end
end Ix
set_option Elab.async false
set_option linter.all false
set_option maxRecDepth 100000
namespace Ix
open PySem PySem.Spec PyProof.Rows L2

/-! ### results -/
def fsOf (Fs : List (List Addr)) (is : List Nat) : List Addr := (is.map fun i => Fs.getD i []).flatten
section
variable {Fs : List (List Addr)} {is js : List Nat} {a : Addr} {i : Nat}
theorem mem_getD (h : a ∈ Fs.getD i []) : a ∈ Fs.flatten := by
  rw [List.getD_eq_getElem?_getD] at h
  cases e : Fs[i]? with
  | none => rw [e] at h; simp at h
  | some F => rw [e] at h; exact List.mem_flatten.mpr ⟨F, List.mem_of_getElem? e, h⟩
theorem mem_fsOf : a ∈ fsOf Fs is ↔ ∃ i ∈ is, a ∈ Fs.getD i [] := by
  unfold fsOf
  rw [List.mem_flatten]
  constructor
  · rintro ⟨F, hF, ha⟩
    obtain ⟨i, hi, rfl⟩ := List.mem_map.mp hF
    exact ⟨i, hi, ha⟩
  · rintro ⟨i, hi, ha⟩
    exact ⟨_, List.mem_map.mpr ⟨i, hi, rfl⟩, ha⟩
theorem fsOf_all (h : a ∈ fsOf Fs is) : a ∈ Fs.flatten := let ⟨_, _, q⟩ := mem_fsOf.mp h; mem_getD q
theorem fsOf_mono (h : ∀ i ∈ is, i ∈ js) : ∀ a ∈ fsOf Fs is, a ∈ fsOf Fs js := fun a ha => let ⟨i, hi, q⟩ := mem_fsOf.mp ha; mem_fsOf.mpr ⟨i, h i hi, q⟩
theorem fsOf_nil : fsOf Fs [] = [] := rfl
end
structure EB (S : Hp) (Fs : List (List Addr)) (H : Hp) : Prop where
  sub : Same S H
  own : ∀ a ∈ Fs.flatten, ∃ u, H a = some u
  nt : ∀ a ∈ Fs.flatten, ∀ vs, H a ≠ some (.tup vs)
def Res (L : Lk) (S : Hp) (Fs : List (List Addr)) (H H' : Hp) (v : V) (d : D) : Fl → Prop
  | .own o is => ∃ F, F.Nodup ∧ (∀ a ∈ F, H a = none) ∧ RepO L (grow (vis S H (fsOf Fs is)) H H' F) H' v d o F
  | .brw i o => ∃ F, F.Nodup ∧ (∀ a ∈ F, a ∈ Fs.getD i []) ∧ RepO L (grow S H H' []) H' v d o F
/-- several results, one behind the other; X: all that is new and owned -/
inductive ResL (L : Lk) (S : Hp) (Fs : List (List Addr)) (H H' : Hp) (X : List Addr) : List V → List R → List Addr → Prop
  | nil : ResL L S Fs H H' X [] [] []
  | own {v : V} {vs : List V} {d : D} {o : Ow} {is : List Nat} {rs : List R} {F F2 : List Addr} : RepO L (grow (vis S H (fsOf Fs is)) H H' X) H' v d o F → ResL L S Fs H H' X vs rs F2 → ResL L S Fs H H' X (v :: vs) ((d, .own o is) :: rs) (F ++ F2)
  | brw {v : V} {vs : List V} {d : D} {o : Ow} {i : Nat} {rs : List R} {F F2 : List Addr} : F.Nodup → (∀ a ∈ F, a ∈ Fs.getD i []) → RepO L (grow S H H' X) H' v d o F → ResL L S Fs H H' X vs rs F2 → ResL L S Fs H H' X (v :: vs) ((d, .brw i o) :: rs) F2
/-- the slots -/
def REnv (L : Lk) (S : Hp) (Fs : List (List Addr)) (H : Hp) (σ : L2.St) (env : Env) : Prop := env.length = σ.length ∧
  ∀ (i : Nat) (d : D) (o : Ow), env[i]? = some (some (d, o)) → ∃ v, σ[i]? = some (some v) ∧ (Fs.getD i []).Nodup ∧ RepO L S H v d o (Fs.getD i [])

section
variable {L : Lk} {S H H1 H2 H' : Hp} {Fs : List (List Addr)} {v : V} {d : D} {fl : Fl} {F X : List Addr} {vs : List V} {rs : List R} {σ : L2.St} {env : Env}
theorem EB.step (e : EB S Fs H) (h : Same H H1) : EB S Fs H1 := ⟨fun a o q => h _ _ (e.sub _ _ q), fun a ha => let ⟨u, q⟩ := e.own a ha; ⟨u, h _ _ q⟩, fun a ha vs z => by obtain ⟨u, q⟩ := e.own a ha; rw [h _ _ q, ← q] at z; exact e.nt a ha vs z⟩
theorem EB.fs (e : EB S Fs H) {is : List Nat} : ∀ a ∈ fsOf Fs is, ∃ u, H a = some u := fun a h => e.own a (fsOf_all h)
theorem EB.vsub (e : EB S Fs H) {W : List Addr} : Same (vis S H W) H := vis_sub e.sub
theorem REnv.step (r : REnv L S Fs H σ env) (h : Same H H1) : REnv L S Fs H1 σ env := ⟨r.1, fun i d o e => by
  obtain ⟨v, hv, hn, hr⟩ := r.2 i d o e
  exact ⟨v, hv, hn, hr.mono (Same.refl _) fun a ha => by obtain ⟨u, q⟩ := hr.dom a ha; rw [q, h _ _ q]⟩⟩
theorem keepF (hF : ∀ a ∈ F, ∃ u, H1 a = some u) (h : Same H1 H2) : ∀ a ∈ F, H2 a = H1 a := fun a ha => by obtain ⟨u, q⟩ := hF a ha; rw [q, h _ _ q]
theorem RepO.noF {G : Hp} (q : RepO L S G v d .no F) : F = [] := by
  cases q with
  | no _ => rfl
  | lst p _ _ => rcases p with p | p <;> cases p
  | dK p _ _ _ => rcases p with p | p <;> cases p
  | dT p _ _ _ => rcases p with p | p <;> cases p
theorem Res.later (r : Res L S Fs H H1 v d fl) (h : Same H1 H2) : Res L S Fs H H2 v d fl := by
  cases fl with
  | own o is =>
    obtain ⟨F, n, f, q⟩ := r
    exact ⟨F, n, f, q.mono (grow_later0 h) (keepF q.dom h)⟩
  | brw i o =>
    obtain ⟨F, n, f, q⟩ := r
    exact ⟨F, n, f, q.mono (grow_later0 h) (keepF q.dom h)⟩
theorem Res.base (e : EB S Fs H) (h : Same H H1) (r : Res L S Fs H1 H2 v d fl) : Res L S Fs H H2 v d fl := by
  cases fl with
  | own o is =>
    obtain ⟨F, n, f, q⟩ := r
    rw [vis_step h e.fs] at q
    exact ⟨F, n, fun a ha => h.free (f a ha), q.mono (grow_base0 e.vsub h) fun _ _ => rfl⟩
  | brw i o =>
    obtain ⟨F, n, f, q⟩ := r
    exact ⟨F, n, f, q.mono (grow_base0 e.sub h) fun _ _ => rfl⟩
/-- what a result stands for, with all it may be alias of in sight -/
theorem Res.al (e : EB S Fs H) (h : Same H H') (r : Res L S Fs H H' v d fl) : Rep L (grow (vis S H (fsOf Fs fl.al)) H H' []) v d := by
  cases fl with
  | own o is =>
    obtain ⟨F, n, f, q⟩ := r
    exact q.drop grow_drop fun a ha => grow_new (by simp) (f a ha)
  | brw i o =>
    obtain ⟨F, n, f, q⟩ := r
    have key : ∀ a ∈ F, a ∈ fsOf Fs (Fl.brw i o).al := by
      intro a ha
      cases o with
      | no => rw [q.noF] at ha; simp at ha
      | _ => exact mem_fsOf.mpr ⟨i, by simp [Fl.al], f a ha⟩
    refine q.drop (grow_monoS (vis_ge e.sub)) fun a ha => ?_
    obtain ⟨u, hu⟩ := e.own a (mem_getD (f a ha))
    rw [grow_old (by simp) hu, vis_in (key a ha), hu, h _ _ hu]
theorem Res.see (e : EB S Fs H) (h : Same H H') (r : Res L S Fs H H' v d fl) : Rep L (grow (vis S H Fs.flatten) H H' []) v d :=
  (r.al e h).mono (grow_monoS (vis_mono e.sub fun a ha => fsOf_all ha))
theorem Res.now (e : EB S Fs H) (h : Same H H') (r : Res L S Fs H H' v d fl) : Rep L H' v d := (r.see e h).mono (grow_sub e.vsub h)
theorem Res.flat (r : Rep L (grow S H H' []) v d) : Res L S Fs H H' v d (.own .no []) := ⟨[], List.nodup_nil, by simp, .no (by rw [fsOf_nil, vis_nil]; exact r)⟩
/-- of a list: its items -/
theorem Res.items {ds : List D} (e : EB S Fs H) (h : Same H H') (r : Res L S Fs H H' v (.lst ds) fl) : ∃ a vs, v = .ref a ∧ H' a = some (.lst vs) ∧ RepL L (grow (vis S H (fsOf Fs fl.el)) H H' []) vs ds := by
  cases fl with
  | own o is =>
    obtain ⟨F, n, f, q⟩ := r
    cases q with
    | no q => cases q with | lst q1 q2 => exact ⟨_, _, rfl, grow_sub e.vsub h _ _ q1, q2.mono grow_drop⟩
    | lst _ q1 q2 => exact ⟨_, _, rfl, q1, q2.mono grow_drop⟩
  | brw i o =>
    obtain ⟨F, n, f, q⟩ := r
    cases q with
    | no q => cases q with | lst q1 q2 => exact ⟨_, _, rfl, grow_sub e.sub h _ _ q1, q2.mono (grow_monoS (vis_ge e.sub))⟩
    | lst p q1 q2 => exact ⟨_, _, rfl, q1, q2.mono (grow_monoS (vis_ge e.sub))⟩
theorem RepL.now (e : EB S Fs H) (h : Same H H') {W : List Addr} {ds : List D} (r : RepL L (grow (vis S H W) H H' []) vs ds) : RepL L H' vs ds := r.mono (grow_sub e.vsub h)
/-- a new list -/
theorem Res.newL {ds : List D} {is : List Nat} {p : Addr} (e : EB S Fs H) (h : Same H H') (n : H' p = none) (r : RepL L (grow (vis S H (fsOf Fs is)) H H' []) vs ds) :
    Res L S Fs H (upd H' p (.lst vs)) (.ref p) (.lst ds) (.own .top is) := by
  have h2 : Same H' (upd H' p (.lst vs)) := fun b o q => by rw [upd_ne (ne_of_none q n)]; exact q
  refine ⟨[p], by simp, fun a ha => by rw [List.mem_singleton] at ha; subst ha; exact h.free n, .lst (.inl rfl) upd_same (r.mono ?_)⟩
  exact grow_later (F1 := []) e.vsub h h2 fun a ha => by rw [List.mem_singleton] at ha; subst ha; exact n
theorem same_new {p : Addr} {o : HO} (n : H p = none) : Same H (upd H p o) := fun b u q => by rw [upd_ne (ne_of_none q n)]; exact q

theorem ResL.base {X F : List Addr} (e : EB S Fs H) (h : Same H H1) (hX : ∀ a ∈ F, H a = none) (hD : ∀ a ∈ F, ∃ u, H1 a = some u) : ∀ {vs : List V} {rs : List R} {G : List Addr}, ResL L S Fs H1 H2 X vs rs G → ResL L S Fs H H2 (F ++ X) vs rs G
  | _, _, _, .nil => .nil
  | _, _, _, .own q t => by
    rw [vis_step h e.fs] at q
    exact .own (q.mono (grow_base e.vsub h hX hD) fun _ _ => rfl) (ResL.base e h hX hD t)
  | _, _, _, .brw n f q t => .brw n f (q.mono (grow_base e.sub h hX hD) fun _ _ => rfl) (ResL.base e h hX hD t)
theorem ResL.al (e : EB S Fs H) (h : Same H H') (hX : ∀ a ∈ X, H a = none) {vs : List V} {rs : List R} {G : List Addr} (g : ∀ a ∈ G, a ∈ X) (r : ResL L S Fs H H' X vs rs G) : RepL L (grow (vis S H (fsOf Fs (als rs))) H H' []) vs (rs.map (·.1)) := by
  induction r with
  | nil => exact .nil
  | @own v vs d o is rs F F2 q t ih =>
    refine .cons ((q.drop grow_drop fun a ha => grow_new (by simp) (hX a (g a (List.mem_append_left _ ha)))).mono (grow_monoS (vis_mono e.sub (fsOf_mono fun i hi => ?_)))) ((ih fun a ha => g a (List.mem_append_right _ ha)).mono (grow_monoS (vis_mono e.sub (fsOf_mono fun i hi => ?_))))
    · simp only [als, List.map_cons, List.flatten_cons]; exact List.mem_append_left _ hi
    · simp only [als, List.map_cons, List.flatten_cons]; exact List.mem_append_right _ hi
  | @brw v vs d o i rs F F2 n f q t ih =>
    refine .cons ?_ ((ih g).mono (grow_monoS (vis_mono e.sub (fsOf_mono fun i hi => ?_))))
    · have key : ∀ a ∈ F, a ∈ fsOf Fs (als ((d, .brw i o) :: rs)) := by
        intro a ha
        cases o with
        | no => rw [q.noF] at ha; simp at ha
        | _ => exact mem_fsOf.mpr ⟨i, by simp [als, Fl.al], f a ha⟩
      refine q.drop (fun a o q => ?_) fun a ha => ?_
      · exact grow_monoS (vis_ge e.sub) _ _ (grow_drop _ _ q)
      · obtain ⟨u, hu⟩ := e.own a (mem_getD (f a ha))
        rw [grow_old (by simp) hu, vis_in (key a ha), hu, h _ _ hu]
    · simp only [als, List.map_cons, List.flatten_cons]; exact List.mem_append_right _ hi
theorem ResL.length : ∀ {vs : List V} {rs : List R} {G : List Addr}, ResL L S Fs H H' X vs rs G → vs.length = rs.length
  | _, _, _, .nil => rfl
  | _, _, _, .own _ t => congrArg (· + 1) (ResL.length t)
  | _, _, _, .brw _ _ _ t => congrArg (· + 1) (ResL.length t)
theorem ResL.dom : ∀ {vs : List V} {rs : List R} {G : List Addr}, ResL L S Fs H H' X vs rs G → ∀ a ∈ G, ∃ u, H' a = some u
  | _, _, _, .nil, a, h => by simp at h
  | _, _, _, .own q t, a, h => (List.mem_append.mp h).elim (q.dom a) (ResL.dom t a)
  | _, _, _, .brw _ _ _ t, a, h => ResL.dom t a h
end

mutual
/-- what has no lists or dicts in it stands on tuples alone -/
theorem Rep.clean {L : Lk} {S S' : Hp} (h : ∀ a vs, S a = some (.tup vs) → S' a = some (.tup vs)) : ∀ {v : V} {d : D}, d.hasL = false → Rep L S v d → Rep L S' v d
  | _, _, _, .non => .non
  | _, _, _, .bl b => .bl b
  | _, _, _, .int i => .int i
  | _, _, _, .str x => .str x
  | _, _, e, .tup q r => .tup (h _ _ q) (RepL.clean h (by simpa [D.hasL] using e) r)
  | _, _, e, .lst _ _ => by simp [D.hasL] at e
  | _, _, e, .scr _ => by simp [D.hasL] at e
  | _, _, e, .dK _ _ _ => by simp [D.hasL] at e
  | _, _, e, .dT _ _ _ => by simp [D.hasL] at e
  | _, _, e, .ins _ _ _ => by simp [D.hasL] at e
theorem RepL.clean {L : Lk} {S S' : Hp} (h : ∀ a vs, S a = some (.tup vs) → S' a = some (.tup vs)) : ∀ {vs : List V} {ds : List D}, D.hasLs ds = false → RepL L S vs ds → RepL L S' vs ds
  | _, _, _, .nil => .nil
  | _, _, e, .cons a b => by
    simp only [D.hasLs, Bool.or_eq_false_iff] at e
    exact .cons (Rep.clean h e.1 a) (RepL.clean h e.2 b)
end
theorem RepO.clean1 {L : Lk} {S S' H : Hp} (h : ∀ a vs, S a = some (.tup vs) → S' a = some (.tup vs)) {v : V} {d : D} {o : Ow} {F : List Addr} (c : d.cl1 o = true) (r : RepO L S H v d o F) : RepO L S' H v d o F := by
  cases o with
  | no =>
    cases r with
    | no r => exact .no (r.clean h (by simpa [D.cl1] using c))
    | lst p _ _ => rcases p with p | p <;> cases p
    | dK p _ _ _ => rcases p with p | p <;> cases p
    | dT p _ _ _ => rcases p with p | p <;> cases p
  | top =>
    cases r with
    | lst p e r => exact .lst p e (r.clean h (by simpa [D.cl1] using c))
    | dK p e q r => exact .dK p e q (r.clean h (by simpa [D.cl1] using c))
    | dT p e q r => exact .dT p e q (r.clean h (by simpa [D.cl1] using c))
  | lk => cases d <;> simp [D.cl1] at c
  | tp os => cases d <;> simp [D.cl1] at c
theorem RepOs.clean {L : Lk} {S S' H : Hp} (h : ∀ a vs, S a = some (.tup vs) → S' a = some (.tup vs)) : ∀ {vs : List V} {ds : List D} {os : List Ow} {F : List Addr}, ((ds.zip os).all fun p => p.1.cl1 p.2) = true → RepOs L S H vs ds os F → RepOs L S' H vs ds os F
  | _, _, _, _, _, .nil => .nil
  | _, _, _, _, c, .cons r t => by
    simp only [List.zip_cons_cons, List.all_cons, Bool.and_eq_true] at c
    exact .cons (RepO.clean1 h c.1 r) (RepOs.clean h c.2 t)
theorem RepO.clean {L : Lk} {S S' H : Hp} (h : ∀ a vs, S a = some (.tup vs) → S' a = some (.tup vs)) {v : V} {d : D} {o : Ow} {F : List Addr} (c : d.cl o = true) (r : RepO L S H v d o F) : RepO L S' H v d o F := by
  cases o with
  | no => exact r.clean1 h (by cases d <;> exact c)
  | top => exact r.clean1 h (by cases d <;> exact c)
  | lk => cases d <;> simp [D.cl, D.cl1] at c
  | tp os =>
    cases d <;> try (simp [D.cl] at c; done)
    cases r with
    | tp e r =>
      unfold D.cl at c
      simp only [Bool.and_eq_true] at c
      exact .tp (h _ _ e) (RepOs.clean h c.1 r)

/-! ### readings -/
/-- an expression: what f tells of the slots is what comes -/
def SE (L : Lk) (f : Env → Option R) : TE := fun σ H Q => ∃ S Fs env r, EB S Fs H ∧ REnv L S Fs H σ env ∧ f env = some r ∧ ∀ v H', Same H H' → Res L S Fs H H' v r.1 r.2 → Q v H'
def SA (L : Lk) (f : Env → Option (List R)) : TA := fun σ H Q => ∃ S Fs env rs, EB S Fs H ∧ REnv L S Fs H σ env ∧ f env = some rs ∧
  ∀ vs H' F, Same H H' → F.Nodup → (∀ a ∈ F, H a = none) → ResL L S Fs H H' F vs rs F → Q vs H'
/-- a test -/
def ST (L : Lk) (f : Env → Option R) : TT := fun σ H Q => ∃ S Fs env b fl, EB S Fs H ∧ REnv L S Fs H σ env ∧ f env = some (.bl b, fl) ∧ ∀ H', Same H H' → Q b H'
section
variable {X : Cx} {e : Expr} {es : List Expr}
theorem PE.weak {t t' : TE} (h : PE X e t) (k : ∀ σ H Q, t' σ H Q → t σ H Q) : PE X e t' := ⟨fun pins s σ H Q I q => h.run pins s σ H Q I (k σ H Q q)⟩
theorem PT.weak {t t' : TT} (h : PT X e t) (k : ∀ σ H Q, t' σ H Q → t σ H Q) : PT X e t' := ⟨fun pins s σ H Q I q => h.run pins s σ H Q I (k σ H Q q)⟩
theorem PW.weak {t t' : TT} (h : PW X e t) (k : ∀ σ H Q, t' σ H Q → t σ H Q) : PW X e t' := ⟨fun wh pins s σ H Q I q => h.run wh pins s σ H Q I (k σ H Q q)⟩
theorem PA.weak {t t' : TA} (h : PA X es t) (k : ∀ σ H Q, t' σ H Q → t σ H Q) : PA X es t' := ⟨fun pos pins s σ H Q I q => h.run pos pins s σ H Q I (k σ H Q q)⟩
end
section
variable {L : Lk} {S H : Hp} {Fs : List (List Addr)} {σ : L2.St} {env : Env}
theorem SE.one {f : Env → Option R} {x : R} {P : V → Hp → Prop} (hE : EB S Fs H) (hR : REnv L S Fs H σ env) (ea : f env = some x) (k : ∀ v H', Same H H' → Res L S Fs H H' v x.1 x.2 → P v H') : SE L f σ H P :=
  ⟨S, Fs, env, x, hE, hR, ea, k⟩
theorem SE.two {f g : Env → Option R} {x y : R} {P : V → V → Hp → Prop} (hE : EB S Fs H) (hR : REnv L S Fs H σ env) (ea : f env = some x) (eb : g env = some y)
    (k : ∀ v w H2, Same H H2 → Res L S Fs H H2 v x.1 x.2 → Res L S Fs H H2 w y.1 y.2 → P v w H2) : SE L f σ H fun v H1 => SE L g σ H1 fun w H2 => P v w H2 :=
  ⟨S, Fs, env, x, hE, hR, ea, fun v H1 h1 r1 => ⟨S, Fs, env, y, hE.step h1, hR.step h1, eb, fun w H2 h2 r2 => k v w H2 (h1.trans h2) (r1.later h2) (r2.base hE h1)⟩⟩
end
end Ix
set_option Elab.async false
set_option linter.all false
set_option maxRecDepth 100000
set_option maxHeartbeats 1000000
namespace Ix
open PySem PySem.Spec PyProof.Rows L2

theorem szb_line : szb < sizeLine := by rw [sizeLine_eq]; decide
theorem sc_eq {d : D} {r : R} (h : sc d = some r) : r = (d, .own .no []) := (Option.some.inj h).symm

/-! ### data -/
section
variable {L : Lk} {H : Hp}
mutual
theorem Rep.dp : ∀ {d : D} {v : V} {p : PyData}, Rep L H v d → d.py = some p → Dp L.K H v p
  | .non, _, _, .non, e => by simp [D.py] at e; subst e; exact .non
  | .bl b, _, _, .bl _, e => by simp [D.py] at e; subst e; exact .bl b
  | .int i, _, _, .int _, e => by simp [D.py] at e; subst e; exact .int i
  | .str x, _, _, .str _, e => by simp [D.py] at e; subst e; exact .str x
  | .tup ds, _, _, .tup q r, e => by
    simp [D.py] at e
    obtain ⟨ps, e, rfl⟩ := e
    exact .tup (SqT.of q) (RepL.dp r e)
  | .lst ds, _, _, .lst q r, e => by
    simp [D.py] at e
    obtain ⟨ps, e, rfl⟩ := e
    exact .lst (SqL.of q) (RepL.dp r e)
  | .scr _, _, _, _, e => by simp [D.py] at e
  | .dK _, _, _, _, e => by simp [D.py] at e
  | .dT _, _, _, _, e => by simp [D.py] at e
  | .ins _ _, _, _, _, e => by simp [D.py] at e
theorem RepL.dp : ∀ {ds : List D} {vs : List V} {ps : List PyData}, RepL L H vs ds → D.pys ds = some ps → DpAll L.K H vs ps
  | [], _, _, .nil, e => by simp [D.pys] at e; subst e; exact .nil
  | d :: ds, _, _, .cons a b, e => by
    simp only [D.pys] at e
    split at e
    · rename_i x y e1 e2
      cases e
      exact .cons (Rep.dp a e1) (RepL.dp b e2)
    · cases e
end
theorem Rep.keyV {d : D} {k : Key} {v : V} (r : Rep L H v d) (e : D.key d = some k) : v = kV k := by
  cases d <;> simp [D.key] at e <;> subst e <;> cases r <;> rfl
theorem RepL.keysV : ∀ {ds : List D} {ks : List Key} {vs : List V}, RepL L H vs ds → D.keys ds = some ks → vs = ks.map kV
  | [], _, _, .nil, e => by simp [D.keys] at e; subst e; rfl
  | d :: ds, _, _, .cons a b, e => by
    simp only [D.keys] at e
    split at e
    · rename_i x y e1 e2
      cases e
      rw [a.keyV e1, RepL.keysV b e2]
      rfl
    · cases e
section
variable {κ : Type} [DecidableEq κ]
theorem RepL.look : ∀ {kvs : List (κ × V)} {kds : List (κ × D)} (k : κ), kvs.map (·.1) = kds.map (·.1) → RepL L H (kvs.map (·.2)) (kds.map (·.2)) →
    match Ix.look kds k with | some d => ∃ v, valV kvs k = some v ∧ Rep L H v d | none => valV kvs k = none
  | [], [], k, _, _ => rfl
  | (a, v) :: r, (b, d) :: s, k, e, h => by
    simp only [List.map_cons, List.cons.injEq] at e
    cases h with
    | cons h1 h2 =>
      have ih := RepL.look (kvs := r) (kds := s) k e.2 h2
      obtain ⟨rfl, _⟩ := e
      by_cases hk : a = k
      · have e1 : Ix.look ((a, d) :: s) k = some d := by simp [Ix.look, List.find?_cons, hk]
        have e2 : valV ((a, v) :: r) k = some v := valV_pos hk
        rw [e1]
        exact ⟨v, e2, h1⟩
      · have e1 : Ix.look ((a, d) :: s) k = Ix.look s k := by simp [Ix.look, List.find?_cons, hk]
        have e2 : valV ((a, v) :: r) k = valV r k := valV_neg hk
        rw [e1, e2]
        exact ih
  | [], _ :: _, _, e, _ => by simp at e
  | _ :: _, [], _, e, _ => by simp at e
theorem RepL.isSome {kvs : List (κ × V)} {kds : List (κ × D)} (k : κ) (e : kvs.map (·.1) = kds.map (·.1)) (h : RepL L H (kvs.map (·.2)) (kds.map (·.2))) : (valV kvs k).isSome = (Ix.look kds k).isSome := by
  have q := RepL.look k e h
  cases z : Ix.look kds k with
  | none => rw [z] at q; rw [show valV kvs k = none from q]; rfl
  | some d => rw [z] at q; obtain ⟨v, q, _⟩ := (show ∃ v, valV kvs k = some v ∧ Rep L H v d from q); rw [q]; rfl
end
end

/-! ### operators by values -/
section
variable {X : Cx}
def rInDict (neg : Bool) : R2 := fun y x H Q => ∃ a o, x = .ref a ∧ DGet H a y o ∧ Q (.bl (if neg then !o.isSome else o.isSome)) H
theorem op_inDict (hu : X.A.units + 1 < cLine) : OpR X (compareOp .In) (rInDict false) := by
  intro pins s σ H y x v u Q I ry rx h
  obtain ⟨a, o, rfl, g, q⟩ := h
  cases rx
  exact d_in hu I g ry fun s' I' => ⟨.bl _, H, I', rfl, q⟩
theorem op_notInDict (hu : X.A.units + 1 < cLine) : OpR X (compareOp .NotIn) (rInDict true) := by
  intro pins s σ H y x v u Q I ry rx h
  obtain ⟨a, o, rfl, g, q⟩ := h
  cases rx
  exact d_notIn hu I g ry fun s' I' => ⟨.bl _, H, I', rfl, q⟩
def rIxD : R2 := fun x y H Q => ∃ a v, x = .ref a ∧ DGet H a y (some v) ∧ Q v H
theorem ix_dict (hu : X.A.units + 1 < cLine) : IxR X rIxD := by
  intro value slice pins s σ H x y v u Q I rx ry h hs
  obtain ⟨a, w, rfl, g, q⟩ := h
  cases rx
  exact tail_any (dict_typeIs I g) PySem.F.slot_dict_getitem.lookup (d_getItem hu I g ry fun w' s' I' rw' => ⟨w, H, I', rw', q⟩) hs
end

/-! ### expressions -/
section
variable {X : Cx} {a b c : Expr} {pos : Pos} {cA : Nat → Addr} {cF : Nat → List Str} {fa fb fc : Env → Option R}

theorem se_var {i : Nat} {x : Str} (hN : X.N[i]? = some x) (hv : Vis X.env.scope x) (hd : (x == ("__debug__" : Str)) = false) (hcd : (x == ("__classdict__" : Str)) = false) :
    PE X (.Name x pos) (SE ⟨X.K, cA, cF⟩ fun env => match env[i]? with | some (some (d, o)) => some (d, .brw i o) | _ => none) := by
  refine PE.weak (pe_var hN hv hd hcd) fun σ H Q h => ?_
  obtain ⟨S, Fs, env, r, hE, hR, hf, q⟩ := h
  simp only at hf
  split at hf
  · rename_i d o he
    cases hf
    obtain ⟨v, hv, hn, hr⟩ := hR.2 i d o he
    refine ⟨v, hv, q v H (Same.refl _) ⟨_, hn, fun _ h => h, hr.mono ?_ fun _ _ => rfl⟩⟩
    exact grow_keep hE.sub (by simp)
  · cases hf
theorem se_const {e : Expr} {v : V} {d : D} (h : PE X e (tC v)) (r : ∀ S, Rep ⟨X.K, cA, cF⟩ S v d) : PE X e (SE ⟨X.K, cA, cF⟩ fun _ => sc d) :=
  PE.weak h fun σ H Q ⟨S, Fs, env, r', hE, hR, hf, q⟩ => by
    rw [sc_eq hf] at q
    exact q v H (Same.refl _) (Res.flat (r _))

theorem flatI {L : Lk} {S H H' : Hp} {Fs : List (List Addr)} (i : Int) : Res L S Fs H H' (.int i) (.int i) (.own .no []) := Res.flat (.int i)
theorem flatB {L : Lk} {S H H' : Hp} {Fs : List (List Addr)} (b : Bool) : Res L S Fs H H' (.bl b) (.bl b) (.own .no []) := Res.flat (.bl b)
theorem intV {L : Lk} {H : Hp} {v : V} {i : Int} (r : Rep L H v (.int i)) : v = .int i := by cases r; rfl
theorem blV {L : Lk} {H : Hp} {v : V} {i : Bool} (r : Rep L H v (.bl i)) : v = .bl i := by cases r; rfl
theorem strV {L : Lk} {H : Hp} {v : V} {i : Str} (r : Rep L H v (.str i)) : v = .str i := by cases r; rfl

/-- the frame of a two-place operator -/
theorem se_two {e : Expr} {r : R2} {g : R → R → Option R} (ho : ∀ (ta tb : TE), PE X a ta → PE X b tb → PE X e (tOp r ta tb)) (ha : PE X a (SE ⟨X.K, cA, cF⟩ fa)) (hb : PE X b (SE ⟨X.K, cA, cF⟩ fb))
    (k : ∀ (S H H' : Hp) (Fs : List (List Addr)) (v w : V) (x y z : R) (Q : VK), EB S Fs H → Same H H' → Res ⟨X.K, cA, cF⟩ S Fs H H' v x.1 x.2 → Res ⟨X.K, cA, cF⟩ S Fs H H' w y.1 y.2 → g x y = some z →
      (∀ u H2, Same H' H2 → Res ⟨X.K, cA, cF⟩ S Fs H H2 u z.1 z.2 → Q u H2) → r v w H' Q) :
    PE X e (SE ⟨X.K, cA, cF⟩ fun env => (fa env).bind fun x => (fb env).bind fun y => g x y) := by
  refine PE.weak (ho _ _ ha hb) fun σ H Q ⟨S, Fs, env, z, hE, hR, hf, q⟩ => ?_
  obtain ⟨x, ea, hf⟩ := Option.bind_eq_some_iff.mp hf
  obtain ⟨y, eb, hf⟩ := Option.bind_eq_some_iff.mp hf
  exact SE.two hE hR ea eb fun v w H2 h2 r1 r2 => k S H H2 Fs v w x y z Q hE h2 r1 r2 hf fun u H3 h3 r3 => q u H3 (h2.trans h3) r3
theorem se_one {e : Expr} {r : V → Hp → VK → Prop} {g : R → Option R} (ho : ∀ (ta : TE), PE X a ta → PE X e (tUn r ta)) (ha : PE X a (SE ⟨X.K, cA, cF⟩ fa))
    (k : ∀ (S H H' : Hp) (Fs : List (List Addr)) (v : V) (x z : R) (Q : VK), EB S Fs H → Same H H' → Res ⟨X.K, cA, cF⟩ S Fs H H' v x.1 x.2 → g x = some z →
      (∀ u H2, Same H' H2 → Res ⟨X.K, cA, cF⟩ S Fs H H2 u z.1 z.2 → Q u H2) → r v H' Q) :
    PE X e (SE ⟨X.K, cA, cF⟩ fun env => (fa env).bind fun x => g x) := by
  refine PE.weak (ho _ ha) fun σ H Q ⟨S, Fs, env, z, hE, hR, hf, q⟩ => ?_
  obtain ⟨x, ea, hf⟩ := Option.bind_eq_some_iff.mp hf
  exact SE.one hE hR ea fun v H2 h2 r1 => k S H H2 Fs v x z Q hE h2 r1 hf fun u H3 h3 r3 => q u H3 (h2.trans h3) r3

theorem concat {L : Lk} {S H H' : Hp} {Fs : List (List Addr)} {vs ws : List V} {ds es : List D} {f g : Fl} (hE : EB S Fs H) (r1 : RepL L (grow (vis S H (fsOf Fs f.el)) H H' []) vs ds) (r2 : RepL L (grow (vis S H (fsOf Fs g.el)) H H' []) ws es) :
    RepL L (grow (vis S H (fsOf Fs (f.el ++ g.el))) H H' []) (vs ++ ws) (ds ++ es) :=
  (r1.mono (grow_monoS (vis_mono hE.sub (fsOf_mono fun i hi => List.mem_append_left _ hi)))).append (r2.mono (grow_monoS (vis_mono hE.sub (fsOf_mono fun i hi => List.mem_append_right _ hi))))

theorem se_add (ha : PE X a (SE ⟨X.K, cA, cF⟩ fa)) (hb : PE X b (SE ⟨X.K, cA, cF⟩ fb)) : PE X (.BinOp a .Add b pos) (SE ⟨X.K, cA, cF⟩ fun env => (fa env).bind fun x => (fb env).bind fun y => binop .Add x y) := by
  refine se_two (fun _ _ h1 h2 => pe_op (op_add.or (op_cat.or op_add_str)) h1 h2) ha hb fun S H H' Fs v w x y z Q hE h r1 r2 hf q => ?_
  obtain ⟨dx, fx⟩ := x
  obtain ⟨dy, fy⟩ := y
  cases dx <;> cases dy <;> simp only [binop, reduceCtorEq] at hf
  · rw [sc_eq hf] at q
    exact .inl ⟨_, _, intV (r1.now hE h), intV (r2.now hE h), q _ _ (Same.refl _) (flatI _)⟩
  · split at hf
    · rename_i hz
      rw [sc_eq hf] at q
      have hs := szb_line
      exact .inr (.inr ⟨_, _, strV (r1.now hE h), strV (r2.now hE h), by omega, q _ _ (Same.refl _) (Res.flat (.str _))⟩)
    · cases hf
  · split at hf
    · rename_i hz
      cases hf
      obtain ⟨p1, vs, rfl, h1, k1⟩ := r1.items hE h
      obtain ⟨p2, ws, rfl, h2, k2⟩ := r2.items hE h
      have l1 := k1.length
      have l2 := k2.length
      have hs := szb_line
      exact .inr (.inl ⟨p1, p2, vs, ws, rfl, rfl, h1, h2, by omega, fun p n => q _ _ (same_new n) (Res.newL hE h n (concat hE k1 k2))⟩)
    · cases hf
theorem se_sub (ha : PE X a (SE ⟨X.K, cA, cF⟩ fa)) (hb : PE X b (SE ⟨X.K, cA, cF⟩ fb)) : PE X (.BinOp a .Sub b pos) (SE ⟨X.K, cA, cF⟩ fun env => (fa env).bind fun x => (fb env).bind fun y => binop .Sub x y) := by
  refine se_two (fun _ _ h1 h2 => pe_op op_sub h1 h2) ha hb fun S H H' Fs v w x y z Q hE h r1 r2 hf q => ?_
  obtain ⟨dx, fx⟩ := x
  obtain ⟨dy, fy⟩ := y
  cases dx <;> cases dy <;> simp only [binop, reduceCtorEq] at hf
  · rw [sc_eq hf] at q
    exact ⟨_, _, intV (r1.now hE h), intV (r2.now hE h), q _ _ (Same.refl _) (flatI _)⟩
theorem mul_ok {x : Str} {n : Int} (h : x.length ≤ 1000) (h0 : 0 ≤ n) (h1 : n ≤ 1000) : MulOk x n := by
  refine ⟨?_, ?_, ?_⟩
  · have a : ¬ n < -(2 ^ 63 : Int) := by omega
    have b : ¬ n ≥ 2 ^ 63 := by omega
    rw [decide_eq_false a, decide_eq_false b]; rfl
  · intro _ _
    have hp : 0 < n := by omega
    have : (1001 : Int) ≤ (2 ^ 63 - 1) / n := (Int.le_ediv_iff_mul_le hp).2 (by omega)
    omega
  · intro _ _
    have : x.length * n.toNat ≤ 1000 * 1000 := Nat.mul_le_mul h (by omega)
    have hs := sizeLine_eq
    simp only [Builtin.Str.tooLong, decide_eq_false_iff_not]
    omega
theorem op_mul_str : OpR X (binaryOp .Mult) (fun x y H Q => ∃ i n, x = .str i ∧ y = .int n ∧ i.length ≤ 1000 ∧ 0 ≤ n ∧ n ≤ 1000 ∧ Q (.str (Txt.mul i n)) H) := by
  intro pins s σ H x y v u Q I rx ry h
  obtain ⟨i, j, rfl, rfl, hz, h0, h1, q⟩ := h
  obtain ⟨t, rfl⟩ := rx
  obtain ⟨t', rfl⟩ := ry
  exact SB.mul (mul_ok hz h0 h1) (fun t' tk => ⟨.str _, H, I.tok _, ⟨_, rfl⟩, q⟩)
theorem se_mul (ha : PE X a (SE ⟨X.K, cA, cF⟩ fa)) (hb : PE X b (SE ⟨X.K, cA, cF⟩ fb)) : PE X (.BinOp a .Mult b pos) (SE ⟨X.K, cA, cF⟩ fun env => (fa env).bind fun x => (fb env).bind fun y => binop .Mult x y) := by
  refine se_two (fun _ _ h1 h2 => pe_op (op_mulW.or (op_rep.or op_mul_str)) h1 h2) ha hb fun S H H' Fs v w x y z Q hE h r1 r2 hf q => ?_
  obtain ⟨dx, fx⟩ := x
  obtain ⟨dy, fy⟩ := y
  cases dx <;> cases dy <;> simp only [binop, reduceCtorEq] at hf
  · split at hf
    · rename_i hz
      rw [sc_eq hf] at q
      exact .inl ⟨_, _, intV (r1.now hE h), intV (r2.now hE h), hz, q _ _ (Same.refl _) (flatI _)⟩
    · cases hf
  · split at hf
    · rename_i hz
      rw [sc_eq hf] at q
      exact .inr (.inr ⟨_, _, strV (r1.now hE h), intV (r2.now hE h), hz.1, hz.2.1, hz.2.2, q _ _ (Same.refl _) (Res.flat (.str _))⟩)
    · cases hf
  · split at hf
    · rename_i j hz
      cases hf
      obtain ⟨p1, vs, rfl, h1, k1⟩ := r1.items hE h
      have l1 := k1.length
      have hs := szb_line
      refine .inr (.inl ⟨p1, _, vs, rfl, intV (r2.now hE h), h1, by omega, by omega, by rw [l1]; omega, fun p n => q _ _ (same_new n) (Res.newL hE h n (k1.rep _))⟩)
    · cases hf
theorem se_div (ha : PE X a (SE ⟨X.K, cA, cF⟩ fa)) (hb : PE X b (SE ⟨X.K, cA, cF⟩ fb)) : PE X (.BinOp a .FloorDiv b pos) (SE ⟨X.K, cA, cF⟩ fun env => (fa env).bind fun x => (fb env).bind fun y => binop .FloorDiv x y) := by
  refine se_two (fun _ _ h1 h2 => pe_op op_fdivW h1 h2) ha hb fun S H H' Fs v w x y z Q hE h r1 r2 hf q => ?_
  obtain ⟨dx, fx⟩ := x
  obtain ⟨dy, fy⟩ := y
  cases dx <;> cases dy <;> simp only [binop, reduceCtorEq] at hf
  · split at hf
    · rename_i hz
      rw [sc_eq hf] at q
      exact ⟨_, _, intV (r1.now hE h), intV (r2.now hE h), hz, q _ _ (Same.refl _) (flatI _)⟩
    · cases hf
theorem se_mod (ha : PE X a (SE ⟨X.K, cA, cF⟩ fa)) (hb : PE X b (SE ⟨X.K, cA, cF⟩ fb)) : PE X (.BinOp a .Mod b pos) (SE ⟨X.K, cA, cF⟩ fun env => (fa env).bind fun x => (fb env).bind fun y => binop .Mod x y) := by
  refine se_two (fun _ _ h1 h2 => pe_op op_mod h1 h2) ha hb fun S H H' Fs v w x y z Q hE h r1 r2 hf q => ?_
  obtain ⟨dx, fx⟩ := x
  obtain ⟨dy, fy⟩ := y
  cases dx <;> cases dy <;> simp only [binop, reduceCtorEq] at hf
  · split at hf
    · rename_i hz
      rw [sc_eq hf] at q
      exact ⟨_, _, intV (r1.now hE h), intV (r2.now hE h), hz, q _ _ (Same.refl _) (flatI _)⟩
    · cases hf
theorem se_pow (ha : PE X a (SE ⟨X.K, cA, cF⟩ fa)) (hb : PE X b (SE ⟨X.K, cA, cF⟩ fb)) : PE X (.BinOp a .Pow b pos) (SE ⟨X.K, cA, cF⟩ fun env => (fa env).bind fun x => (fb env).bind fun y => binop .Pow x y) := by
  refine se_two (fun _ _ h1 h2 => pe_op op_pow h1 h2) ha hb fun S H H' Fs v w x y z Q hE h r1 r2 hf q => ?_
  obtain ⟨dx, fx⟩ := x
  obtain ⟨dy, fy⟩ := y
  cases dx <;> cases dy <;> simp only [binop, reduceCtorEq] at hf
  · split at hf
    · rename_i hz
      rw [sc_eq hf] at q
      exact ⟨_, _, intV (r1.now hE h), intV (r2.now hE h), hz, q _ _ (Same.refl _) (flatI _)⟩
    · cases hf
theorem se_neg (ha : PE X a (SE ⟨X.K, cA, cF⟩ fa)) : PE X (.UnaryOp .USub a pos) (SE ⟨X.K, cA, cF⟩ fun env => (fa env).bind fun x => match x.1 with | .int i => sc (.int (-i)) | _ => none) := by
  refine se_one (g := fun x => match x.1 with | .int i => sc (.int (-i)) | _ => none) (fun _ h1 => pe_un un_neg h1) ha fun S H H' Fs v x z Q hE h r1 hf q => ?_
  obtain ⟨dx, fx⟩ := x
  cases dx <;> simp only at hf <;> try contradiction
  rw [sc_eq hf] at q
  exact ⟨_, intV (r1.now hE h), q _ _ (Same.refl _) (flatI _)⟩

/-! comparisons: by values -/
/-- the reading of a comparison: what cmpop tells of two things that stand so -/
def rCmp (L : Lk) (op : CmpOp) : R2 := fun v w H Q => ∃ x y k, Rep L H v x ∧ Rep L H w y ∧ cmpop op x y = some k ∧ Q (.bl k) H
theorem deq_some {x y : D} {k : Bool} (h : deq x y = some k) : ∃ p q, x.py = some p ∧ y.py = some q ∧ SeqAt.shaped p = true ∧ SeqAt.shaped q = true ∧ k = PyData.eqv p q := by
  unfold deq at h
  split at h
  · rename_i p q e1 e2
    split at h
    · rename_i hs
      rw [Bool.and_eq_true] at hs
      cases h
      exact ⟨p, q, e1, e2, hs.1, hs.2, rfl⟩
    · cases h
  · cases h
theorem din_some {x : D} {ds : List D} {k : Bool} (h : din x ds = some k) : ∃ p q, x.py = some p ∧ D.pys ds = some q ∧ SeqAt.shaped p = true ∧ SeqAt.shaped (.list q) = true ∧ k = q.any fun z => PyData.eqv z p := by
  unfold din at h
  split at h
  · rename_i p q e1 e2
    split at h
    · rename_i hs
      rw [Bool.and_eq_true] at hs
      cases h
      exact ⟨p, q, e1, e2, hs.1, hs.2, rfl⟩
    · cases h
  · cases h
theorem OpR.weak {f : Value → Value → Sem Value} {r r' : R2} (h : OpR X f r) (k : ∀ x y H Q, r' x y H Q → r x y H Q) : OpR X f r' := fun pins s σ H x y v u Q I rx ry q => h pins s σ H x y v u Q I rx ry (k x y H Q q)
theorem int2 {L : Lk} {H : Hp} {v w : V} {x y : D} {P : Int → Int → Bool} {k : Bool} (r1 : Rep L H v x) (r2 : Rep L H w y) (e : (match x, y with | .int i, .int j => some (P i j) | _, _ => none) = some k) : ∃ i j, v = .int i ∧ w = .int j ∧ k = P i j := by
  cases x <;> cases y <;> simp only at e <;> try contradiction
  cases e
  exact ⟨_, _, intV r1, intV r2, rfl⟩
theorem op_cmp (hu : X.A.units + 65 < cLine) (op : CmpOp) : OpR X (compareOp op) (rCmp ⟨X.K, cA, cF⟩ op) := by
  have hu64 : X.A.units + 64 < cLine := by omega
  have hu1 : X.A.units + 1 < cLine := by omega
  cases op with
  | Eq =>
    refine OpR.weak (op_eqD hu64) fun v w H Q ⟨x, y, k, r1, r2, e, q⟩ => ?_
    obtain ⟨p1, p2, e1, e2, s1, s2, rfl⟩ := deq_some (show deq x y = some k from e)
    exact ⟨p1, p2, r1.dp e1, r2.dp e2, s1, s2, q⟩
  | NotEq =>
    refine OpR.weak (op_neD hu64) fun v w H Q ⟨x, y, k, r1, r2, e, q⟩ => ?_
    obtain ⟨k', e', rfl⟩ := Option.map_eq_some_iff.mp (show (deq x y).map not = some k from e)
    clear e
    obtain ⟨p1, p2, e1, e2, s1, s2, rfl⟩ := deq_some e'
    exact ⟨p1, p2, r1.dp e1, r2.dp e2, s1, s2, q⟩
  | Lt =>
    refine OpR.weak op_lt fun v w H Q ⟨x, y, k, r1, r2, e, q⟩ => ?_
    obtain ⟨i, j, rfl, rfl, rfl⟩ := int2 (P := fun i j => decide (i < j)) r1 r2 (by cases x <;> cases y <;> exact e)
    exact ⟨i, j, rfl, rfl, q⟩
  | LtE =>
    refine OpR.weak op_le fun v w H Q ⟨x, y, k, r1, r2, e, q⟩ => ?_
    obtain ⟨i, j, rfl, rfl, rfl⟩ := int2 (P := fun i j => decide (i ≤ j)) r1 r2 (by cases x <;> cases y <;> exact e)
    exact ⟨i, j, rfl, rfl, q⟩
  | Gt =>
    refine OpR.weak op_gt fun v w H Q ⟨x, y, k, r1, r2, e, q⟩ => ?_
    obtain ⟨i, j, rfl, rfl, rfl⟩ := int2 (P := fun i j => decide (j < i)) r1 r2 (by cases x <;> cases y <;> exact e)
    exact ⟨i, j, rfl, rfl, q⟩
  | GtE =>
    refine OpR.weak op_ge fun v w H Q ⟨x, y, k, r1, r2, e, q⟩ => ?_
    obtain ⟨i, j, rfl, rfl, rfl⟩ := int2 (P := fun i j => decide (j ≤ i)) r1 r2 (by cases x <;> cases y <;> exact e)
    exact ⟨i, j, rfl, rfl, q⟩
  | Is =>
    refine OpR.weak (op_isN.or op_isBl) fun v w H Q ⟨x, y, k, r1, r2, e, q⟩ => ?_
    unfold cmpop at e
    cases y with
    | non =>
      cases r2
      refine .inl ⟨rfl, ?_⟩
      cases x <;> simp only at e <;> cases e <;> cases r1 <;> first | exact q | simpa using q
    | bl b =>
      cases x <;> simp only at e <;> try contradiction
      cases e
      cases r1
      cases r2
      refine .inr ⟨_, _, rfl, rfl, ?_⟩
      rw [← Bool.beq_eq_decide_eq]
      exact q
    | _ => cases x <;> simp only at e <;> contradiction
  | IsNot =>
    refine OpR.weak (op_notN.or op_notBl) fun v w H Q ⟨x, y, k, r1, r2, e, q⟩ => ?_
    unfold cmpop at e
    cases y with
    | non =>
      cases r2
      refine .inl ⟨rfl, ?_⟩
      cases x <;> simp only at e <;> cases e <;> cases r1 <;> first | exact q | simpa using q
    | bl b =>
      cases x <;> simp only at e <;> try contradiction
      cases e
      cases r1
      cases r2
      refine .inr ⟨_, _, rfl, rfl, ?_⟩
      rw [← Bool.beq_eq_decide_eq]
      exact q
    | _ => cases x <;> simp only at e <;> contradiction
  | In =>
    refine OpR.weak ((op_inD hu).or (op_inDict hu1)) fun v w H Q ⟨x, y, k, r1, r2, e, q⟩ => ?_
    have e : dhas x y = some k := e
    unfold dhas at e
    cases y <;> simp only at e <;> try contradiction
    · cases r2 with
      | lst h1 h2 =>
        obtain ⟨p, qs, e1, e2, s1, s2, rfl⟩ := din_some e
        exact .inl ⟨p, qs, r1.dp e1, .lst (SqL.of h1) (h2.dp e2), s1, s2, q⟩
    · cases r2 with
      | dK h1 h2 h3 =>
        obtain ⟨key, e1, rfl⟩ := Option.map_eq_some_iff.mp e
        have e2 := r1.keyV e1
        subst e2
        refine .inr ⟨_, _, rfl, DGet.k h1, ?_⟩
        rw [if_neg Bool.false_ne_true, RepL.isSome key h2 h3]
        exact q
    · cases r2 with
      | dT h1 h2 h3 =>
        cases x <;> simp only at e <;> try contradiction
        obtain ⟨key, e1, rfl⟩ := Option.map_eq_some_iff.mp e
        cases r1 with
        | tup t1 t2 =>
          have e2 := t2.keysV e1
          subst e2
          refine .inr ⟨_, _, rfl, DGet.t h1 t1, ?_⟩
          rw [if_neg Bool.false_ne_true, RepL.isSome key h2 h3]
          exact q
  | NotIn =>
    refine OpR.weak ((op_notInD hu).or (op_notInDict hu1)) fun v w H Q ⟨x, y, k, r1, r2, e, q⟩ => ?_
    obtain ⟨k', e', rfl⟩ := Option.map_eq_some_iff.mp (show (dhas x y).map not = some k from e)
    clear e
    have e := e'
    unfold dhas at e
    cases y <;> simp only at e <;> try contradiction
    · cases r2 with
      | lst h1 h2 =>
        obtain ⟨p, qs, e1, e2, s1, s2, rfl⟩ := din_some e
        exact .inl ⟨p, qs, r1.dp e1, .lst (SqL.of h1) (h2.dp e2), s1, s2, q⟩
    · cases r2 with
      | dK h1 h2 h3 =>
        obtain ⟨key, e1, rfl⟩ := Option.map_eq_some_iff.mp e
        have e2 := r1.keyV e1
        subst e2
        refine .inr ⟨_, _, rfl, DGet.k h1, ?_⟩
        rw [if_pos rfl, RepL.isSome key h2 h3]
        exact q
    · cases r2 with
      | dT h1 h2 h3 =>
        cases x <;> simp only at e <;> try contradiction
        obtain ⟨key, e1, rfl⟩ := Option.map_eq_some_iff.mp e
        cases r1 with
        | tup t1 t2 =>
          have e2 := t2.keysV e1
          subst e2
          refine .inr ⟨_, _, rfl, DGet.t h1 t1, ?_⟩
          rw [if_pos rfl, RepL.isSome key h2 h3]
          exact q
theorem se_cmp {op : CmpOp} (hu : X.A.units + 65 < cLine) (hm : behindInMarks op b = false) (ha : PE X a (SE ⟨X.K, cA, cF⟩ fa)) (hb : PE X b (SE ⟨X.K, cA, cF⟩ fb)) :
    PE X (.Compare a [op] [b] pos) (SE ⟨X.K, cA, cF⟩ fun env => (fa env).bind fun x => (fb env).bind fun y => (cmpop op x.1 y.1).bind fun k => sc (.bl k)) := by
  refine se_two (g := fun x y => (cmpop op x.1 y.1).bind fun k => sc (.bl k)) (fun _ _ h1 h2 => pe_cmpR (op_cmp (cA := cA) (cF := cF) hu op) h1 h2 hm) ha hb fun S H H' Fs v w x y z Q hE h r1 r2 hf q => ?_
  obtain ⟨k, e, hf⟩ := Option.bind_eq_some_iff.mp hf
  rw [sc_eq hf] at q
  exact ⟨x.1, y.1, k, r1.now hE h, r2.now hE h, e, q _ _ (Same.refl _) (flatB _)⟩
theorem st_cmp {op : CmpOp} (hu : X.A.units + 65 < cLine) (hm : behindInMarks op b = false) (ha : PE X a (SE ⟨X.K, cA, cF⟩ fa)) (hb : PE X b (SE ⟨X.K, cA, cF⟩ fb)) :
    PT X (.Compare a [op] [b] pos) (ST ⟨X.K, cA, cF⟩ fun env => (fa env).bind fun x => (fb env).bind fun y => (cmpop op x.1 y.1).bind fun k => sc (.bl k)) := by
  refine PT.weak (pt_cmpR (op_cmp (cA := cA) (cF := cF) hu op) ha hb hm) fun σ H Q ⟨S, Fs, env, k, fl, hE, hR, hf, q⟩ => ?_
  obtain ⟨x, ea, hf⟩ := Option.bind_eq_some_iff.mp hf
  obtain ⟨y, eb, hf⟩ := Option.bind_eq_some_iff.mp hf
  obtain ⟨k', e, hf⟩ := Option.bind_eq_some_iff.mp hf
  cases sc_eq hf
  exact SE.two hE hR ea eb fun v w H2 h2 r1 r2 => ⟨x.1, y.1, k, r1.now hE h2, r2.now hE h2, e, k, rfl, q _ h2⟩
end
end Ix
set_option Elab.async false
set_option linter.all false
set_option maxRecDepth 100000
set_option maxHeartbeats 1000000
namespace Ix
open PySem PySem.Spec PyProof.Rows L2

/-! ### a list of results as the items of something new -/
section
variable {L : Lk} {S H H' H2 : Hp} {Fs : List (List Addr)} {X : List Addr}
/-- each with what it owns of its own -/
theorem ResL.os (e : EB S Fs H) (h : Same H H') {S2 : Hp} (W : List Nat) (hS : Same (grow (vis S H (fsOf Fs W)) H H' X) S2) (hX : ∀ a ∈ X, H a = none) {vs : List V} {rs : List R} {G : List Addr} (g : ∀ a ∈ G, a ∈ X) (hG : ∀ a ∈ G, H2 a = H' a) (hW : ∀ i ∈ als rs, i ∈ W) (r : ResL L S Fs H H' X vs rs G) :
    RepOs L S2 H2 vs (rs.map (·.1)) (rs.map (·.2.ow)) G := by
  induction r with
  | nil => exact .nil
  | @own v vs d o is rs F F2 q t ih =>
    have hw : ∀ i ∈ is, i ∈ W := fun i hi => hW i (by simp only [als, List.map_cons, List.flatten_cons]; exact List.mem_append_left _ hi)
    have hw2 : ∀ i ∈ als rs, i ∈ W := fun i hi => hW i (by simp only [als, List.map_cons, List.flatten_cons]; exact List.mem_append_right _ hi)
    exact .cons (q.mono (fun a o z => hS _ _ (grow_monoS (vis_mono e.sub (fsOf_mono hw)) _ _ z)) fun a ha => hG a (List.mem_append_left _ ha)) (ih (fun a ha => g a (List.mem_append_right _ ha)) (fun a ha => hG a (List.mem_append_right _ ha)) hw2)
  | @brw v vs d o i rs F F2 n f q t ih =>
    have hw2 : ∀ i ∈ als rs, i ∈ W := fun i hi => hW i (by simp only [als, List.map_cons, List.flatten_cons]; exact List.mem_append_right _ hi)
    have key : ∀ a ∈ F, a ∈ fsOf Fs W := by
      intro a ha
      cases o with
      | no => rw [q.noF] at ha; simp at ha
      | _ => exact mem_fsOf.mpr ⟨i, hW i (by simp [als, Fl.al]), f a ha⟩
    refine RepOs.cons (F1 := []) (.no (q.drop (fun a o z => hS _ _ (grow_monoS (vis_ge e.sub) _ _ z)) fun a ha => ?_)) (ih g hG hw2)
    obtain ⟨u, hu⟩ := e.own a (mem_getD (f a ha))
    have hx : a ∉ X := fun z => by rw [hX a z] at hu; cases hu
    have e1 : grow (vis S H (fsOf Fs W)) H H' X a = some u := by rw [grow_old hx hu, vis_in (key a ha)]; exact hu
    rw [hS _ _ e1, h _ _ hu]
theorem Res.newT {rs : List R} {vs : List V} {F : List Addr} {p : Addr} (e : EB S Fs H) (h : Same H H') (n : H' p = none) (hn : F.Nodup) (hF : ∀ a ∈ F, H a = none) (r : ResL L S Fs H H' F vs rs F) :
    Res L S Fs H (upd H' p (.tup vs)) (.ref p) (.tup (rs.map (·.1))) (.own (.tp (rs.map (·.2.ow))) (als rs)) := by
  have h2 := same_new (o := .tup vs) n
  refine ⟨F, hn, hF, .tp (vs := vs) ?_ ?_⟩
  · have hp : p ∉ F := fun z => by obtain ⟨u, q⟩ := r.dom p z; rw [n] at q; cases q
    rw [grow_new hp (h.free n), upd_same]
  · exact r.os e h (als rs) (grow_later0 h2) hF (fun _ z => z) (keepF r.dom h2) (fun _ z => z)
end

section
variable {X : Cx} {a b c e : Expr} {es : List Expr} {pos : Pos} {cA : Nat → Addr} {cF : Nat → List Str} {fa fb fc : Env → Option R} {fs : Env → Option (List R)}

/-! ### argument lists, displays -/
theorem sa_nil : PA X [] (SA ⟨X.K, cA, cF⟩ fun _ => some []) := PA.weak pa_nil fun σ H Q ⟨S, Fs, env, rs, hE, hR, hf, q⟩ => by
  cases hf
  exact q [] H [] (Same.refl _) List.nodup_nil (by simp) .nil
theorem sa_cons (hs : starEach (e :: es) X.env = (false, eval e X.env) :: starEach es X.env) (ha : PE X e (SE ⟨X.K, cA, cF⟩ fa)) (hr : PA X es (SA ⟨X.K, cA, cF⟩ fs)) :
    PA X (e :: es) (SA ⟨X.K, cA, cF⟩ fun env => (fa env).bind fun x => (fs env).map (x :: ·)) := by
  refine PA.weak (pa_cons ha hr hs) fun σ H Q ⟨S, Fs, env, rs, hE, hR, hf, q⟩ => ?_
  obtain ⟨x, ea, hf⟩ := Option.bind_eq_some_iff.mp hf
  obtain ⟨ys, er, rfl⟩ := Option.map_eq_some_iff.mp hf
  refine ⟨S, Fs, env, x, hE, hR, ea, fun v H1 h1 r1 => ⟨S, Fs, env, ys, hE.step h1, hR.step h1, er, fun vs H2 F2 h2 n2 f2 r2 => ?_⟩⟩
  obtain ⟨d, fl⟩ := x
  cases fl with
  | own o is =>
    obtain ⟨F1, n1, f1, q1⟩ := r1
    have d1 := q1.dom
    refine q (v :: vs) H2 (F1 ++ F2) (h1.trans h2) ?_ ?_ (.own (q1.mono (grow_later hE.vsub h1 h2 f2) (keepF d1 h2)) (ResL.base hE h1 f1 d1 r2))
    · refine List.nodup_append.mpr ⟨n1, n2, fun a ha b hb => ?_⟩
      rintro rfl
      obtain ⟨u, z⟩ := d1 a ha
      rw [f2 a hb] at z
      cases z
    · intro a ha
      exact (List.mem_append.mp ha).elim (f1 a) fun z => h1.free (f2 a z)
  | brw i o =>
    obtain ⟨F1, n1, f1, q1⟩ := r1
    refine q (v :: vs) H2 F2 (h1.trans h2) n2 (fun a ha => h1.free (f2 a ha)) (.brw n1 f1 (q1.mono ?_ (keepF q1.dom h2)) (ResL.base (F := []) hE h1 (by simp) (by simp) r2))
    exact grow_later (F1 := []) hE.sub h1 h2 f2
theorem se_tup {k : Nat} (h : PA X es (SA ⟨X.K, cA, cF⟩ fs)) (hl : ∀ env rs, fs env = some rs → rs.length ≤ 1000) : PE X (.Tuple es k pos) (SE ⟨X.K, cA, cF⟩ fun env => (fs env).bind fun rs => some (.tup (rs.map (·.1)), .own (.tp (rs.map (·.2.ow))) (als rs))) := by
  refine PE.weak (pe_tup h) fun σ H Q ⟨S, Fs, env, z, hE, hR, hf, q⟩ => ?_
  obtain ⟨rs, er, hf⟩ := Option.bind_eq_some_iff.mp hf
  cases hf
  refine ⟨S, Fs, env, rs, hE, hR, er, fun vs H' F h1 n f r => ⟨?_, fun p np => q _ _ (h1.trans (same_new np)) (Res.newT hE h1 np n f r)⟩⟩
  have l1 := r.length
  have l2 := hl env rs er
  rw [sizeLine_eq]
  omega
theorem se_lst (h : PA X es (SA ⟨X.K, cA, cF⟩ fs)) (hl : ∀ env rs, fs env = some rs → rs.length ≤ 1000) : PE X (.List es pos) (SE ⟨X.K, cA, cF⟩ fun env => (fs env).bind fun rs => some (.lst (rs.map (·.1)), .own .top (als rs))) := by
  refine PE.weak (pe_lst h) fun σ H Q ⟨S, Fs, env, z, hE, hR, hf, q⟩ => ?_
  obtain ⟨rs, er, hf⟩ := Option.bind_eq_some_iff.mp hf
  cases hf
  refine ⟨S, Fs, env, rs, hE, hR, er, fun vs H' F h1 n f r => ⟨?_, fun p np => q _ _ (h1.trans (same_new np)) (Res.newL hE h1 np (r.al hE h1 f fun _ z => z))⟩⟩
  have l1 := r.length
  have l2 := hl env rs er
  rw [sizeLine_eq]
  omega
theorem Res.newD {L : Lk} {S H : Hp} {Fs : List (List Addr)} {p : Addr} (n : H p = none) : Res L S Fs H (upd H p (.dK [])) (.ref p) (.dK []) (.own .top []) :=
  ⟨[p], by simp, by simpa using n, .dK (kvs := []) (.inl rfl) upd_same rfl .nil⟩
theorem se_dKn : PE X (.Dict [] [] pos) (SE ⟨X.K, cA, cF⟩ fun _ => some (.dK [], .own .top [])) := PE.weak pe_dnewK fun σ H Q ⟨S, Fs, env, z, hE, hR, hf, q⟩ => by
  cases hf
  exact fun p n => q _ _ (same_new n) (Res.newD n)
theorem se_dTn : PE X (.Dict [] [] pos) (SE ⟨X.K, cA, cF⟩ fun _ => some (.dT [], .own .top [])) := PE.weak pe_dnewT fun σ H Q ⟨S, Fs, env, z, hE, hR, hf, q⟩ => by
  cases hf
  exact fun p n => q _ _ (same_new n) ⟨[p], by simp, by simpa using n, .dT (kvs := []) (.inl rfl) upd_same rfl .nil⟩
/-- {k: v} -/
theorem se_dK1 (ha : PE X a (SE ⟨X.K, cA, cF⟩ fa)) (hb : PE X b (SE ⟨X.K, cA, cF⟩ fb)) : PE X (.Dict [some a] [b] pos) (SE ⟨X.K, cA, cF⟩ fun env => (fa env).bind fun x => (fb env).bind fun y => (D.key x.1).bind fun k => some (.dK [(k, y.1)], .own .top y.2.al)) := by
  refine PE.weak (pe_disp (pps_cons ha hb pps_nil) rfl rfl (by simp) (by simp)) fun σ H Q ⟨S, Fs, env, z, hE, hR, hf, q⟩ p np => ?_
  obtain ⟨x, ea, hf⟩ := Option.bind_eq_some_iff.mp hf
  obtain ⟨y, eb, hf⟩ := Option.bind_eq_some_iff.mp hf
  obtain ⟨k, ek, hf⟩ := Option.bind_eq_some_iff.mp hf
  cases hf
  have h0 := same_new (o := .dK []) np
  have e0 := hE.step h0
  refine SE.two e0 (hR.step h0) ea eb fun v w H2 h2 r1 r2 => ?_
  refine ⟨h2 _ _ upd_same, [(k, w)], ?_, by simp, ?_⟩
  · rw [(r1.now e0 h2).keyV ek]
    rfl
  · have hp2 : H2 p = some (.dK []) := h2 _ _ upd_same
    have hS : Same H (upd H2 p (.dK [(k, w)])) := fun b o z => by
      rw [upd_ne (ne_of_none z np)]
      exact h2 _ _ (h0 _ _ z)
    have key := r2.al e0 h2
    rw [vis_step h0 hE.fs] at key
    refine q (.ref p) _ hS ⟨[p], by simp, by simpa using np, .dK (kvs := [(k, w)]) (.inl rfl) upd_same rfl (.cons (Rep.mono ?_ key) .nil)⟩
    intro a o z
    obtain ⟨_, z⟩ := grow_some z
    rcases z with ⟨z1, z2⟩ | ⟨⟨u, z1⟩, z2⟩
    · have hap : a ≠ p := by
        rintro rfl
        rw [upd_same] at z1
        cases z1
      rw [grow_new (by simpa using hap) (h0.free z1), upd_ne hap]
      exact z2
    · have z3 := vis_sub hE.sub _ _ z2
      have hap : a ≠ p := ne_of_none z3 np
      rw [grow_old (by simpa using hap) z3]
      exact z2

/-! ### tests, and, or, not -/
theorem st_val (he : ∀ whole, isTrue e X.env whole = (do let v ← whole; standAt e.pos; holding [v] (truthy v))) (ha : PE X e (SE ⟨X.K, cA, cF⟩ fa)) : PT X e (ST ⟨X.K, cA, cF⟩ fa) :=
  PT.weak (pt_val ha he) fun σ H Q ⟨S, Fs, env, k, fl, hE, hR, hf, q⟩ => SE.one hE hR hf fun v H' h r => ⟨k, blV (r.now hE h), q H' h⟩
theorem se_not (ha : PE X a (SE ⟨X.K, cA, cF⟩ fa)) : PE X (.UnaryOp .Not a pos) (SE ⟨X.K, cA, cF⟩ fun env => (fa env).bind fun x => match x.1 with | .bl b => sc (.bl (!b)) | _ => none) := by
  refine PE.weak (pe_not ha) fun σ H Q ⟨S, Fs, env, z, hE, hR, hf, q⟩ => ?_
  obtain ⟨x, ea, hf⟩ := Option.bind_eq_some_iff.mp hf
  obtain ⟨d, fl⟩ := x
  cases d <;> simp only [reduceCtorEq] at hf
  rw [sc_eq hf] at q
  exact SE.one hE hR ea fun v H' h r => ⟨_, blV (r.now hE h), q _ _ h (flatB _)⟩
theorem st_not (ha : PT X a (ST ⟨X.K, cA, cF⟩ fa)) : PT X (.UnaryOp .Not a pos) (ST ⟨X.K, cA, cF⟩ fun env => (fa env).bind fun x => match x.1 with | .bl b => sc (.bl (!b)) | _ => none) := by
  refine PT.weak (pt_not ha) fun σ H Q ⟨S, Fs, env, k, fl, hE, hR, hf, q⟩ => ?_
  obtain ⟨x, ea, hf⟩ := Option.bind_eq_some_iff.mp hf
  obtain ⟨d, fl'⟩ := x
  cases d <;> simp only [reduceCtorEq] at hf
  cases sc_eq hf
  exact ⟨S, Fs, env, _, fl', hE, hR, ea, q⟩
/-- the rest of an and, of an or -/
theorem se_bop1 {op : BoolOp} (ha : PE X a (SE ⟨X.K, cA, cF⟩ fa)) : PE X (.BoolOp op [a] pos) (SE ⟨X.K, cA, cF⟩ fun env => (fa env).bind fun x => match x.1 with | .bl b => sc (.bl b) | _ => none) := by
  refine PE.weak (pe_one ha) fun σ H Q ⟨S, Fs, env, z, hE, hR, hf, q⟩ => ?_
  obtain ⟨x, ea, hf⟩ := Option.bind_eq_some_iff.mp hf
  obtain ⟨d, fl⟩ := x
  cases d <;> simp only [reduceCtorEq] at hf
  rw [sc_eq hf] at q
  exact SE.one hE hR ea fun v H' h r => by
    have e := blV (r.now hE h)
    subst e
    exact q _ _ h (flatB _)
theorem se_and (ha : PE X a (SE ⟨X.K, cA, cF⟩ fa)) (hb : PE X (.BoolOp .And (b :: es) pos) (SE ⟨X.K, cA, cF⟩ fb)) : PE X (.BoolOp .And (a :: b :: es) pos) (SE ⟨X.K, cA, cF⟩ fun env => (fa env).bind fun x => match x.1 with
    | .bl k => if k = true then fb env else sc (.bl k) | _ => none) := by
  refine PE.weak (pe_and ha hb) fun σ H Q ⟨S, Fs, env, z, hE, hR, hf, q⟩ => ?_
  obtain ⟨x, ea, hf⟩ := Option.bind_eq_some_iff.mp hf
  obtain ⟨d, fl⟩ := x
  cases d <;> simp only [reduceCtorEq] at hf
  rename_i k
  refine SE.one hE hR ea fun v H' h r => ⟨k, blV (r.now hE h), ?_⟩
  cases k with
  | true => rw [if_pos rfl] at hf ⊢; exact ⟨S, Fs, env, z, hE.step h, hR.step h, hf, fun w H2 h2 r2 => q w H2 (h.trans h2) (r2.base hE h)⟩
  | false => rw [if_neg Bool.false_ne_true] at hf ⊢; rw [sc_eq hf] at q; exact q _ _ h (flatB _)
theorem se_or (ha : PE X a (SE ⟨X.K, cA, cF⟩ fa)) (hb : PE X (.BoolOp .Or (b :: es) pos) (SE ⟨X.K, cA, cF⟩ fb)) : PE X (.BoolOp .Or (a :: b :: es) pos) (SE ⟨X.K, cA, cF⟩ fun env => (fa env).bind fun x => match x.1 with
    | .bl k => if k = false then fb env else sc (.bl k) | _ => none) := by
  refine PE.weak (pe_or ha hb) fun σ H Q ⟨S, Fs, env, z, hE, hR, hf, q⟩ => ?_
  obtain ⟨x, ea, hf⟩ := Option.bind_eq_some_iff.mp hf
  obtain ⟨d, fl⟩ := x
  cases d <;> simp only [reduceCtorEq] at hf
  rename_i k
  refine SE.one hE hR ea fun v H' h r => ⟨k, blV (r.now hE h), ?_⟩
  cases k with
  | false => rw [if_pos rfl] at hf; rw [if_neg Bool.false_ne_true]; exact ⟨S, Fs, env, z, hE.step h, hR.step h, hf, fun w H2 h2 r2 => q w H2 (h.trans h2) (r2.base hE h)⟩
  | true => rw [if_neg (by simp)] at hf; rw [if_pos rfl]; rw [sc_eq hf] at q; exact q _ _ h (flatB _)
/-- as tests, whatever the whole is -/
theorem sw_one {op : BoolOp} (ha : PT X a (ST ⟨X.K, cA, cF⟩ fa)) : PW X (.BoolOp op [a] pos) (ST ⟨X.K, cA, cF⟩ fun env => (fa env).bind fun x => match x.1 with | .bl b => sc (.bl b) | _ => none) := by
  have key : ∀ σ H Q, ST ⟨X.K, cA, cF⟩ (fun env => (fa env).bind fun x => match x.1 with | .bl b => sc (.bl b) | _ => none) σ H Q → ST ⟨X.K, cA, cF⟩ fa σ H Q := fun σ H Q ⟨S, Fs, env, k, fl, hE, hR, hf, q⟩ => by
    obtain ⟨x, ea, hf⟩ := Option.bind_eq_some_iff.mp hf
    obtain ⟨d, fl'⟩ := x
    cases d <;> simp only [reduceCtorEq] at hf
    cases sc_eq hf
    exact ⟨S, Fs, env, _, fl', hE, hR, ea, q⟩
  cases op with
  | And => exact PW.weak (pw_and1 ha) key
  | Or => exact PW.weak (pw_or1 ha) key
theorem sw_and (ha : PT X a (ST ⟨X.K, cA, cF⟩ fa)) (hb : PW X (.BoolOp .And (b :: es) pos) (ST ⟨X.K, cA, cF⟩ fb)) : PW X (.BoolOp .And (a :: b :: es) pos) (ST ⟨X.K, cA, cF⟩ fun env => (fa env).bind fun x => match x.1 with
    | .bl k => if k = true then fb env else sc (.bl k) | _ => none) := by
  refine PW.weak (pw_and ha hb) fun σ H Q ⟨S, Fs, env, k2, fl, hE, hR, hf, q⟩ => ?_
  obtain ⟨x, ea, hf⟩ := Option.bind_eq_some_iff.mp hf
  obtain ⟨d, fl'⟩ := x
  cases d <;> simp only [reduceCtorEq] at hf
  rename_i k
  refine ⟨S, Fs, env, k, fl', hE, hR, ea, fun H' h => ?_⟩
  cases k with
  | true => rw [if_pos rfl] at hf ⊢; exact ⟨S, Fs, env, k2, fl, hE.step h, hR.step h, hf, fun H2 h2 => q H2 (h.trans h2)⟩
  | false => rw [if_neg Bool.false_ne_true] at hf ⊢; cases sc_eq hf; exact q _ h
theorem sw_or (ha : PT X a (ST ⟨X.K, cA, cF⟩ fa)) (hb : PW X (.BoolOp .Or (b :: es) pos) (ST ⟨X.K, cA, cF⟩ fb)) : PW X (.BoolOp .Or (a :: b :: es) pos) (ST ⟨X.K, cA, cF⟩ fun env => (fa env).bind fun x => match x.1 with
    | .bl k => if k = false then fb env else sc (.bl k) | _ => none) := by
  refine PW.weak (pw_or ha hb) fun σ H Q ⟨S, Fs, env, k2, fl, hE, hR, hf, q⟩ => ?_
  obtain ⟨x, ea, hf⟩ := Option.bind_eq_some_iff.mp hf
  obtain ⟨d, fl'⟩ := x
  cases d <;> simp only [reduceCtorEq] at hf
  rename_i k
  refine ⟨S, Fs, env, k, fl', hE, hR, ea, fun H' h => ?_⟩
  cases k with
  | false => rw [if_pos rfl] at hf; rw [if_neg Bool.false_ne_true]; exact ⟨S, Fs, env, k2, fl, hE.step h, hR.step h, hf, fun H2 h2 => q H2 (h.trans h2)⟩
  | true => rw [if_neg (by simp)] at hf; rw [if_pos rfl]; cases sc_eq hf; exact q _ h
theorem se_ife (hc : PT X c (ST ⟨X.K, cA, cF⟩ fc)) (ha : PE X a (SE ⟨X.K, cA, cF⟩ fa)) (hb : PE X b (SE ⟨X.K, cA, cF⟩ fb)) : PE X (.IfExp c a b pos) (SE ⟨X.K, cA, cF⟩ fun env => (fc env).bind fun x => match x.1 with
    | .bl k => if k then fa env else fb env | _ => none) := by
  refine PE.weak (pe_ifExp hc ha hb) fun σ H Q ⟨S, Fs, env, z, hE, hR, hf, q⟩ => ?_
  obtain ⟨x, ea, hf⟩ := Option.bind_eq_some_iff.mp hf
  obtain ⟨d, fl'⟩ := x
  cases d <;> simp only [reduceCtorEq] at hf
  rename_i k
  refine ⟨S, Fs, env, k, fl', hE, hR, ea, fun H' h => ?_⟩
  cases k with
  | true => rw [if_pos rfl] at hf ⊢; exact ⟨S, Fs, env, z, hE.step h, hR.step h, hf, fun w H2 h2 r2 => q w H2 (h.trans h2) (r2.base hE h)⟩
  | false => rw [if_neg Bool.false_ne_true] at hf ⊢; exact ⟨S, Fs, env, z, hE.step h, hR.step h, hf, fun w H2 h2 r2 => q w H2 (h.trans h2) (r2.base hE h)⟩
theorem se_chn {op op' : CmpOp} (hu : X.A.units + 65 < cLine) (hm : lastMarks [op, op'] [b, c] = false) (ha : PE X a (SE ⟨X.K, cA, cF⟩ fa)) (hb : PE X b (SE ⟨X.K, cA, cF⟩ fb)) (hc : PE X c (SE ⟨X.K, cA, cF⟩ fc)) :
    PE X (.Compare a [op, op'] [b, c] pos) (SE ⟨X.K, cA, cF⟩ fun env => (fa env).bind fun x => (fb env).bind fun y => (cmpop op x.1 y.1).bind fun k =>
      if k then (fc env).bind fun z => (cmpop op' y.1 z.1).bind fun k' => sc (.bl k') else sc (.bl false)) := by
  refine PE.weak (pe_chain (op_cmp (cA := cA) (cF := cF) hu op) (op_cmp (cA := cA) (cF := cF) hu op') ha hb hc hm) fun σ H Q ⟨S, Fs, env, z, hE, hR, hf, q⟩ => ?_
  obtain ⟨x, ea, hf⟩ := Option.bind_eq_some_iff.mp hf
  obtain ⟨y, eb, hf⟩ := Option.bind_eq_some_iff.mp hf
  obtain ⟨k, ek, hf⟩ := Option.bind_eq_some_iff.mp hf
  refine SE.two hE hR ea eb fun v w H2 h2 r1 r2 => ⟨x.1, y.1, k, r1.now hE h2, r2.now hE h2, ek, k, rfl, ?_⟩
  cases k with
  | true =>
    rw [if_pos rfl] at hf ⊢
    obtain ⟨z', ec, hf⟩ := Option.bind_eq_some_iff.mp hf
    obtain ⟨k', ek', hf⟩ := Option.bind_eq_some_iff.mp hf
    rw [sc_eq hf] at q
    exact SE.one (hE.step h2) (hR.step h2) ec fun u H3 h3 r3 => ⟨y.1, z'.1, k', (r2.now hE h2).mono h3, r3.now (hE.step h2) h3, ek', q _ _ (h2.trans h3) (flatB _)⟩
  | false =>
    rw [if_neg Bool.false_ne_true] at hf ⊢
    rw [sc_eq hf] at q
    exact q _ _ h2 (flatB _)
theorem st_chn {op op' : CmpOp} (hu : X.A.units + 65 < cLine) (hm : lastMarks [op, op'] [b, c] = false) (ha : PE X a (SE ⟨X.K, cA, cF⟩ fa)) (hb : PE X b (SE ⟨X.K, cA, cF⟩ fb)) (hc : PE X c (SE ⟨X.K, cA, cF⟩ fc)) :
    PT X (.Compare a [op, op'] [b, c] pos) (ST ⟨X.K, cA, cF⟩ fun env => (fa env).bind fun x => (fb env).bind fun y => (cmpop op x.1 y.1).bind fun k =>
      if k then (fc env).bind fun z => (cmpop op' y.1 z.1).bind fun k' => sc (.bl k') else sc (.bl false)) := by
  refine PT.weak (pt_chain (op_cmp (cA := cA) (cF := cF) hu op) (op_cmp (cA := cA) (cF := cF) hu op') ha hb hc hm) fun σ H Q ⟨S, Fs, env, k2, fl, hE, hR, hf, q⟩ => ?_
  obtain ⟨x, ea, hf⟩ := Option.bind_eq_some_iff.mp hf
  obtain ⟨y, eb, hf⟩ := Option.bind_eq_some_iff.mp hf
  obtain ⟨k, ek, hf⟩ := Option.bind_eq_some_iff.mp hf
  refine SE.two hE hR ea eb fun v w H2 h2 r1 r2 => ⟨x.1, y.1, k, r1.now hE h2, r2.now hE h2, ek, k, rfl, ?_⟩
  cases k with
  | true =>
    rw [if_pos rfl] at hf ⊢
    obtain ⟨z', ec, hf⟩ := Option.bind_eq_some_iff.mp hf
    obtain ⟨k', ek', hf⟩ := Option.bind_eq_some_iff.mp hf
    cases sc_eq hf
    exact SE.one (hE.step h2) (hR.step h2) ec fun u H3 h3 r3 => ⟨y.1, z'.1, k2, (r2.now hE h2).mono h3, r3.now (hE.step h2) h3, ek', k2, rfl, q _ (h2.trans h3)⟩
  | false =>
    rw [if_neg Bool.false_ne_true] at hf ⊢
    cases sc_eq hf
    exact ⟨false, rfl, q _ h2⟩
end
end Ix
set_option Elab.async false
set_option linter.all false
set_option maxRecDepth 100000
set_option maxHeartbeats 1000000
namespace Ix
open PySem PySem.Spec PyProof.Rows L2

/-! ### items, slices -/
theorem atI_map {α β : Type} (f : α → β) (xs : List α) (i : Int) : atI (xs.map f) i = (atI xs i).map f := by
  unfold atI
  rw [List.length_map]
  cases ixN xs.length i with
  | none => rfl
  | some j => simp
theorem atI_at {α : Type} {xs : List α} {i : Int} {x : α} (h : atI xs i = some x) : ∃ j, ixN xs.length i = some j ∧ xs[j]? = some x := by
  unfold atI at h
  exact Option.bind_eq_some_iff.mp h
theorem atI_of {α : Type} {xs : List α} {i : Int} {j : Nat} {x : α} (h : ixN xs.length i = some j) (e : xs[j]? = some x) : atI xs i = some x := by
  unfold atI
  rw [h]
  exact e
theorem RepOs.get {L : Lk} {S H : Hp} : ∀ {vs : List V} {ds : List D} {os : List Ow} {F : List Addr} {j : Nat} {d : D}, RepOs L S H vs ds os F → ds[j]? = some d → F.Nodup →
    ∃ v o G, vs[j]? = some v ∧ os[j]? = some o ∧ RepO L S H v d o G ∧ G.Nodup ∧ (∀ a ∈ G, a ∈ F)
  | _, _, _, _, _, _, .nil, e, _ => by simp at e
  | _, _, _, _, 0, d, .cons r _, e, n => by
    simp at e
    subst e
    exact ⟨_, _, _, rfl, rfl, r, (List.nodup_append.mp n).1, fun a h => List.mem_append_left _ h⟩
  | _, _, _, _, j + 1, d, .cons _ t, e, n => by
    obtain ⟨v, o, G, h1, h2, h3, h4, h5⟩ := RepOs.get (j := j) (d := d) t (by simpa using e) (List.nodup_append.mp n).2.1
    exact ⟨v, o, G, by simpa using h1, by simpa using h2, h3, h4, fun a h => List.mem_append_right _ (h5 a h)⟩
theorem RepOs.length {L : Lk} {S H : Hp} : ∀ {vs : List V} {ds : List D} {os : List Ow} {F : List Addr}, RepOs L S H vs ds os F → vs.length = ds.length
  | _, _, _, _, .nil => rfl
  | _, _, _, _, .cons _ t => congrArg (· + 1) (RepOs.length t)
theorem RepL.cutR {L : Lk} {S : Hp} {vs : List V} {ds : List D} (lo hi : Option Int) (r : RepL L S vs ds) : RepL L S (cutV vs lo hi) (cut ds lo hi) := by
  unfold cutV cut
  rw [r.length]
  exact (r.drop _).take _
theorem cut_map {α β : Type} (f : α → β) (xs : List α) (lo hi : Option Int) : cut (xs.map f) lo hi = (cut xs lo hi).map f := by
  unfold cut
  rw [List.length_map, List.map_take, List.map_drop]

section
variable {X : Cx} {a b c e : Expr} {es : List Expr} {pos : Pos} {cA : Nat → Addr} {cF : Nat → List Str} {fa fb fc : Env → Option R} {fs : Env → Option (List R)}

theorem Res.none {L : Lk} {S H H' : Hp} {Fs : List (List Addr)} {is : List Nat} {v : V} {d : D} (r : Rep L (grow (vis S H (fsOf Fs is)) H H' []) v d) : Res L S Fs H H' v d (.own .no is) := ⟨[], List.nodup_nil, by simp, .no r⟩

theorem se_idx (hu : X.A.units + 65 < cLine) (hs : PlainIx b) (ha : PE X a (SE ⟨X.K, cA, cF⟩ fa)) (hb : PE X b (SE ⟨X.K, cA, cF⟩ fb)) : PE X (.Subscript a b pos) (SE ⟨X.K, cA, cF⟩ fun env => (fa env).bind fun x => (fb env).bind fun y => idxop x y.1) := by
  refine se_two (g := fun x y => idxop x y.1) (fun _ _ h1 h2 => pe_ix (ix_list.or (ix_tup.or (ix_dict (by omega)))) h1 h2 hs) ha hb fun S H H' Fs v w x y z Q hE h r1 r2 hf q => ?_
  obtain ⟨dx, fx⟩ := x
  obtain ⟨dy, fy⟩ := y
  have hx := r1.now hE h
  have hy := r2.now hE h
  unfold idxop at hf
  cases dx <;> simp only [reduceCtorEq] at hf
  case lst ds =>
    cases dy <;> simp only [reduceCtorEq] at hf
    rename_i i
    obtain ⟨d, e, rfl⟩ := Option.map_eq_some_iff.mp hf
    obtain ⟨p, vs, rfl, h1, h2⟩ := r1.items hE h
    obtain ⟨j, e1, e2⟩ := atI_at e
    obtain ⟨u, e3, e4⟩ := h2.get e2
    exact .inl ⟨p, vs, i, u, rfl, intV hy, SqL.of h1, atI_of (by rw [h2.length]; exact e1) e3, q _ _ (Same.refl _) (Res.none e4)⟩
  case scr ns =>
    cases dy <;> simp only [reduceCtorEq] at hf
    rename_i i
    obtain ⟨n, e, rfl⟩ := Option.map_eq_some_iff.mp hf
    cases hx with
    | scr hq =>
      exact .inl ⟨_, _, i, .int n, rfl, intV hy, hq, by rw [atI_map, e]; rfl, q _ _ (Same.refl _) (flatI n)⟩
  case tup ds =>
    cases dy <;> simp only [reduceCtorEq] at hf
    rename_i i
    obtain ⟨j, ej, hf⟩ := Option.bind_eq_some_iff.mp hf
    obtain ⟨d, e, rfl⟩ := Option.map_eq_some_iff.mp hf
    refine .inr (.inl ?_)
    have go : ∀ (p : Addr) (vs : List V) (u : V), v = .ref p → H' p = some (.tup vs) → vs.length = ds.length → vs[j]? = some u →
        Res ⟨X.K, cA, cF⟩ S Fs H H' u d (fx.at j) → rIxT X.K v w H' Q := fun p vs u e1 e2 e3 e4 r =>
      ⟨p, vs, i, u, e1, intV hy, SqT.of e2, atI_of (by rw [e3]; exact ej) e4, q _ _ (Same.refl _) r⟩
    cases fx with
    | own o is =>
      obtain ⟨F, n, f, r⟩ := r1
      cases r with
      | no r =>
        cases r with
        | tup q1 q2 =>
          obtain ⟨u, e3, e4⟩ := q2.get e
          exact go _ _ u rfl (grow_sub hE.vsub h _ _ q1) q2.length e3 (Res.none (e4.mono grow_drop))
      | @tp p vs _ os _ q1 q2 =>
        obtain ⟨u, o', G, e3, e5, e4, nG, sG⟩ := q2.get e n
        refine go p vs u rfl (grow_sub hE.vsub h _ _ q1) q2.length e3 ?_
        have et : tpAt (.tp os) j = o' := by simp only [tpAt, e5]
        show Res _ _ _ _ _ _ _ (.own (tpAt (.tp os) j) is)
        rw [et]
        refine ⟨G, nG, fun a ha => f a (sG a ha), e4.mono (fun a o z => ?_) fun _ _ => rfl⟩
        obtain ⟨z1, z2⟩ := grow_some z
        have hg : a ∉ G := fun y => z1 (sG a y)
        rcases z2 with ⟨y1, y2⟩ | ⟨⟨t, y1⟩, y2⟩
        · rw [grow_new hg y1]; exact y2
        · rw [grow_old hg y1]; exact y2
    | brw b o =>
      obtain ⟨F, n, f, r⟩ := r1
      cases r with
      | no r =>
        cases r with
        | tup q1 q2 =>
          obtain ⟨u, e3, e4⟩ := q2.get e
          exact go _ _ u rfl (grow_sub hE.sub h _ _ q1) q2.length e3 ⟨[], List.nodup_nil, by simp, .no e4⟩
      | @tp p vs _ os _ q1 q2 =>
        obtain ⟨u, o', G, e3, e5, e4, nG, sG⟩ := q2.get e n
        refine go p vs u rfl (grow_sub hE.sub h _ _ q1) q2.length e3 ?_
        have et : tpAt (.tp os) j = o' := by simp only [tpAt, e5]
        show Res _ _ _ _ _ _ _ (.brw b (tpAt (.tp os) j))
        rw [et]
        exact ⟨G, nG, fun a ha => f a (sG a ha), e4⟩
  case dK kds =>
    obtain ⟨k, ek, hf⟩ := Option.bind_eq_some_iff.mp hf
    obtain ⟨d, e, rfl⟩ := Option.map_eq_some_iff.mp hf
    have ek2 := hy.keyV ek
    subst ek2
    have items : ∃ p kvs, v = .ref p ∧ H' p = some (.dK kvs) ∧ kvs.map (·.1) = kds.map (·.1) ∧ RepL ⟨X.K, cA, cF⟩ (grow (vis S H (fsOf Fs fx.el)) H H' []) (kvs.map (·.2)) (kds.map (·.2)) := by
      cases fx with
      | own o is =>
        obtain ⟨F, n, f, r⟩ := r1
        cases r with
        | no r => cases r with | dK q1 q2 q3 => exact ⟨_, _, rfl, grow_sub hE.vsub h _ _ q1, q2, q3.mono grow_drop⟩
        | dK _ q1 q2 q3 => exact ⟨_, _, rfl, q1, q2, q3.mono grow_drop⟩
      | brw i o =>
        obtain ⟨F, n, f, r⟩ := r1
        cases r with
        | no r => cases r with | dK q1 q2 q3 => exact ⟨_, _, rfl, grow_sub hE.sub h _ _ q1, q2, q3.mono (grow_monoS (vis_ge hE.sub))⟩
        | dK _ q1 q2 q3 => exact ⟨_, _, rfl, q1, q2, q3.mono (grow_monoS (vis_ge hE.sub))⟩
    obtain ⟨p, kvs, rfl, h1, h2, h3⟩ := items
    have lk := RepL.look k h2 h3
    rw [e] at lk
    obtain ⟨u, e3, e4⟩ := (show ∃ v, valV kvs k = some v ∧ Rep _ _ v d from lk)
    exact .inr (.inr ⟨p, u, rfl, by have g := DGet.k (k := k) h1; rw [e3] at g; exact g, q _ _ (Same.refl _) (Res.none e4)⟩)
  case dT kds =>
    cases dy <;> simp only [reduceCtorEq] at hf
    rename_i ks
    obtain ⟨k, ek, hf⟩ := Option.bind_eq_some_iff.mp hf
    obtain ⟨d, e, rfl⟩ := Option.map_eq_some_iff.mp hf
    have items : ∃ p kvs, v = .ref p ∧ H' p = some (.dT kvs) ∧ kvs.map (·.1) = kds.map (·.1) ∧ RepL ⟨X.K, cA, cF⟩ (grow (vis S H (fsOf Fs fx.el)) H H' []) (kvs.map (·.2)) (kds.map (·.2)) := by
      cases fx with
      | own o is =>
        obtain ⟨F, n, f, r⟩ := r1
        cases r with
        | no r => cases r with | dT q1 q2 q3 => exact ⟨_, _, rfl, grow_sub hE.vsub h _ _ q1, q2, q3.mono grow_drop⟩
        | dT _ q1 q2 q3 => exact ⟨_, _, rfl, q1, q2, q3.mono grow_drop⟩
      | brw i o =>
        obtain ⟨F, n, f, r⟩ := r1
        cases r with
        | no r => cases r with | dT q1 q2 q3 => exact ⟨_, _, rfl, grow_sub hE.sub h _ _ q1, q2, q3.mono (grow_monoS (vis_ge hE.sub))⟩
        | dT _ q1 q2 q3 => exact ⟨_, _, rfl, q1, q2, q3.mono (grow_monoS (vis_ge hE.sub))⟩
    obtain ⟨p, kvs, rfl, h1, h2, h3⟩ := items
    have lk := RepL.look k h2 h3
    rw [e] at lk
    obtain ⟨u, e3, e4⟩ := (show ∃ v, valV kvs k = some v ∧ Rep _ _ v d from lk)
    cases hy with
    | tup t1 t2 =>
      have ek2 := t2.keysV ek
      subst ek2
      exact .inr (.inr ⟨p, u, rfl, by have g := DGet.t (k := k) h1 t1; rw [e3] at g; exact g, q _ _ (Same.refl _) (Res.none e4)⟩)

/-- a part of a slice -/
def SP1 (L : Lk) (f : Env → Option (Option Int)) : TO := fun σ H Q => ∃ S Fs env r, EB S Fs H ∧ REnv L S Fs H σ env ∧ f env = some r ∧ ∀ H', Same H H' → Q r H'
theorem po_weak {oe : Option Expr} {t t' : TO} (h : PO X oe t) (k : ∀ σ H Q, t' σ H Q → t σ H Q) : PO X oe t' := ⟨fun pins s σ H Q I q => h.run pins s σ H Q I (k σ H Q q)⟩
theorem sp_none : PO X none (SP1 ⟨X.K, cA, cF⟩ fun _ => some none) := po_weak po_none fun σ H Q ⟨S, Fs, env, r, hE, hR, hf, q⟩ => by
  cases hf
  exact q H (Same.refl _)
theorem sp_some (ha : PE X a (SE ⟨X.K, cA, cF⟩ fa)) : PO X (some a) (SP1 ⟨X.K, cA, cF⟩ fun env => (fa env).bind fun x => match x.1 with | .int i => some (some i) | _ => none) := po_weak (po_some ha) fun σ H Q ⟨S, Fs, env, r, hE, hR, hf, q⟩ => by
  obtain ⟨x, ea, hf⟩ := Option.bind_eq_some_iff.mp hf
  obtain ⟨d, fl⟩ := x
  cases d <;> simp only [reduceCtorEq] at hf
  cases hf
  exact SE.one hE hR ea fun v H' h r => ⟨_, intV (r.now hE h), q H' h⟩
theorem se_slc {lo hi : Option Expr} {p2 : Pos} {fl fh : Env → Option (Option Int)} (ha : PE X a (SE ⟨X.K, cA, cF⟩ fa)) (hl : PO X lo (SP1 ⟨X.K, cA, cF⟩ fl)) (hh : PO X hi (SP1 ⟨X.K, cA, cF⟩ fh)) :
    PE X (.Subscript a (.Slice lo hi none p2) pos) (SE ⟨X.K, cA, cF⟩ fun env => (fa env).bind fun x => (fl env).bind fun l => (fh env).bind fun h => slcop x l h) := by
  refine PE.weak (pe_slice (sl_list.or sl_tup) ha hl hh) fun σ H Q ⟨S, Fs, env, z, hE, hR, hf, q⟩ => ?_
  obtain ⟨x, ea, hf⟩ := Option.bind_eq_some_iff.mp hf
  obtain ⟨l, el, hf⟩ := Option.bind_eq_some_iff.mp hf
  obtain ⟨u, eu, hf⟩ := Option.bind_eq_some_iff.mp hf
  refine SE.one hE hR ea fun v H1 h1 r1 => ⟨S, Fs, env, l, hE.step h1, hR.step h1, el, fun H2 h2 => ⟨S, Fs, env, u, (hE.step h1).step h2, (hR.step h1).step h2, eu, fun H3 h3 => ?_⟩⟩
  have h : Same H H3 := h1.trans (h2.trans h3)
  have r := r1.later (h2.trans h3)
  obtain ⟨d, fx⟩ := x
  unfold slcop at hf
  cases d <;> simp only [reduceCtorEq] at hf
  case lst ds =>
    cases hf
    obtain ⟨p, vs, rfl, k1, k2⟩ := r.items hE h
    exact .inl ⟨p, vs, rfl, SqL.of k1, fun p np => q _ _ (h.trans (same_new np)) (Res.newL hE h np (k2.cutR l u))⟩
  case scr ns =>
    cases hf
    have hx := r.now hE h
    cases hx with
    | scr hq =>
      refine .inl ⟨_, _, rfl, hq, fun p np => q _ _ (h.trans (same_new np)) (Res.newL hE h np ?_)⟩
      rw [← cut_map]
      exact (RepL.ints _).cutR l u
  case tup ds =>
    split at hf
    · cases hf
    · rename_i hw
      cases hf
      have key := r.al hE h
      cases key with
      | tup k1 k2 =>
        have k3 := grow_sub hE.vsub h _ _ k1
        refine .inr ⟨_, _, rfl, SqT.of k3, by rw [k2.length]; exact hw, fun p np => q _ _ (h.trans (same_new np)) (Res.none (.tup (vs := cutV _ l u) ?_ ((k2.cutR l u).mono (grow_later0 (same_new np)))))⟩
        rw [grow_new (by simp) (h.free np), upd_same]
theorem se_rev {k : Nat} {p1 p2 p3 : Pos} (ha : PE X a (SE ⟨X.K, cA, cF⟩ fa)) : PE X (.Subscript a (.Slice none none (some (.UnaryOp .USub (.Constant (.int 1) k p1) p2)) p3) pos) (SE ⟨X.K, cA, cF⟩ fun env => (fa env).bind fun x => match x.1 with
    | .lst ds => some (.lst ds.reverse, .own .top x.2.el) | _ => none) := by
  refine PE.weak (pe_revL ha) fun σ H Q ⟨S, Fs, env, z, hE, hR, hf, q⟩ => ?_
  obtain ⟨x, ea, hf⟩ := Option.bind_eq_some_iff.mp hf
  obtain ⟨d, fx⟩ := x
  cases d <;> simp only [reduceCtorEq] at hf
  cases hf
  refine SE.one hE hR ea fun v H' h r => ?_
  obtain ⟨p, vs, rfl, k1, k2⟩ := r.items hE h
  exact ⟨p, vs, rfl, SqL.of k1, fun p np => q _ _ (h.trans (same_new np)) (Res.newL hE h np k2.reverse)⟩
end
end Ix
set_option Elab.async false
set_option linter.all false
set_option maxRecDepth 100000
set_option maxHeartbeats 2000000
namespace Ix
open PySem PySem.Spec PyProof.Rows L2

/-! ### syntax -/
def okE : Expr → Bool
  | .Starred .. => false
  | _ => true
def okIx : Expr → Bool
  | .Slice .. => false
  | .Starred .. => false
  | _ => true
def okO : Expr → Bool
  | .Call .. => false
  | .Starred .. => false
  | _ => true
def okVal : Expr → Bool
  | .ListComp .. => false | .SetComp .. => false | .DictComp .. => false
  | _ => true
theorem star_cons {e : Expr} {es : List Expr} {env : PySem.Env} (h : okE e = true) : starEach (e :: es) env = (false, eval e env) :: starEach es env := by
  cases e <;> first | rfl | (simp [okE] at h)
theorem star_plain {pos : Pos} {env : PySem.Env} : ∀ {es : List Expr}, es.all okE = true → (backTo pos (starEach es env)).any (·.1) = false
  | [], _ => rfl
  | e :: es, h => by
    simp only [List.all_cons, Bool.and_eq_true] at h
    rw [star_cons h.1]
    show (false || (backTo pos (starEach es env)).any (·.1)) = false
    rw [star_plain h.2]
    rfl
theorem star_few {pos : Pos} {env : PySem.Env} : ∀ {es : List Expr}, es.all okE = true → (backTo pos (starEach es env)).all (fun x => !x.1) = true
  | [], _ => rfl
  | e :: es, h => by
    simp only [List.all_cons, Bool.and_eq_true] at h
    rw [star_cons h.1]
    show (true && (backTo pos (starEach es env)).all (fun x => !x.1)) = true
    rw [star_few h.2]
    rfl
theorem base_of {o : Expr} {m : Str} {env : PySem.Env} {w : Sem Value} (h : okO o = true) : attributeBase o m env w = w := by
  cases o <;> first | rfl | (simp [okO] at h)
theorem plain_ix {e : Expr} (h : okIx e = true) : PlainIx e := fun _ _ => by
  cases e <;> first | rfl | (simp [okIx] at h)
theorem few_of {es : List Expr} {env : PySem.Env} {pos : Pos} (h : es.all okE = true) (hl : es.length < 29) : ((backTo pos (starEach es env)).all (fun x => !x.1) && (backToKw pos (keywordEach [] env)).all (fun x => x.1.isSome)
      && decide (es.length + ([] : List Keyword).length + (if ([] : List Keyword).isEmpty then 0 else 1) < 30)) = true := by
  rw [star_few h, Bool.true_and]
  simp [keywordEach, backToKw]
  omega
theorem meth_tree {o : Expr} {m : Str} {apos pos : Pos} {es : List Expr} {env : PySem.Env} (ho : okO o = true) (hs : es.all okE = true) (hl : es.length < 29) (hline : (apos.endLine == pos.line) = true) :
    eval (.Call (.Attribute o m apos) es [] pos) env = (do
      let ov ← eval o env
      standAt apos.atName
      let (f, first) ← holding [ov] (getMethod ov m (do return (← importBound o env).getD true))
      callWith pos f first (backTo pos (starEach es env)) (backToKw pos (keywordEach [] env))) := by
  have hf : methodCallForm (es.length + ([] : List Keyword).length) (backTo pos (starEach es env)) (backToKw pos (keywordEach [] env)) = true := few_of hs hl
  rw [arm_eval_Call, base_of ho]
  unfold methodCall
  rw [hf]
  simp only [calleeOf, methodCallPos, hline, Bool.not_true, Bool.false_or, if_true]
  rfl
end Ix
set_option Elab.async false
set_option linter.all false
set_option maxRecDepth 100000
set_option maxHeartbeats 2000000
namespace Ix
open PySem PySem.Spec PyProof.Rows L2

/-! ### promises -/
/-- a def's promise: what g tells of the arguments -/
def spF (L : Lk) (g : List D → Option (D × Ow)) : Sp := fun vs H Q _ => ∃ S ds r, Same S H ∧ RepL L S vs ds ∧ g ds = some r ∧
  ∀ v H' F, Same H H' → F.Nodup → (∀ a ∈ F, H a = none) → RepO L (grow S H H' F) H' v r.1 r.2 F → Q v H'
/-- an __init__'s promise -/
def spI (L : Lk) (c : Nat) (g : List D → Option D) : Sp := fun vs H Q _ => ∃ S ds d x dx vs', vs = .ref x :: vs' ∧ H x = some (.ins (L.cA c) dx []) ∧ S x = none ∧ Same S H ∧ RepL L S vs' ds ∧ g ds = some d ∧
  ∀ H', (∀ a o, a ≠ x → H a = some o → H' a = some o) → Rep L (grow S (fun a => if a = x then none else H a) H' []) (.ref x) d → Q .non H'

theorem grow_grow {S H H1 H2 : Hp} {F : List Addr} (hS : Same S H) (h1 : Same H H1) (h2 : Same H1 H2) : Same (grow (grow S H H1 []) H1 H2 F) (grow S H H2 F) := fun a o e => by
  obtain ⟨hf, e⟩ := grow_some e
  rcases e with ⟨n, e⟩ | ⟨⟨u, n⟩, e⟩
  · rw [grow_new hf (h1.free n)]; exact e
  · obtain ⟨_, e⟩ := grow_some e
    rcases e with ⟨n', e⟩ | ⟨⟨u', n'⟩, e⟩
    · rw [grow_new hf n']; exact h2 _ _ e
    · rw [grow_old hf n']; exact e
/-- behind a call -/
theorem call_run {L : Lk} {S H H1 : Hp} {Fs : List (List Addr)} {vs : List V} {ds : List D} {is : List Nat} {g : List D → Option (D × Ow)} {r : D × Ow} {Q : VK} {E : XK} (e : EB S Fs H) (h1 : Same H H1)
    (rl : RepL L (grow (vis S H (fsOf Fs is)) H H1 []) vs ds) (eg : g ds = some r) (q : ∀ v H', Same H H' → Res L S Fs H H' v r.1 (retF is r).2 → Q v H') : spF L g vs H1 Q E := by
  refine ⟨_, ds, r, grow_sub e.vsub h1, rl, eg, fun v H2 F h2 n f r2 => q v H2 (h1.trans h2) ?_⟩
  show ∃ F, F.Nodup ∧ (∀ a ∈ F, H a = none) ∧ RepO L (grow (vis S H (fsOf Fs (if (is.isEmpty || r.1.cl r.2) = true then [] else is))) H H2 F) H2 v r.1 r.2 F
  have r3 : RepO L (grow (vis S H (fsOf Fs is)) H H2 F) H2 v r.1 r.2 F := r2.mono (grow_grow e.vsub h1 h2) fun _ _ => rfl
  refine ⟨F, n, fun a ha => h1.free (f a ha), ?_⟩
  split
  · rename_i hc
    rw [Bool.or_eq_true] at hc
    rcases hc with hc | hc
    · have : is = [] := by simpa using hc
      subst this
      exact r3
    · refine r3.clean (fun a us z => ?_) hc
      obtain ⟨hf, z⟩ := grow_some z
      rcases z with ⟨z1, z2⟩ | ⟨⟨u, z1⟩, z2⟩
      · rw [grow_new hf z1]; exact z2
      · rw [grow_old hf z1, fsOf_nil, vis_nil]
        by_cases hw : a ∈ fsOf Fs is
        · rw [vis_in hw] at z2
          exact absurd z2 (e.nt a (fsOf_all hw) us)
        · rw [vis_out hw] at z2
          exact z2
  · exact r3

section
variable {X : Cx} {a b c e o : Expr} {es : List Expr} {p pos apos : Pos} {cA : Nat → Addr} {cF : Nat → List Str} {fa fb fc : Env → Option R} {fs : Env → Option (List R)}

/-! ### calls -/
theorem se_call {k : Nat} {f : Addr} {fd : FuncData} {ps : List Str} {x : Str} {g : List D → Option (D × Ow)} (F : FnOk X.prog X.w X.K X.mg X.base CX0 k f fd ps (spF ⟨X.K, cA, cF⟩ g)) (hr : Room k X.A) (hg : Gl X x) (hm : X.mg x = some (.ref f)) (hk : PySem.W.keepIn X.K (.ref f) = true)
    (hb : Binds X.K fd ps []) (hd : (x == ("__debug__" : Str)) = false) (ho : (e :: es).all okE = true) (ha : PA X (e :: es) (SA ⟨X.K, cA, cF⟩ fs)) :
    PE X (.Call (.Name x p) (e :: es) [] pos) (SE ⟨X.K, cA, cF⟩ fun env => (fs env).bind fun rs => (g (rs.map (·.1))).map (retF (als rs))) := by
  simp only [List.all_cons, Bool.and_eq_true] at ho
  refine PE.weak (pe_call F hr hg hm hk hb .nil pass0 ha hd (star_cons ho.1) (star_plain ho.2)) fun σ H Q ⟨S, Fs, env, z, hE, hR, hf, q⟩ => ?_
  obtain ⟨rs, er, hf⟩ := Option.bind_eq_some_iff.mp hf
  obtain ⟨r, eg, rfl⟩ := Option.map_eq_some_iff.mp hf
  refine ⟨S, Fs, env, rs, hE, hR, er, fun vs H1 F1 h1 n f rl => ?_⟩
  show spF _ g (vs ++ []) H1 Q E0
  rw [List.append_nil]
  exact call_run hE h1 (rl.al hE h1 f fun _ z => z) eg q
theorem se_mk {k : Nat} {f : Addr} {fd : FuncData} {ps : List Str} {x : Str} {c : Nat} {g : List D → Option D} {dv : List V} {dd : List D} {du : List Value} (M : Mk X.K (cA c) f) (F : FnOk X.prog X.w X.K X.mg X.base CX0 k f fd ps (spI ⟨X.K, cA, cF⟩ c g)) (hr : Room (k + 1) X.A) (hg : Gl X x) (hm : X.mg x = some (.ref (cA c)))
    (hb : Binds X.K fd ps du) (hdv : Vals dv du) (hdd : ∀ S, RepL ⟨X.K, cA, cF⟩ S dv dd) (hd : (x == ("__debug__" : Str)) = false) (ho : (e :: es).all okE = true) (ha : PA X (e :: es) (SA ⟨X.K, cA, cF⟩ fs)) :
    PE X (.Call (.Name x p) (e :: es) [] pos) (SE ⟨X.K, cA, cF⟩ fun env => (fs env).bind fun rs => (g (rs.map (·.1) ++ dd)).map fun d => retF (als rs) (d, .no)) := by
  simp only [List.all_cons, Bool.and_eq_true] at ho
  refine PE.weak (pe_make M F hr hg hm hb hdv pass0 ha hd (star_cons ho.1) (star_plain ho.2)) fun σ H Q ⟨S, Fs, env, z, hE, hR, hf, q⟩ => ?_
  obtain ⟨rs, er, hf⟩ := Option.bind_eq_some_iff.mp hf
  obtain ⟨r, eg, rfl⟩ := Option.map_eq_some_iff.mp hf
  refine ⟨S, Fs, env, rs, hE, hR, er, fun vs H1 F1 h1 n f rl y dy ny ndy hne => ?_⟩
  have rl := rl.al hE h1 f fun _ z => z
  have hs : Same H1 (upd (upd H1 dy (.own y)) y (.ins (cA c) dy [])) := fun b u z => by rw [upd_ne (ne_of_none z ny), upd_ne (ne_of_none z ndy)]; exact z
  have hS1 := grow_sub (F := []) (hE.vsub (W := fsOf Fs (als rs))) h1
  refine ⟨grow (vis S H (fsOf Fs (als rs))) H H1 [], rs.map (·.1) ++ dd, r, y, dy, vs ++ dv, rfl, upd_same, ?_, fun b u z => hs _ _ (hS1 _ _ z), rl.append (hdd _), eg, fun H2 k2 r2 => ⟨rfl, ?_⟩⟩
  · cases z : grow (vis S H (fsOf Fs (als rs))) H H1 [] y with
    | none => rfl
    | some u => have := hS1 _ _ z; rw [ny] at this; cases this
  · have h2 : Same H1 H2 := fun b u z => k2 b u (ne_of_none z ny) (hs _ _ z)
    refine q (.ref y) H2 (h1.trans h2) ?_
    have key : Rep ⟨X.K, cA, cF⟩ (grow (vis S H (fsOf Fs (als rs))) H H2 []) (.ref y) r := by
      refine r2.mono fun a u z => ?_
      obtain ⟨_, z⟩ := grow_some z
      rcases z with ⟨z1, z2⟩ | ⟨⟨t, z1⟩, z2⟩
      · have hn : H a = none := by
          by_cases hay : a = y
          · rw [hay]; exact h1.free ny
          · rw [if_neg hay] at z1
            exact h1.free (hs.free z1)
        rw [grow_new (by simp) hn]
        exact z2
      · obtain ⟨_, z2⟩ := grow_some z2
        rcases z2 with ⟨w1, w2⟩ | ⟨⟨t', w1⟩, w2⟩
        · rw [grow_new (by simp) w1]; exact h2 _ _ w2
        · rw [grow_old (by simp) w1]; exact w2
    show Res ⟨X.K, cA, cF⟩ S Fs H H2 (.ref y) r (.own .no (if ((als rs).isEmpty || r.cl .no) = true then [] else als rs))
    split
    · rename_i hc
      rw [Bool.or_eq_true] at hc
      rcases hc with hc | hc
      · have : als rs = [] := by simpa using hc
        rw [this] at key
        exact Res.none key
      · refine Res.none (key.clean (fun a us z => ?_) (by simpa [D.cl, D.cl1] using hc))
        obtain ⟨hf, z⟩ := grow_some z
        rcases z with ⟨z1, z2⟩ | ⟨⟨u, z1⟩, z2⟩
        · rw [grow_new hf z1]; exact z2
        · rw [grow_old hf z1, fsOf_nil, vis_nil]
          by_cases hw : a ∈ fsOf Fs (als rs)
          · rw [vis_in hw] at z2
            exact absurd z2 (hE.nt a (fsOf_all hw) us)
          · rw [vis_out hw] at z2
            exact z2
    · exact Res.none key
/-- what is known of the methods of the own classes -/
def MOk (X : Cx) (cA : Nat → Addr) (cF : Nat → List Str) (k : Nat) (m : Str) (g : Nat → List D → Option (D × Ow)) : Prop :=
  ∀ c ds r, g c ds = some r → ∃ f fd ps, Cls X.K (cA c) ∧ Meth X.K (cA c) m f ∧ (cF c).contains m = false ∧ Binds X.K fd ps [] ∧ FnOk X.prog X.w X.K X.mg X.base CX0 k f fd ps (spF ⟨X.K, cA, cF⟩ (g c))
theorem lookup_none {m : Str} : ∀ {fs : List (Str × V)}, (fs.map (·.1)).contains m = false → fs.lookup m = none
  | [], _ => rfl
  | (k, v) :: r, h => by
    simp only [List.map_cons, List.contains_cons, Bool.or_eq_false_iff] at h
    rw [List.lookup_cons, h.1]
    exact lookup_none h.2
theorem se_meth {k : Nat} {m : Str} {g : Nat → List D → Option (D × Ow)} (M : MOk X cA cF k m g) (hr : Room k X.A) (ho : okO o = true) (hs : (e :: es).all okE = true) (hl : (e :: es).length < 29) (hline : (apos.endLine == pos.line) = true)
    (hobj : PE X o (SE ⟨X.K, cA, cF⟩ fa)) (ha : PA X (e :: es) (SA ⟨X.K, cA, cF⟩ fs)) :
    PE X (.Call (.Attribute o m apos) (e :: es) [] pos) (SE ⟨X.K, cA, cF⟩ fun env => (fa env).bind fun x => match x.1 with
      | .ins c ds => (fs env).bind fun rs => (g c (.ins c ds :: rs.map (·.1))).map (retF (x.2.al ++ als rs))
      | _ => none) := by
  refine ⟨fun pins s σ H Q I h => ?_⟩
  obtain ⟨S, Fs, env, z, hE, hR, hf, q⟩ := h
  obtain ⟨x, ea, hf⟩ := Option.bind_eq_some_iff.mp hf
  obtain ⟨d, fx⟩ := x
  cases d <;> simp only [reduceCtorEq] at hf
  rename_i c ds
  obtain ⟨rs, er, hf⟩ := Option.bind_eq_some_iff.mp hf
  obtain ⟨r, eg, rfl⟩ := Option.map_eq_some_iff.mp hf
  obtain ⟨f, fd, ps, hC, hM, hno, hb, F⟩ := M c _ r eg
  refine methcall_of (pl := do return (← importBound o X.env).getD true) hobj I (SE.one hE hR ea fun v H1 h1 r1 => ?_) (meth_tree ho hs hl hline)
  have rx := r1.al hE h1
  cases hv : r1.now hE h1 with
  | @ins a dx _ fls _ k1 k2 k3 =>
    refine ⟨a, cA c, dx, fls, f, rfl, k1, hC, hM, lookup_none (by rw [k2]; exact hno), fun s1 I1 => ?_⟩
    have hs' := hs
    simp only [List.all_cons, Bool.and_eq_true] at hs'
    have hA := ha.run pos pins s1 σ H1 (fun vs H2 => spF ⟨X.K, cA, cF⟩ (g c) (.ref a :: vs) H2 Q E0) I1 ⟨S, Fs, env, rs, hE.step h1, hR.step h1, er, fun vs H2 F2 h2 n f2 rl => ?_⟩
    · refine PySem.W.callWith_K (first := [.ref a]) (h₀ := X.base) I1.ok.mod.kin hM.kp (thn hA fun us s2 ⟨vs, H2, I2, rv, q2⟩ => ⟨I2.kIn, ?_⟩) (star_cons hs'.1) (star_plain hs'.2)
      exact run_fn (us := .ref a :: us) (vs := .ref a :: vs) F hr hb .nil pass0 I2 (.cons rfl rv) (by rw [List.append_nil]; exact q2)
    · refine call_run hE (h1.trans h2) (.cons (Rep.mono ?_ rx) (RepL.mono ?_ (rl.al (hE.step h1) h2 f2 fun _ z => z))) eg q
      · exact fun a o z => grow_monoS (vis_mono hE.sub (fsOf_mono fun i hi => List.mem_append_left _ hi)) _ _ (grow_later0 h2 _ _ z)
      · rw [vis_step h1 hE.fs]
        exact fun a o z => grow_monoS (vis_mono hE.sub (fsOf_mono fun i hi => List.mem_append_right _ hi)) _ _ (grow_base0 hE.vsub h1 _ _ z)

/-! ### built-ins -/
theorem inst_of {L : Lk} {H : Hp} {v : V} {d : D} {n : String} (r : Rep L H v d) (e : tyName d = some n) : TyX L.K H v (.type n) := by
  cases r <;> simp only [tyName, Option.some.injEq, reduceCtorEq] at e <;> subst e
  · exact .base .non
  · exact .base (.bl _)
  · exact .base (.int _)
  · exact .base (.str _)
  · rename_i h _; exact .base (.tup h)
  · rename_i h _; exact .base (.lst h)
  · rename_i h
    rcases h with (h | ⟨o, h⟩) | ⟨o, its, m, h1, h2, _⟩
    · exact .base (.lst h)
    · exact .base (.frz h)
    · exact .kList h1 h2
  · rename_i h _ _; exact .base (.dK h)
  · rename_i h _ _; exact .base (.dT h)
/-- isinstance(x, T) by a built-in type -/
theorem se_isiT {x t : Str} {n : String} {p2 : Pos} (hg : Gl X x) (hx : x = "isinstance") (hm : X.mg x = none) (hgt : Gl X t) (ht : bootBuiltins t = some (.type n)) (hmt : X.mg t = none) (hnt : t ≠ "__name__") (hdt : (t == ("__debug__" : Str)) = false) (ho : okE a = true) (ha : PE X a (SE ⟨X.K, cA, cF⟩ fa)) :
    PE X (.Call (.Name x p) [a, .Name t p2] [] pos) (SE ⟨X.K, cA, cF⟩ fun env => (fa env).bind fun x => ((tyName x.1).bind fun m => kitB m n).bind fun b => sc (.bl b)) := by
  subst hx
  refine PE.weak (pe_callB call_isi hg hm (by decide +kernel) (pa_cons ha (pa_cons (pe_bltn (v := .ty n) hgt hmt ht rfl hnt hdt) pa_nil) (star_cons ho)) (by decide) (by decide) (star_cons ho) rfl) fun σ H Q ⟨S, Fs, env, z, hE, hR, hf, q⟩ => ?_
  obtain ⟨x, ea, hf⟩ := Option.bind_eq_some_iff.mp hf
  obtain ⟨k, e1, hf⟩ := Option.bind_eq_some_iff.mp hf
  obtain ⟨m, e2, e3⟩ := Option.bind_eq_some_iff.mp e1
  rw [sc_eq hf] at q
  exact SE.one hE hR ea fun v H' h r => ⟨v, .ty n, .type m, .type n, k, rfl, .ty n, inst_of (r.now hE h) e2, kit_ty e3, q _ _ h (flatB _)⟩
/-- what is known of the own classes as types -/
structure ClsT (X : Cx) (cA : Nat → Addr) (c : Nat) : Prop where
  cl : Cls X.K (cA c)
  ha : PySem.W.findIn X.K (.ref (cA c)) "__class__" = some (some (.builtin "object.__class__"))
  hn : PySem.W.specialIn X.K (.builtin "object.__class__") "__get__" = some (some (.builtin "getset_descriptor.__get__"))
  htk : PySem.W.takesIn X.K (.builtin "object.__class__") = some true
  hm : PySem.W.mroIn X.K (cA c) (.type "object") = some true
theorem se_isiC {x t : Str} {c' : Nat} {p2 : Pos} {sub : Nat → Option Bool} (hg : Gl X x) (hx : x = "isinstance") (hm : X.mg x = none) (hgt : Gl X t) (hmt : X.mg t = some (.ref (cA c'))) (hdt : (t == ("__debug__" : Str)) = false)
    (hsub : ∀ c b, sub c = some b → ClsT X cA c ∧ PySem.W.kitOne X.K (.ref (cA c)) (.ref (cA c')) = some b) (ho : okE a = true) (ha : PE X a (SE ⟨X.K, cA, cF⟩ fa)) :
    PE X (.Call (.Name x p) [a, .Name t p2] [] pos) (SE ⟨X.K, cA, cF⟩ fun env => (fa env).bind fun x => (match x.1 with | .ins c _ => sub c | _ => none).bind fun b => sc (.bl b)) := by
  subst hx
  refine PE.weak (pe_callB call_isi hg hm (by decide +kernel) (pa_cons ha (pa_cons (pe_glob (v := .ref (cA c')) hgt hmt rfl hdt) pa_nil) (star_cons ho)) (by decide) (by decide) (star_cons ho) rfl) fun σ H Q ⟨S, Fs, env, z, hE, hR, hf, q⟩ => ?_
  obtain ⟨x, ea, hf⟩ := Option.bind_eq_some_iff.mp hf
  obtain ⟨k, e1, hf⟩ := Option.bind_eq_some_iff.mp hf
  rw [sc_eq hf] at q
  obtain ⟨d, fx⟩ := x
  cases d <;> simp only [reduceCtorEq] at e1
  obtain ⟨hC, hk⟩ := hsub _ _ e1
  refine SE.one hE hR ea fun v H' h r => ?_
  cases r.now hE h with
  | ins k1 k2 k3 => exact ⟨_, .ref (cA c'), .ref (cA _), .ref (cA c'), k, rfl, .own _, .base (.ins k1 hC.cl hC.ha hC.hn hC.htk hC.hm), hk, q _ _ h (flatB _)⟩

/-- a built-in function of one argument, by its rule -/
theorem se_b1 {x : Str} {id : String} {r : List V → Hp → VK → Prop} {g : R → Option R} (hc : CallR X (.builtin id) r) (hv : bootBuiltins x = some (.builtin id)) (hn : x ≠ "__name__") (hd : (x == ("__debug__" : Str)) = false) (hg : Gl X x) (hm : X.mg x = none) (ho : okE a = true) (ha : PE X a (SE ⟨X.K, cA, cF⟩ fa))
    (k : ∀ (S H H' : Hp) (Fs : List (List Addr)) (v : V) (x z : R) (Q : VK), EB S Fs H → Same H H' → Res ⟨X.K, cA, cF⟩ S Fs H H' v x.1 x.2 → g x = some z →
      (∀ u H2, Same H' H2 → Res ⟨X.K, cA, cF⟩ S Fs H H2 u z.1 z.2 → Q u H2) → r [v] H' Q) :
    PE X (.Call (.Name x p) [a] [] pos) (SE ⟨X.K, cA, cF⟩ fun env => (fa env).bind fun x => g x) := by
  refine PE.weak (pe_callB hc hg hm hv (pa_cons ha pa_nil (star_cons ho)) hn hd (star_cons ho) rfl) fun σ H Q ⟨S, Fs, env, z, hE, hR, hf, q⟩ => ?_
  obtain ⟨x, ea, hf⟩ := Option.bind_eq_some_iff.mp hf
  exact SE.one hE hR ea fun v H2 h2 r1 => k S H H2 Fs v x z Q hE h2 r1 hf fun u H3 h3 r3 => q u H3 (h2.trans h3) r3
theorem se_t1 {x : Str} {T : String} {r : List V → Hp → VK → Prop} {g : R → Option R} (hc : CallR X (.type T) r) (hv : bootBuiltins x = some (.type T)) (hn : x ≠ "__name__") (hd : (x == ("__debug__" : Str)) = false) (hg : Gl X x) (hm : X.mg x = none) (ho : okE a = true) (ha : PE X a (SE ⟨X.K, cA, cF⟩ fa))
    (k : ∀ (S H H' : Hp) (Fs : List (List Addr)) (v : V) (x z : R) (Q : VK), EB S Fs H → Same H H' → Res ⟨X.K, cA, cF⟩ S Fs H H' v x.1 x.2 → g x = some z →
      (∀ u H2, Same H' H2 → Res ⟨X.K, cA, cF⟩ S Fs H H2 u z.1 z.2 → Q u H2) → r [v] H' Q) :
    PE X (.Call (.Name x p) [a] [] pos) (SE ⟨X.K, cA, cF⟩ fun env => (fa env).bind fun x => g x) := by
  refine PE.weak (pe_callTy hc hg hm hv (pa_cons ha pa_nil (star_cons ho)) hn hd (star_cons ho) rfl) fun σ H Q ⟨S, Fs, env, z, hE, hR, hf, q⟩ => ?_
  obtain ⟨x, ea, hf⟩ := Option.bind_eq_some_iff.mp hf
  exact SE.one hE hR ea fun v H2 h2 r1 => k S H H2 Fs v x z Q hE h2 r1 hf fun u H3 h3 r3 => q u H3 (h2.trans h3) r3
theorem asInts_map : ∀ {ds : List D} {ns : List Int}, asInts ds = some ns → ds = ns.map D.int
  | [], _, h => by simp [asInts] at h; subst h; rfl
  | .int i :: ds, _, h => by
    simp only [asInts, Option.map_eq_some_iff] at h
    obtain ⟨ns, h, rfl⟩ := h
    rw [asInts_map h]
    rfl
  | .non :: _, _, h => by simp [asInts] at h
  | .bl _ :: _, _, h => by simp [asInts] at h
  | .str _ :: _, _, h => by simp [asInts] at h
  | .tup _ :: _, _, h => by simp [asInts] at h
  | .lst _ :: _, _, h => by simp [asInts] at h
  | .scr _ :: _, _, h => by simp [asInts] at h
  | .dK _ :: _, _, h => by simp [asInts] at h
  | .dT _ :: _, _, h => by simp [asInts] at h
  | .ins _ _ :: _, _, h => by simp [asInts] at h
theorem foldl_max (xs : List Int) : ∀ x : Int, (∀ y ∈ x :: xs, y ≤ xs.foldl max x) ∧ xs.foldl max x ∈ x :: xs := by
  induction xs with
  | nil => intro x; exact ⟨by simp, by simp⟩
  | cons z zs ih =>
    intro x
    obtain ⟨h1, h2⟩ := ih (max x z)
    rw [List.foldl_cons]
    have h3 := h1 (max x z) (by simp)
    refine ⟨fun y hy => ?_, ?_⟩
    · rcases List.mem_cons.mp hy with rfl | hy
      · omega
      · rcases List.mem_cons.mp hy with rfl | hy
        · omega
        · exact h1 y (List.mem_cons_of_mem _ hy)
    · rcases List.mem_cons.mp h2 with e | e
      · rw [e]
        rcases Int.le_total x z with q | q
        · rw [Int.max_eq_right q]; simp
        · rw [Int.max_eq_left q]; simp
      · exact List.mem_cons_of_mem _ (List.mem_cons_of_mem _ e)
theorem foldl_min (xs : List Int) : ∀ x : Int, (∀ y ∈ x :: xs, xs.foldl min x ≤ y) ∧ xs.foldl min x ∈ x :: xs := by
  induction xs with
  | nil => intro x; exact ⟨by simp, by simp⟩
  | cons z zs ih =>
    intro x
    obtain ⟨h1, h2⟩ := ih (min x z)
    rw [List.foldl_cons]
    have h3 := h1 (min x z) (by simp)
    refine ⟨fun y hy => ?_, ?_⟩
    · rcases List.mem_cons.mp hy with rfl | hy
      · omega
      · rcases List.mem_cons.mp hy with rfl | hy
        · omega
        · exact h1 y (List.mem_cons_of_mem _ hy)
    · rcases List.mem_cons.mp h2 with e | e
      · rw [e]
        rcases Int.le_total x z with q | q
        · rw [Int.min_eq_left q]; simp
        · rw [Int.min_eq_right q]; simp
      · exact List.mem_cons_of_mem _ (List.mem_cons_of_mem _ e)
theorem se_max1 (hca : X.calm = true) {x : Str} (hx : x = "max") (hg : Gl X x) (hm : X.mg x = none) (ho : okE a = true) (ha : PE X a (SE ⟨X.K, cA, cF⟩ fa)) : PE X (.Call (.Name x p) [a] [] pos) (SE ⟨X.K, cA, cF⟩ fun env => (fa env).bind fun x => b1op .max x) := by
  subst hx
  refine se_b1 (cr_max hca) (by decide +kernel) (by decide) (by decide) hg hm ho ha fun S H H' Fs v x z Q hE h r hf q => ?_
  obtain ⟨d, fx⟩ := x
  cases d <;> simp only [b1op, reduceCtorEq] at hf
  obtain ⟨ns, e1, hf⟩ := Option.bind_eq_some_iff.mp hf
  obtain ⟨m, e2, hf⟩ := Option.bind_eq_some_iff.mp hf
  rw [sc_eq hf] at q
  obtain ⟨p1, vs, rfl, h1, k1⟩ := r.items hE h
  rw [asInts_map e1] at k1
  have e3 := k1.intsV
  subst e3
  cases ns with
  | nil => simp [listMax] at e2
  | cons n ns =>
    simp only [listMax, Option.some.injEq] at e2
    refine ⟨p1, n :: ns, rfl, SqL.of h1, by simp, fun m' hm' hle => ?_⟩
    obtain ⟨q1, q2⟩ := foldl_max ns n
    have e4 : m' = m := by
      have a1 := q1 m' hm'
      have a2 := hle _ q2
      omega
    rw [e4]
    exact q _ _ (Same.refl _) (flatI _)
theorem se_min1 (hca : X.calm = true) {x : Str} (hx : x = "min") (hg : Gl X x) (hm : X.mg x = none) (ho : okE a = true) (ha : PE X a (SE ⟨X.K, cA, cF⟩ fa)) : PE X (.Call (.Name x p) [a] [] pos) (SE ⟨X.K, cA, cF⟩ fun env => (fa env).bind fun x => b1op .min x) := by
  subst hx
  refine se_b1 (cr_min hca) (by decide +kernel) (by decide) (by decide) hg hm ho ha fun S H H' Fs v x z Q hE h r hf q => ?_
  obtain ⟨d, fx⟩ := x
  cases d <;> simp only [b1op, reduceCtorEq] at hf
  obtain ⟨ns, e1, hf⟩ := Option.bind_eq_some_iff.mp hf
  obtain ⟨m, e2, hf⟩ := Option.bind_eq_some_iff.mp hf
  rw [sc_eq hf] at q
  obtain ⟨p1, vs, rfl, h1, k1⟩ := r.items hE h
  rw [asInts_map e1] at k1
  have e3 := k1.intsV
  subst e3
  cases ns with
  | nil => simp [listMin] at e2
  | cons n ns =>
    simp only [listMin, Option.some.injEq] at e2
    refine ⟨p1, n :: ns, rfl, SqL.of h1, by simp, fun m' hm' hle => ?_⟩
    obtain ⟨q1, q2⟩ := foldl_min ns n
    have e4 : m' = m := by
      have a1 := q1 m' hm'
      have a2 := hle _ q2
      omega
    rw [e4]
    exact q _ _ (Same.refl _) (flatI _)
theorem se_len {x : Str} (hx : x = "len") (hg : Gl X x) (hm : X.mg x = none) (ho : okE a = true) (ha : PE X a (SE ⟨X.K, cA, cF⟩ fa)) : PE X (.Call (.Name x p) [a] [] pos) (SE ⟨X.K, cA, cF⟩ fun env => (fa env).bind fun x => b1op .len x) := by
  subst hx
  refine se_b1 call_len_seq (by decide +kernel) (by decide) (by decide) hg hm ho ha fun S H H' Fs v x z Q hE h r hf q => ?_
  obtain ⟨d, fx⟩ := x
  cases d <;> simp only [b1op, reduceCtorEq] at hf <;> rw [sc_eq hf] at q <;> cases r.now hE h
  · rename_i h1 h2
    exact ⟨_, _, rfl, .inr (SqT.of h1), by rw [h2.length]; exact q _ _ (Same.refl _) (flatI _)⟩
  · rename_i h1 h2
    exact ⟨_, _, rfl, .inl (SqL.of h1), by rw [h2.length]; exact q _ _ (Same.refl _) (flatI _)⟩
  · rename_i h1
    exact ⟨_, _, rfl, .inl h1, by rw [List.length_map]; exact q _ _ (Same.refl _) (flatI _)⟩
theorem se_abs {x : Str} (hx : x = "abs") (hg : Gl X x) (hm : X.mg x = none) (ho : okE a = true) (ha : PE X a (SE ⟨X.K, cA, cF⟩ fa)) : PE X (.Call (.Name x p) [a] [] pos) (SE ⟨X.K, cA, cF⟩ fun env => (fa env).bind fun x => b1op .abs x) := by
  subst hx
  refine se_b1 call_abs (by decide +kernel) (by decide) (by decide) hg hm ho ha fun S H H' Fs v x z Q hE h r hf q => ?_
  obtain ⟨d, fx⟩ := x
  cases d <;> simp only [b1op, reduceCtorEq] at hf
  rw [sc_eq hf] at q
  exact ⟨_, by rw [intV (r.now hE h)], q _ _ (Same.refl _) (flatI _)⟩
theorem se_int {x : Str} (hx : x = "int") (hg : Gl X x) (hm : X.mg x = none) (ho : okE a = true) (ha : PE X a (SE ⟨X.K, cA, cF⟩ fa)) : PE X (.Call (.Name x p) [a] [] pos) (SE ⟨X.K, cA, cF⟩ fun env => (fa env).bind fun x => b1op .int x) := by
  subst hx
  refine se_t1 call_int1 (by decide +kernel) (by decide) (by decide) hg hm ho ha fun S H H' Fs v x z Q hE h r hf q => ?_
  obtain ⟨d, fx⟩ := x
  cases d <;> simp only [b1op, reduceCtorEq] at hf <;> rw [sc_eq hf] at q
  · exact .inr ⟨_, by rw [blV (r.now hE h)], q _ _ (Same.refl _) (flatI _)⟩
  · exact .inl ⟨_, by rw [intV (r.now hE h)], q _ _ (Same.refl _) (flatI _)⟩
theorem se_str {x : Str} (hx : x = "str") (hg : Gl X x) (hm : X.mg x = none) (ho : okE a = true) (ha : PE X a (SE ⟨X.K, cA, cF⟩ fa)) : PE X (.Call (.Name x p) [a] [] pos) (SE ⟨X.K, cA, cF⟩ fun env => (fa env).bind fun x => b1op .str x) := by
  subst hx
  refine se_t1 call_str_int (by decide +kernel) (by decide) (by decide) hg hm ho ha fun S H H' Fs v x z Q hE h r hf q => ?_
  obtain ⟨d, fx⟩ := x
  cases d <;> simp only [b1op, reduceCtorEq] at hf
  split at hf
  · rename_i hz
    rw [sc_eq hf] at q
    exact ⟨_, by rw [intV (r.now hE h)], hz, q _ _ (Same.refl _) (Res.flat (.str _))⟩
  · cases hf
theorem se_list {x : Str} (hx : x = "list") (hg : Gl X x) (hm : X.mg x = none) (ho : okE a = true) (ha : PE X a (SE ⟨X.K, cA, cF⟩ fa)) : PE X (.Call (.Name x p) [a] [] pos) (SE ⟨X.K, cA, cF⟩ fun env => (fa env).bind fun x => b1op .list x) := by
  subst hx
  refine se_t1 call_list_of (by decide +kernel) (by decide) (by decide) hg hm ho ha fun S H H' Fs v x z Q hE h r hf q => ?_
  obtain ⟨d, fx⟩ := x
  cases d <;> simp only [b1op, reduceCtorEq] at hf <;> cases hf
  · cases r.al hE h with
    | tup h1 h2 => exact ⟨_, _, rfl, .inr (SqT.of (grow_sub hE.vsub h _ _ h1)), fun l nl => q _ _ (same_new nl) (Res.newL hE h nl h2)⟩
  · obtain ⟨p1, vs, rfl, h1, k1⟩ := r.items hE h
    exact ⟨_, _, rfl, .inl (SqL.of h1), fun l nl => q _ _ (same_new nl) (Res.newL hE h nl k1)⟩
end
end Ix
set_option Elab.async false
set_option linter.all false
set_option maxRecDepth 100000
set_option maxHeartbeats 2000000
namespace Ix
open PySem PySem.Spec PyProof.Rows L2

/-! ### sorted -/
theorem each_of {L : Lk} {S : Hp} : ∀ {ws : List V} {us : List Value} {ds : List D}, Vals ws us → RepL L S ws ds → PySem.W.EachIs (fun u d => ∃ v, RelV v u ∧ Rep L S v d) us ds
  | _, _, _, .nil, .nil => .nil
  | _, _, _, .cons r t, .cons a b => .cons ⟨_, r, a⟩ (each_of t b)
theorem of_each {L : Lk} {S : Hp} : ∀ {us : List Value} {ds : List D}, PySem.W.EachIs (fun u d => ∃ v, RelV v u ∧ Rep L S v d) us ds → ∃ ws, Vals ws us ∧ RepL L S ws ds
  | _, _, .nil => ⟨[], .nil, .nil⟩
  | _, _, .cons ⟨v, r, a⟩ t => let ⟨ws, h1, h2⟩ := of_each t; ⟨v :: ws, .cons r h1, .cons a h2⟩
theorem pys_map : ∀ {ds : List D} {ps : List PyData}, D.pys ds = some ps → ds.map D.pyD = ps ∧ ∀ d ∈ ds, d.py = some d.pyD
  | [], _, h => by simp [D.pys] at h; subst h; exact ⟨rfl, by simp⟩
  | d :: ds, _, h => by
    simp only [D.pys] at h
    split at h
    · rename_i a b e1 e2
      cases h
      obtain ⟨h1, h2⟩ := pys_map e2
      have e3 : d.pyD = a := by unfold D.pyD; rw [e1]; rfl
      refine ⟨by rw [List.map_cons, h1, e3], fun x hx => ?_⟩
      rcases List.mem_cons.mp hx with rfl | hx
      · rw [e1, e3]
      · exact h2 x hx
    · cases h
theorem each_reads {X : Cx} {cA : Nat → Addr} {cF : Nat → List Str} {pins : List (Addr × Obj)} {σ : L2.St} {H : Hp} {s : Shared} (I : Inv X pins σ H s) : ∀ {ws : List V} {us : List Value} {ds : List D}, Vals ws us → RepL ⟨X.K, cA, cF⟩ H ws ds → (∀ d ∈ ds, d.py = some d.pyD) →
    PySem.W.EachIs (fun u d => ∃ as, Reads s.heap u (D.pyD d) as) us ds
  | _, _, _, .nil, .nil, _ => .nil
  | _, _, _, .cons r t, .cons a b, h => .cons (Dp.reads I _ _ _ (a.dp (h _ (by simp))) r) (each_reads I t b fun d hd => h d (List.mem_cons_of_mem _ hd))
def rSortedD (L : Lk) : List V → Hp → VK → Prop := fun vs H Q => ∃ a ws ds ps S, vs = [.ref a] ∧ H a = some (.lst ws) ∧ Same S H ∧ RepL L S ws ds ∧ D.pys ds = some ps ∧ sortable ps = true ∧ ds.length ≤ szb ∧
  ∀ p us, H p = none → RepL L S us (sortD ds) → Q (.ref p) (upd H p (.lst us))
theorem cr_sortedD {X : Cx} {cA : Nat → Addr} {cF : Nat → List Str} (hu : X.A.units + 65 < cLine) : CallR X (.builtin "sorted") (rSortedD ⟨X.K, cA, cF⟩) := by
  intro pins s σ H vs us Q I r h
  obtain ⟨a, ws, ds, ps, S, rfl, ha, hS, rl, hp, hso, hz, q⟩ := h
  obtain ⟨its, rv, hl, _⟩ := I.list (SqL.of ha)
  rw [Vals.ref1 r]
  obtain ⟨e1, e2⟩ := pys_map hp
  unfold sortable at hso
  rw [Bool.and_eq_true, Bool.and_eq_true, Bool.or_eq_true] at hso
  obtain ⟨⟨h1, h2⟩, h3⟩ := hso
  have hs := szb_line
  refine PySem.W.sorted_data (enc := D.pyD) hl.isList (each_of rv rl) (each_reads I rv (rl.mono hS) e2) ?_ ?_ (by omega) ?_ fun out ho eo => ?_
  · rw [e1]
    exact fun x hx y hy => List.all_eq_true.mp (List.all_eq_true.mp h1 x hx) y hy
  · rw [e1]
    rcases h2 with h2 | h2
    · refine .inl fun d hd => ?_
      have := List.all_eq_true.mp h2 d hd
      split at this
      · exact ⟨_, _, rfl⟩
      · cases this
    · refine .inr fun d hd => ?_
      have := List.all_eq_true.mp h2 d hd
      split at this
      · exact ⟨by simp, by simp⟩
      · exact ⟨by simp, by simp⟩
      · cases this
  · intro b hb
    have := of_decide_eq_true (List.all_eq_true.mp h3 b.pyD (by rw [← e1]; exact List.mem_map.mpr ⟨b, hb, rfl⟩))
    omega
  · obtain ⟨us, hv, hr⟩ := of_each eo
    obtain ⟨ep, he'⟩ := PyProof.Rows.sortedAll_at s.heap its out.toArray
    have hlen : us.length ≤ sizeLine := by rw [hv.length, ho]; omega
    exact ⟨.ref _, upd H (s.heap.objs.size + 1) (.lst us), I.laid (t' := s.toks) (fun _ _ => PyProof.Rows.sortedAll_old) (Nat.le_succ _) ⟨hlen, out, ep, hv, he'⟩, rfl, q _ us (I.hok.fresh (Nat.le_succ _)) hr⟩

section
variable {X : Cx} {a b c e o : Expr} {es : List Expr} {p pos apos : Pos} {cA : Nat → Addr} {cF : Nat → List Str} {fa fb fc : Env → Option R} {fs : Env → Option (List R)}
theorem se_sorted (hu : X.A.units + 65 < cLine) {x : Str} (hx : x = "sorted") (hg : Gl X x) (hm : X.mg x = none) (ho : okE a = true) (ha : PE X a (SE ⟨X.K, cA, cF⟩ fa)) : PE X (.Call (.Name x p) [a] [] pos) (SE ⟨X.K, cA, cF⟩ fun env => (fa env).bind fun x => b1op .sorted x) := by
  subst hx
  refine se_b1 (cr_sortedD (cA := cA) (cF := cF) hu) (by decide +kernel) (by decide) (by decide) hg hm ho ha fun S H H' Fs v x z Q hE h r hf q => ?_
  obtain ⟨d, fx⟩ := x
  cases d <;> simp only [b1op, reduceCtorEq] at hf
  rename_i ds
  split at hf
  · rename_i ps hp
    split at hf
    · rename_i hc
      cases hf
      obtain ⟨p1, vs, rfl, h1, k1⟩ := r.items hE h
      exact ⟨p1, vs, ds, ps, _, rfl, h1, grow_sub hE.vsub h, k1, hp, hc.1, hc.2, fun p us np hr => q _ _ (same_new np) (Res.newL hE h np hr)⟩
    · cases hf
  · cases hf
theorem se_b2 (hca : X.calm = true) {x : Str} (k : B2) (hx : x = match k with | .max => "max" | .min => "min") (hg : Gl X x) (hm : X.mg x = none) (ho : okE a = true) (ho2 : okE b = true) (ha : PE X a (SE ⟨X.K, cA, cF⟩ fa)) (hb : PE X b (SE ⟨X.K, cA, cF⟩ fb)) :
    PE X (.Call (.Name x p) [a, b] [] pos) (SE ⟨X.K, cA, cF⟩ fun env => (fa env).bind fun x => (fb env).bind fun y => b2op k x.1 y.1) := by
  have hA := pa_cons ha (pa_cons hb pa_nil (star_cons ho2)) (star_cons ho)
  have hpl : ∀ pos, (backTo pos (starEach [b] X.env)).any (·.1) = false := fun pos => star_plain (by simp [ho2])
  cases k with
  | max =>
    subst hx
    refine PE.weak (pe_callB (call_max2 hca) hg hm (by decide +kernel) hA (by decide) (by decide) (star_cons ho) (hpl _)) fun σ H Q ⟨S, Fs, env, z, hE, hR, hf, q⟩ => ?_
    obtain ⟨x, ea, hf⟩ := Option.bind_eq_some_iff.mp hf
    obtain ⟨y, eb, hf⟩ := Option.bind_eq_some_iff.mp hf
    obtain ⟨dx, fx⟩ := x
    obtain ⟨dy, fy⟩ := y
    cases dx <;> cases dy <;> simp only [b2op, reduceCtorEq] at hf
    rw [sc_eq hf] at q
    exact SE.two hE hR ea eb fun v w H2 h2 r1 r2 => ⟨_, _, by rw [intV (r1.now hE h2), intV (r2.now hE h2)], q _ _ h2 (flatI _)⟩
  | min =>
    subst hx
    refine PE.weak (pe_callB (call_min2 hca) hg hm (by decide +kernel) hA (by decide) (by decide) (star_cons ho) (hpl _)) fun σ H Q ⟨S, Fs, env, z, hE, hR, hf, q⟩ => ?_
    obtain ⟨x, ea, hf⟩ := Option.bind_eq_some_iff.mp hf
    obtain ⟨y, eb, hf⟩ := Option.bind_eq_some_iff.mp hf
    obtain ⟨dx, fx⟩ := x
    obtain ⟨dy, fy⟩ := y
    cases dx <;> cases dy <;> simp only [b2op, reduceCtorEq] at hf
    rw [sc_eq hf] at q
    exact SE.two hE hR ea eb fun v w H2 h2 r1 r2 => ⟨_, _, by rw [intV (r1.now hE h2), intV (r2.now hE h2)], q _ _ h2 (flatI _)⟩
/-- a dict's items -/
theorem Res.itemsK {L : Lk} {S H H' : Hp} {Fs : List (List Addr)} {v : V} {fl : Fl} {kds : List (Key × D)} (hE : EB S Fs H) (h : Same H H') (r1 : Res L S Fs H H' v (.dK kds) fl) : ∃ p kvs, v = .ref p ∧ H' p = some (.dK kvs) ∧ kvs.map (·.1) = kds.map (·.1) ∧ RepL L (grow (vis S H (fsOf Fs fl.el)) H H' []) (kvs.map (·.2)) (kds.map (·.2)) := by
  cases fl with
  | own o is =>
    obtain ⟨F, n, f, r⟩ := r1
    cases r with
    | no r => cases r with | dK q1 q2 q3 => exact ⟨_, _, rfl, grow_sub hE.vsub h _ _ q1, q2, q3.mono grow_drop⟩
    | dK _ q1 q2 q3 => exact ⟨_, _, rfl, q1, q2, q3.mono grow_drop⟩
  | brw i o =>
    obtain ⟨F, n, f, r⟩ := r1
    cases r with
    | no r => cases r with | dK q1 q2 q3 => exact ⟨_, _, rfl, grow_sub hE.sub h _ _ q1, q2, q3.mono (grow_monoS (vis_ge hE.sub))⟩
    | dK _ q1 q2 q3 => exact ⟨_, _, rfl, q1, q2, q3.mono (grow_monoS (vis_ge hE.sub))⟩
theorem Res.itemsT {L : Lk} {S H H' : Hp} {Fs : List (List Addr)} {v : V} {fl : Fl} {kds : List (List Key × D)} (hE : EB S Fs H) (h : Same H H') (r1 : Res L S Fs H H' v (.dT kds) fl) : ∃ p kvs, v = .ref p ∧ H' p = some (.dT kvs) ∧ kvs.map (·.1) = kds.map (·.1) ∧ RepL L (grow (vis S H (fsOf Fs fl.el)) H H' []) (kvs.map (·.2)) (kds.map (·.2)) := by
  cases fl with
  | own o is =>
    obtain ⟨F, n, f, r⟩ := r1
    cases r with
    | no r => cases r with | dT q1 q2 q3 => exact ⟨_, _, rfl, grow_sub hE.vsub h _ _ q1, q2, q3.mono grow_drop⟩
    | dT _ q1 q2 q3 => exact ⟨_, _, rfl, q1, q2, q3.mono grow_drop⟩
  | brw i o =>
    obtain ⟨F, n, f, r⟩ := r1
    cases r with
    | no r => cases r with | dT q1 q2 q3 => exact ⟨_, _, rfl, grow_sub hE.sub h _ _ q1, q2, q3.mono (grow_monoS (vis_ge hE.sub))⟩
    | dT _ q1 q2 q3 => exact ⟨_, _, rfl, q1, q2, q3.mono (grow_monoS (vis_ge hE.sub))⟩
/-- what a look-up with a default hands on -/
theorem get_rep {L : Lk} {κ : Type} [DecidableEq κ] {G : Hp} {kvs : List (κ × V)} {kds : List (κ × D)} {k : κ} {z : V} {dz : D} (h2 : kvs.map (·.1) = kds.map (·.1)) (h3 : RepL L G (kvs.map (·.2)) (kds.map (·.2))) (rz : Rep L G z dz) : Rep L G ((valV kvs k).getD z) ((look kds k).getD dz) := by
  have lk := RepL.look k h2 h3
  cases e : look kds k with
  | none =>
    rw [e] at lk
    rw [show valV kvs k = none from lk]
    exact rz
  | some d =>
    rw [e] at lk
    obtain ⟨u, e3, e4⟩ := (show ∃ v, valV kvs k = some v ∧ Rep L G v d from lk)
    rw [e3]
    exact e4
theorem se_get2 (hu : X.A.units + 65 < cLine) (hoo : okO o = true) (ho : okE a = true) (ho2 : okE b = true) (hline : (apos.endLine == pos.line) = true) (hd : PE X o (SE ⟨X.K, cA, cF⟩ fc)) (ha : PE X a (SE ⟨X.K, cA, cF⟩ fa)) (hb : PE X b (SE ⟨X.K, cA, cF⟩ fb)) :
    PE X (.Call (.Attribute o "get" apos) [a, b] [] pos) (SE ⟨X.K, cA, cF⟩ fun env => (fc env).bind fun d => (fa env).bind fun k => (fb env).bind fun x => getop d k x) := by
  have M : M2 X o "get" apos a b pos := ⟨base_of hoo, few_of (by simp [ho, ho2]) (by simp), hline, by rw [star_cons ho, star_cons ho2]; rfl⟩
  refine PE.weak (pe_dget2 (by omega) hd ha hb M) fun σ H Q ⟨S, Fs, env, z, hE, hR, hf, q⟩ => ?_
  obtain ⟨d, ed, hf⟩ := Option.bind_eq_some_iff.mp hf
  obtain ⟨k, ek, hf⟩ := Option.bind_eq_some_iff.mp hf
  obtain ⟨x, ex, hf⟩ := Option.bind_eq_some_iff.mp hf
  refine SE.one hE hR ed fun v H1 h1 r1 => ?_
  obtain ⟨dd, fd⟩ := d
  unfold getop at hf
  cases dd <;> simp only [reduceCtorEq] at hf
  case dK kds =>
    obtain ⟨key, ekey, rfl⟩ := Option.map_eq_some_iff.mp hf
    obtain ⟨p1, kvs, rfl, k1, k2, k3⟩ := r1.itemsK hE h1
    refine ⟨p1, rfl, .inl ⟨kvs, .inl k1⟩, SE.two (hE.step h1) (hR.step h1) ek ex fun u w H3 h3 r3 r4 => ?_⟩
    have e := (r3.now (hE.step h1) h3).keyV ekey
    subst e
    have r5 := (r4.base hE h1).al hE (h1.trans h3)
    refine ⟨_, DGet.k (h3 _ _ k1), q _ _ (h1.trans h3) (Res.none ?_)⟩
    exact get_rep k2 ((k3.mono (grow_later0 h3)).mono (grow_monoS (vis_mono hE.sub (fsOf_mono fun i hi => List.mem_append_left _ hi)))) (r5.mono (grow_monoS (vis_mono hE.sub (fsOf_mono fun i hi => List.mem_append_right _ hi))))
  case dT kds =>
    obtain ⟨dk, fk⟩ := k
    cases dk <;> simp only [reduceCtorEq] at hf
    obtain ⟨key, ekey, rfl⟩ := Option.map_eq_some_iff.mp hf
    obtain ⟨p1, kvs, rfl, k1, k2, k3⟩ := r1.itemsT hE h1
    refine ⟨p1, rfl, .inr ⟨kvs, .inl k1⟩, SE.two (hE.step h1) (hR.step h1) ek ex fun u w H3 h3 r3 r4 => ?_⟩
    have r5 := (r4.base hE h1).al hE (h1.trans h3)
    cases r3.now (hE.step h1) h3 with
    | tup t1 t2 =>
      have e := t2.keysV ekey
      subst e
      refine ⟨_, DGet.t (h3 _ _ k1) t1, q _ _ (h1.trans h3) (Res.none ?_)⟩
      exact get_rep k2 ((k3.mono (grow_later0 h3)).mono (grow_monoS (vis_mono hE.sub (fsOf_mono fun i hi => List.mem_append_left _ hi)))) (r5.mono (grow_monoS (vis_mono hE.sub (fsOf_mono fun i hi => List.mem_append_right _ hi))))
/-- what is known of a field -/
structure FOk (X : Cx) (cA : Nat → Addr) (cF : Nat → List Str) (c j : Nat) (f : Str) : Prop where
  cl : Cls X.K (cA c)
  no : NoAttr X.K (cA c) f
  at_ : (cF c)[j]? = some f
  nd : (cF c).Nodup
theorem lookup_at {f : Str} : ∀ {fs : List (Str × V)} {j : Nat} {v : V}, (fs.map (·.1)).Nodup → (fs.map (·.1))[j]? = some f → (fs.map (·.2))[j]? = some v → fs.lookup f = some v
  | [], _, _, _, h, _ => by simp at h
  | (k, w) :: r, 0, v, _, h1, h2 => by
    simp at h1 h2
    subst h1 h2
    rw [List.lookup_cons]
    simp
  | (k, w) :: r, j + 1, v, nd, h1, h2 => by
    simp only [List.map_cons, List.nodup_cons] at nd
    simp only [List.map_cons, List.getElem?_cons_succ] at h1 h2
    have hk : (f == k) = false := by
      rw [beq_eq_false_iff_ne]
      rintro rfl
      exact nd.1 (List.mem_of_getElem? h1)
    rw [List.lookup_cons, hk]
    exact lookup_at nd.2 h1 h2
theorem se_fld {f : Str} {c j : Nat} (F : FOk X cA cF c j f) (ho : okO a = true) (ha : PE X a (SE ⟨X.K, cA, cF⟩ fa)) : PE X (.Attribute a f pos) (SE ⟨X.K, cA, cF⟩ fun env => (fa env).bind fun x => match x.1 with
    | .ins c' ds => if c' = c then (ds[j]?).map fun d => (d, .own .no x.2.al) else none
    | _ => none) := by
  refine PE.weak (pe_fld ha (base_of ho)) fun σ H Q ⟨S, Fs, env, z, hE, hR, hf, q⟩ => ?_
  obtain ⟨x, ea, hf⟩ := Option.bind_eq_some_iff.mp hf
  obtain ⟨d, fx⟩ := x
  cases d <;> simp only [reduceCtorEq] at hf
  rename_i c' ds
  split at hf
  · rename_i hc
    obtain ⟨d, ed, hz⟩ := Option.map_eq_some_iff.mp hf
    subst hz hc
    refine SE.one hE hR ea fun v H' h r => ?_
    cases r.al hE h with
    | ins k1 k2 k3 =>
      obtain ⟨u, e1, e2⟩ := k3.get ed
      exact ⟨_, _, _, _, u, rfl, grow_sub hE.vsub h _ _ k1, F.cl, F.no, lookup_at (by rw [k2]; exact F.nd) (by rw [k2]; exact F.at_) e1, q _ _ h (Res.none e2)⟩
  · cases hf
end
end Ix
set_option Elab.async false
set_option linter.all false
set_option maxRecDepth 100000
set_option maxHeartbeats 2000000
namespace Ix
open PySem PySem.Spec PyProof.Rows L2

/-! ### ranges that end far below nought -/
theorem turn_long {P : Program} {w : World} {K : PySem.W.Frag} {tg : Expr} (it : Addr) (lo : Int) (n : Nat) : Turn P w K tg (Itr lo n) [it] it (fun i h => IsLongIter h it (lo + (i : Nat) * 1) ((n : Int) - (i : Nat)) 1) where
  mem := by simp
  obj := fun i h st b hb => by
    have e : b = it := by simpa using hb
    subst e
    exact ⟨_, st, fun v z => by
      have z' : Data.fields _ = Data.cell v := z
      cases z'⟩
  keep := fun i h h' st k => k it (by simp) _ st
  item := by
    intro X hP hw hK hc i pins s σ H E I hf st hg
    subst hP hw hK
    obtain ⟨f0, f1, f2, f3, f4, f5⟩ := hf it (by simp)
    have W := Walks.longrange (prog := X.prog) (w := X.w) (I.ok.hd hc) it lo 1 n
    refine W.item i s _ _ hg st fun v h' tk hv st' kk => ?_
    obtain ⟨t, rfl⟩ := hv
    have I1 : Inv X pins σ H { s with heap := h', toks := tk } := I.turned (fun b o hb e => kk b o (by simpa using hb) e) f0 f1 f3 f4 f5
    refine ⟨_, rfl, go_of (s := { s with heap := h', toks := tk }) (n := "longrange_iterator") st' rfl rfl (by decide) ⟨.int (lo + i), H, I1, ⟨t, ?_⟩, ⟨rfl, rfl⟩, st', fun b hb => (hf b hb).1⟩⟩
    rw [Int.mul_one]
  done := by
    intro X hP hw hK hc i pins s σ H E I hf st hg
    subst hP hw hK
    obtain ⟨f0, f1, f2, f3, f4, f5⟩ := hf it (by simp)
    exact wpAny_pyNext_long_end (I.ok.hd hc) st (by have : n ≤ i := hg; omega) fun h' eb => ⟨rfl, I.turned (t' := s.toks) (fun b o hb e => eb b o hb e) f0 f1 f3 f4 f5⟩
  self := fun _ _ _ _ _ st h => wpAny_pyIter_longiter st h
section
variable {X : Cx} {tg : Expr}
theorem range_itL {pins : List (Addr × Obj)} {σ : L2.St} {H : Hp} {s : Shared} {R : It → Hp → Prop} {E : Value → Shared → Prop} {lo hi : Int} {t u v : Tok} {tk : Nat} (I : Inv X pins σ H s)
    (q : R (Itr lo (hi - lo).toNat) H) : wpAny (model X.prog X.w) X.A (pyIter (.ref s.heap.objs.size)) (PIE X pins σ tg R) E { s with heap := s.heap.push { cls := .type "range", data := .fields #[.int lo t, .int hi u, .int 1 v] }, toks := tk } := by
  have I1 : Inv X pins σ H { s with heap := s.heap.push { cls := .type "range", data := .fields #[.int lo t, .int hi u, .int 1 v] }, toks := tk } := I.kept fun b o e => Heap.get?_push_of_some _ e
  have e1 : lo + ((0 : Nat) : Int) * 1 = lo := by simp
  have e2 : (((hi - lo).toNat : Nat) : Int) - ((0 : Nat) : Int) = Builtin.Range.rangeSize lo hi 1 := by rw [rangeSize_one]; split <;> omega
  cases hs : Builtin.Range.small lo hi 1 with
  | true =>
    refine wpAny_pyIter_range (IsRange.new ..) hs ?_
    refine ⟨(s.heap.push { cls := .type "range", data := .fields #[.int lo t, .int hi u, .int 1 v] }).objs.size, [(s.heap.push { cls := .type "range", data := .fields #[.int lo t, .int hi u, .int 1 v] }).objs.size], _, _, H, rfl,
      I1.kept (t' := tk) fun b o e => Heap.get?_push_of_some _ e, turn_range _ lo (hi - lo).toNat, ?_, fun b hb => ?_, q⟩
    · show IsRangeIter _ _ (lo + ((0 : Nat) : Int) * 1) ((((hi - lo).toNat : Nat) : Int) - ((0 : Nat) : Int)) 1
      rw [e1, e2]
      exact Heap.get?_push_size _ rfl
    · have e : b = (s.heap.push { cls := .type "range", data := .fields #[.int lo t, .int hi u, .int 1 v] }).objs.size := by simpa using hb
      subst e
      exact I1.fpOk (Nat.le_refl _) (I1.hok.fresh (Nat.le_refl _))
  | false =>
    refine wpAny_pyIter_longrange (IsRange.new ..) hs ?_
    refine ⟨(s.heap.push { cls := .type "range", data := .fields #[.int lo t, .int hi u, .int 1 v] }).objs.size, [(s.heap.push { cls := .type "range", data := .fields #[.int lo t, .int hi u, .int 1 v] }).objs.size], _, _, H, rfl,
      I1.kept (t' := tk) fun b o e => Heap.get?_push_of_some _ e, turn_long _ lo (hi - lo).toNat, ?_, fun b hb => ?_, q⟩
    · show IsLongIter _ _ (lo + ((0 : Nat) : Int) * 1) ((((hi - lo).toNat : Nat) : Int) - ((0 : Nat) : Int)) 1
      rw [e1, e2]
      exact Heap.get?_push_size _ rfl
    · have e : b = (s.heap.push { cls := .type "range", data := .fields #[.int lo t, .int hi u, .int 1 v] }).objs.size := by simpa using hb
      subst e
      exact I1.fpOk (Nat.le_refl _) (I1.hok.fresh (Nat.le_refl _))
def iRngL (ta : TA) : TI := fun σ H R => ta σ H fun vs H1 => ∃ j : Int, vs = [.int j] ∧ R (Itr 0 j.toNat) H1
theorem pi_rangeL {a : Expr} {ta : TA} {p pos : Pos} (hg : Gl X "range") (hm : X.mg "range" = none) (ha : PA X [a] ta) (hs : starEach [a] X.env = [(false, eval a X.env)] := by rfl) : PI X tg (.Call (.Name "range" p) [a] [] pos) (iRngL ta) := by
  refine ⟨fun pins s σ H R I h => ?_⟩
  refine Call_ (ld_blt I hg hm boot_range (PyProof.Rows.callWith_type1 (thn (ha.run pos pins s σ H _ I h) fun us s1 ⟨vs, H1, I1, r1, q1⟩ => ?_) hs rfl))
  obtain ⟨j, e, q⟩ := q1
  subst e
  cases r1 with
  | cons r rr =>
    cases rr
    obtain ⟨t, rfl⟩ := r
    exact call_range_1 (range_itL I1 (show R (Itr 0 (j - 0).toNat) H1 by rw [Int.sub_zero]; exact q))
end
end Ix
set_option Elab.async false
set_option linter.all false
set_option maxRecDepth 100000
set_option maxHeartbeats 2000000
namespace Ix
open PySem PySem.Spec PyProof.Rows L2

/-! ### targets -/
def Tg.slots : Tg → List Nat
  | .one i => [i]
  | .many is => is
def gNs : List Nat → TGs
  | [] => gNil
  | i :: is => gCons (gName i) (gNs is)
def gT (K : PySem.W.Frag) : Tg → TG
  | .one i => gName i
  | .many is => gTup K is.length (gNs is)
def setV : L2.St → List Nat → List V → L2.St
  | σ, i :: is, v :: vs => setV (σ.set i (some v)) is vs
  | σ, _, _ => σ
theorem gNs_run {Q : L2.St → Hp → Prop} {H : Hp} : ∀ {is : List Nat} {vs : List V} {σ : L2.St}, vs.length = is.length → Q (setV σ is vs) H → gNs is vs σ H Q
  | [], [], _, _, q => ⟨rfl, q⟩
  | i :: is, v :: vs, σ, h, q => ⟨v, vs, rfl, gNs_run (by simpa using h) q⟩
  | [], _ :: _, _, h, _ => by simp at h
  | _ :: _, [], _, h, _ => by simp at h
theorem wipe_in {σ : L2.St} {i : Nat} : ∀ {vs : List Nat}, i ∈ vs → (wipe σ vs)[i]? = if i < σ.length then some none else none
  | v :: vs, h => by
    unfold wipe
    by_cases hv : v = i
    · subst hv
      by_cases hl : v < σ.length
      · rw [List.getElem?_set_self (by rw [wipe_length]; exact hl), if_pos hl]
      · rw [if_neg hl, List.getElem?_eq_none (by rw [List.length_set, wipe_length]; omega)]
    · rw [List.getElem?_set_ne hv]
      exact wipe_in (by rcases List.mem_cons.mp h with e | e; exact absurd e.symm hv; exact e)
theorem wipe_eq {σ σ' : L2.St} {vs : List Nat} (hl : σ.length = σ'.length) (h : ∀ i, i ∉ vs → σ[i]? = σ'[i]?) : wipe σ vs = wipe σ' vs := by
  apply List.ext_getElem?
  intro i
  by_cases hi : i ∈ vs
  · rw [wipe_in hi, wipe_in hi, hl]
  · rw [wipe_out hi, wipe_out hi, h i hi]
theorem setV_out {i : Nat} : ∀ {is : List Nat} {vs : List V} {σ : L2.St}, i ∉ is → (setV σ is vs)[i]? = σ[i]?
  | [], [], _, _ => rfl
  | [], _ :: _, _, _ => rfl
  | _ :: _, [], _, _ => rfl
  | j :: is, v :: vs, σ, h => by
    show (setV (σ.set j (some v)) is vs)[i]? = σ[i]?
    rw [setV_out (fun z => h (List.mem_cons_of_mem _ z)), List.getElem?_set_ne (fun z => h (by rw [z]; simp))]
theorem setV_len : ∀ {is : List Nat} {vs : List V} {σ : L2.St}, (setV σ is vs).length = σ.length
  | [], [], _ => rfl
  | [], _ :: _, _ => rfl
  | _ :: _, [], _ => rfl
  | j :: is, v :: vs, σ => by
    show (setV (σ.set j (some v)) is vs).length = σ.length
    rw [setV_len, List.length_set]
section
variable {L : Lk} {S H : Hp} {Fs : List (List Addr)} {σ : L2.St} {env : Env}
theorem REnv.set {i : Nat} {v : V} {d : D} (hR : REnv L S Fs H σ env) (hi : i < env.length) (r : Rep L S v d) (hF : Fs.getD i [] = []) : REnv L S Fs H (σ.set i (some v)) (env.set i (some (d, .no))) := by
  refine ⟨by rw [List.length_set, List.length_set]; exact hR.1, fun j d' o' e => ?_⟩
  by_cases hj : i = j
  · subst hj
    rw [List.getElem?_set_self hi] at e
    cases e
    exact ⟨v, List.getElem?_set_self (by rw [← hR.1]; exact hi), by rw [hF]; exact List.nodup_nil, by rw [hF]; exact .no r⟩
  · rw [List.getElem?_set_ne hj] at e
    rw [List.getElem?_set_ne hj]
    exact hR.2 j d' o' e
theorem REnv.setAll : ∀ {is : List Nat} {vs : List V} {ds : List D} {σ : L2.St} {env : Env}, REnv L S Fs H σ env → is.all (· < env.length) = true → RepL L S vs ds → (∀ i ∈ is, Fs.getD i [] = []) → REnv L S Fs H (setV σ is vs) (setAll env is (ds.map fun d => (d, .no)))
  | [], [], _, _, _, h, _, .nil, _ => h
  | [], _ :: _, _, _, _, h, _, .cons _ _, _ => h
  | _ :: _, [], _, _, _, h, _, .nil, _ => h
  | i :: is, v :: vs, _, σ, env, h, hl, .cons a b, hF => by
    simp only [List.all_cons, Bool.and_eq_true, decide_eq_true_eq] at hl
    have h2 := h.set hl.1 a (hF i (by simp))
    rw [List.map_cons]
    show REnv L S Fs H (setV (σ.set i (some v)) is vs) (Ix.setAll (env.set i (some (_, .no))) is _)
    exact REnv.setAll h2 (by rw [List.length_set]; exact hl.2) b fun j hj => hF j (List.mem_cons_of_mem _ hj)
theorem REnv.wide {S' : Hp} (hR : REnv L S Fs H σ env) (hS : Same S S') : REnv L S' Fs H σ env := ⟨hR.1, fun i d o e => by
  obtain ⟨v, hv, hn, hr⟩ := hR.2 i d o e
  exact ⟨v, hv, hn, hr.mono hS fun _ _ => rfl⟩⟩
theorem bindT_run {K : PySem.W.Frag} {tg : Tg} {x : V} {d : D} {env' : Env} {Q : L2.St → Hp → Prop} (hb : bindT tg d env = some env') (hS : Same S H) (hR : REnv L S Fs H σ env) (r : Rep L S x d) (hF : ∀ i ∈ tg.slots, Fs.getD i [] = [])
    (k : ∀ σ', REnv L S Fs H σ' env' → (∀ vs, (∀ i ∈ tg.slots, i ∈ vs) → wipe σ' vs = wipe σ vs) → Q σ' H) : gT K tg x σ H Q := by
  cases tg with
  | one i =>
    unfold bindT at hb
    simp only at hb
    split at hb
    · rename_i hi
      cases hb
      refine k _ (hR.set hi r (hF i (by simp [Tg.slots]))) fun vs hv => wipe_eq (by simp) fun j hj => List.getElem?_set_ne fun e => hj (by rw [← e]; exact hv i (by simp [Tg.slots]))
    · cases hb
  | many is =>
    unfold bindT at hb
    simp only at hb
    split at hb
    · rename_i ds
      split at hb
      · rename_i hc
        cases hb
        cases r with
        | tup h1 h2 =>
          refine ⟨_, _, rfl, SqT.of (hS _ _ h1), by rw [h2.length]; exact hc.1, gNs_run (by rw [h2.length]; exact hc.1) (k _ (hR.setAll hc.2 h2 hF) fun vs hv => wipe_eq setV_len fun j hj => setV_out fun z => hj (hv j z))⟩
      · cases hb
    · cases hb

/-! ### the slots of a block -/
def clrF : List (List Addr) → List Nat → List (List Addr)
  | F, [] => F
  | F, i :: is => clrF (F.set i []) is
theorem getD_set {F : List (List Addr)} {i j : Nat} : (F.set i []).getD j [] = if i = j then [] else F.getD j [] := by
  rw [List.getD_eq_getElem?_getD, List.getD_eq_getElem?_getD, List.getElem?_set]
  by_cases h : i = j
  · subst h
    by_cases hl : i < F.length
    · simp [hl]
    · simp [hl]
  · simp [h]
theorem clrF_in {i : Nat} : ∀ {is : List Nat} {F : List (List Addr)}, F.getD i [] = [] ∨ i ∈ is → (clrF F is).getD i [] = []
  | [], F, h => by
    rcases h with h | h
    · exact h
    · simp at h
  | j :: is, F, h => by
    unfold clrF
    refine clrF_in ?_
    rcases h with h | h
    · refine .inl ?_
      rw [getD_set]
      split
      · rfl
      · exact h
    · rcases List.mem_cons.mp h with h | h
      · refine .inl ?_
        rw [getD_set, if_pos h.symm]
      · exact .inr h
theorem clrF_out {i : Nat} : ∀ {is : List Nat} {F : List (List Addr)}, i ∉ is → (clrF F is).getD i [] = F.getD i []
  | [], _, _ => rfl
  | j :: is, F, h => by
    unfold clrF
    rw [clrF_out (fun z => h (List.mem_cons_of_mem _ z)), getD_set, if_neg (fun e => h (by rw [e]; simp))]
theorem clrF_le {a : Addr} {i : Nat} {is : List Nat} {F : List (List Addr)} (h : a ∈ (clrF F is).getD i []) : a ∈ F.getD i [] := by
  by_cases hi : i ∈ is
  · rw [clrF_in (.inr hi)] at h
    simp at h
  · rw [clrF_out hi] at h
    exact h
theorem mem_flat {a : Addr} {F : List (List Addr)} (h : a ∈ F.flatten) : ∃ i, a ∈ F.getD i [] := by
  obtain ⟨G, hG, ha⟩ := List.mem_flatten.mp h
  obtain ⟨i, hi, e⟩ := List.getElem_of_mem hG
  refine ⟨i, ?_⟩
  rw [List.getD_eq_getElem?_getD, List.getElem?_eq_getElem hi, e]
  exact ha
theorem clrF_flat {a : Addr} {is : List Nat} {F : List (List Addr)} (h : a ∈ (clrF F is).flatten) : a ∈ F.flatten := by
  obtain ⟨i, hi⟩ := mem_flat h
  exact mem_getD (clrF_le hi)
theorem EB.clr (e : EB S Fs H) (own : List Nat) : EB S (clrF Fs own) H := ⟨e.sub, fun a ha => e.own a (clrF_flat ha), fun a ha => e.nt a (clrF_flat ha)⟩
theorem fsOf_clr {own is : List Nat} {a : Addr} (h : a ∈ fsOf (clrF Fs own) is) : a ∈ fsOf Fs is := by
  obtain ⟨i, hi, q⟩ := mem_fsOf.mp h
  exact mem_fsOf.mpr ⟨i, hi, clrF_le q⟩
theorem envW_len : ∀ {own : List Nat} {env : Env}, (own.foldl (fun e i => e.set i none) env).length = env.length
  | [], _ => rfl
  | i :: is, env => by rw [List.foldl_cons, envW_len, List.length_set]
theorem envW_out {i : Nat} : ∀ {own : List Nat} {env : Env}, i ∉ own → (own.foldl (fun e i => e.set i none) env)[i]? = env[i]?
  | [], _, _ => rfl
  | j :: is, env, h => by
    rw [List.foldl_cons, envW_out (fun z => h (List.mem_cons_of_mem _ z)), List.getElem?_set_ne (fun z => h (by rw [z]; simp))]
theorem envW_in {i : Nat} {x : D × Ow} : ∀ {own : List Nat} {env : Env}, env[i]? = some none ∨ i ∈ own → (own.foldl (fun e i => e.set i none) env)[i]? ≠ some (some x)
  | [], env, h, e => by
    rcases h with h | h
    · rw [List.foldl_nil, h] at e; cases e
    · simp at h
  | j :: is, env, h, e => by
    rw [List.foldl_cons] at e
    by_cases hj : j = i
    · subst hj
      by_cases hl : j < env.length
      · exact envW_in (.inl (List.getElem?_set_self hl)) e
      · have : (is.foldl (fun e i => e.set i none) (env.set j none))[j]? = none := List.getElem?_eq_none (by rw [envW_len, List.length_set]; omega)
        rw [this] at e
        cases e
    · refine envW_in ?_ e
      rcases h with h | h
      · exact .inl (by rw [List.getElem?_set_ne hj]; exact h)
      · exact .inr (by rcases List.mem_cons.mp h with z | z; exact absurd z.symm hj; exact z)
theorem REnv.wiped (hR : REnv L S Fs H σ env) (own : List Nat) : REnv L S (clrF Fs own) H (wipe σ own) (own.foldl (fun e i => e.set i none) env) := by
  refine ⟨by rw [envW_len, wipe_length]; exact hR.1, fun i d o e => ?_⟩
  by_cases hi : i ∈ own
  · exact absurd e (envW_in (.inr hi))
  · rw [envW_out hi] at e
    obtain ⟨v, hv, hn, hr⟩ := hR.2 i d o e
    exact ⟨v, by rw [wipe_out hi]; exact hv, by rw [clrF_out hi]; exact hn, by rw [clrF_out hi]; exact hr⟩
end

/-! ### what is walked -/
abbrev Its := List D × List Nat × List Nat
def ItOk (L : Lk) (S : Hp) (Fs : List (List Addr)) (H H' : Hp) (J : It) (p : Its) : Prop := ∃ Z, Same Z (grow (vis S H (fsOf Fs p.2.2)) H H' []) ∧
  ∀ i H2, Same Z H2 → (p.1.length ≤ i → J.stop i H2) ∧ ∀ d, p.1[i]? = some d → J.go i H2 ∧ ∀ x H3, J.yld i H2 x H3 → Same H2 H3 ∧
    ∀ S2, Same (grow (vis S H (fsOf Fs p.2.1)) H H' []) S2 → Same S2 H2 → Rep L (grow S2 H2 H3 []) x d
def SI (L : Lk) (f : Env → Option Its) : TI := fun σ H R => ∃ S Fs env p, EB S Fs H ∧ REnv L S Fs H σ env ∧ f env = some p ∧ ∀ J H', Same H H' → ItOk L S Fs H H' J p → R J H'
theorem PI.weak {X : Cx} {tg e : Expr} {w w' : TI} (h : PI X tg e w) (k : ∀ σ H R, w' σ H R → w σ H R) : PI X tg e w' := ⟨fun pins s σ H R I q => h.run pins s σ H R I (k σ H R q)⟩
theorem SqL.alone {K : PySem.W.Frag} {G : Hp} {a : Addr} {xs : List V} (h : SqL K G a xs) : SqL K (fun b => if b = a then G b else none) a xs := by
  rcases h with (h | ⟨o, h⟩) | h
  · exact .inl (.inl ((if_pos rfl).trans h))
  · exact .inl (.inr ⟨o, (if_pos rfl).trans h⟩)
  · exact .inr h
theorem SqL.det {K : PySem.W.Frag} {G : Hp} {a : Addr} {xs ys : List V} (h : G a = some (.lst xs)) (h2 : SqL K G a ys) (h3 : ∀ zs, SqL K G a zs → zs = xs) : ys = xs := h3 _ h2

section
variable {X : Cx} {a b c e o tg : Expr} {es : List Expr} {p pos apos : Pos} {cA : Nat → Addr} {cF : Nat → List Str} {fa fb fc : Env → Option R} {fs : Env → Option (List R)}

theorem it_list {L : Lk} {S H H' : Hp} {Fs : List (List Addr)} {v : V} {ds : List D} {fl : Fl} (hE : EB S Fs H) (h : Same H H') (r : Res L S Fs H H' v (.lst ds) fl) : ∃ a, v = .ref a ∧ (∃ xs, SqL L.K H' a xs) ∧ ItOk L S Fs H H' (Itl L.K a) (ds, fl.el, fl.al) := by
  obtain ⟨a, vs, rfl, h1, h2⟩ := r.items hE h
  have hG : grow (vis S H (fsOf Fs fl.al)) H H' [] a = some (.lst vs) := by
    cases r.al hE h with
    | lst k1 _ =>
      have := grow_sub hE.vsub h _ _ k1
      rw [h1] at this
      rw [this]
      exact k1
  refine ⟨a, rfl, ⟨vs, SqL.of h1⟩, fun b => if b = a then some (.lst vs) else none, fun b o z => ?_, fun i H2 hz => ⟨fun hi => ⟨vs, SqL.of (hz a _ (if_pos rfl)), by rw [h2.length]; exact hi⟩, fun d hd => ?_⟩⟩
  · have z : (if b = a then some (HO.lst vs) else none) = some o := z
    by_cases hb : b = a
    · rw [if_pos hb] at z
      rw [hb]
      exact hG.trans z
    · rw [if_neg hb] at z
      cases z
  · obtain ⟨u, e1, e2⟩ := h2.get hd
    have h2a : H2 a = some (.lst vs) := hz a _ (if_pos rfl)
    refine ⟨⟨vs, u, SqL.of h2a, e1⟩, fun x H3 y => ?_⟩
    obtain ⟨rfl, y⟩ := y
    have ex := y vs (SqL.of h2a)
    rw [e1] at ex
    cases ex
    exact ⟨Same.refl _, fun S2 k1 k2 => (e2.mono k1).mono (grow_keep k2 (by simp))⟩
theorem it_scr {L : Lk} {S H H' : Hp} {Fs : List (List Addr)} {v : V} {ns : List Int} {fl : Fl} (hE : EB S Fs H) (h : Same H H') (r : Res L S Fs H H' v (.scr ns) fl) : ∃ a, v = .ref a ∧ (∃ xs, SqL L.K H' a xs) ∧ ItOk L S Fs H H' (Itl L.K a) (ns.map D.int, [], fl.al) := by
  cases r.al hE h with
  | @scr a _ k1 =>
    have k2 : SqL L.K H' a (ns.map V.int) := (grow_sub hE.vsub h).seq k1
    have key : ∀ H2, Same (fun b => if b = a then grow (vis S H (fsOf Fs fl.al)) H H' [] b else none) H2 → SqL L.K H2 a (ns.map V.int) := fun H2 hz => hz.seq (SqL.alone k1)
    refine ⟨a, rfl, ⟨_, k2⟩, _, fun b o z => ?_, fun i H2 hz => ⟨fun hi => ⟨_, key H2 hz, by simpa using hi⟩, fun d hd => ?_⟩⟩
    · have z : (if b = a then grow (vis S H (fsOf Fs fl.al)) H H' [] b else none) = some o := z
      by_cases hb : b = a
      · rw [if_pos hb] at z; exact z
      · rw [if_neg hb] at z; cases z
    · rw [List.getElem?_map] at hd
      obtain ⟨n, e1, rfl⟩ := Option.map_eq_some_iff.mp hd
      have e2 : (ns.map V.int)[i]? = some (V.int n) := by rw [List.getElem?_map, e1]; rfl
      refine ⟨⟨_, _, key H2 hz, e2⟩, fun x H3 y => ?_⟩
      obtain ⟨rfl, y⟩ := y
      have ex := y _ (key _ hz)
      rw [e2] at ex
      cases ex
      exact ⟨Same.refl _, fun S2 k1 k2 => .int n⟩
theorem si_ofE (ha : PE X a (SE ⟨X.K, cA, cF⟩ fa)) : PI X tg a (SI ⟨X.K, cA, cF⟩ fun env => (fa env).bind fun x => match x.1 with
    | .lst ds => some (ds, x.2.el, x.2.al)
    | .scr ns => some (ns.map D.int, [], x.2.al)
    | _ => none) := by
  refine PI.weak (pi_list ha) fun σ H R ⟨S, Fs, env, p, hE, hR, hf, q⟩ => ?_
  obtain ⟨x, ea, hf⟩ := Option.bind_eq_some_iff.mp hf
  refine SE.one hE hR ea fun v H' h r => ?_
  obtain ⟨d, fl⟩ := x
  cases d <;> simp only [reduceCtorEq] at hf
  · cases hf
    obtain ⟨a, e, hx, it⟩ := it_list hE h r
    exact ⟨a, e, hx, q _ _ h it⟩
  · cases hf
    obtain ⟨a, e, hx, it⟩ := it_scr hE h r
    exact ⟨a, e, hx, q _ _ h it⟩
theorem it_rng {L : Lk} {S H H' : Hp} {Fs : List (List Addr)} {lo : Int} {n : Nat} {ds : List D} (hd : ds = (List.range n).map fun k : Nat => D.int (lo + k)) : ItOk L S Fs H H' (Itr lo n) (ds, [], []) := by
  subst hd
  refine ⟨fun _ => none, (fun _ _ z => nomatch z), fun i H2 hz => ⟨fun hi => by have hi : ((List.range n).map fun k : Nat => D.int (lo + k)).length ≤ i := hi; rw [List.length_map, List.length_range] at hi; exact hi, fun d hd => ?_⟩⟩
  rw [List.getElem?_map] at hd
  obtain ⟨k, e1, rfl⟩ := Option.map_eq_some_iff.mp hd
  obtain ⟨hi, e1⟩ := List.getElem?_eq_some_iff.mp e1
  rw [List.getElem_range] at e1
  subst e1
  rw [List.length_range] at hi
  refine ⟨hi, fun x H3 y => ?_⟩
  obtain ⟨rfl, rfl⟩ := y
  exact ⟨Same.refl _, fun S2 k1 k2 => .int _⟩
theorem si_rng1 {x : Str} (hx : x = "range") (hg : Gl X x) (hm : X.mg x = none) (ho : okE a = true) (ha : PE X a (SE ⟨X.K, cA, cF⟩ fa)) : PI X tg (.Call (.Name x p) [a] [] pos) (SI ⟨X.K, cA, cF⟩ fun env => (fa env).bind fun x => match x.1 with
    | .int j => if okR j then some ((List.range j.toNat).map fun n : Nat => D.int n, [], []) else if okL j then some ([], [], []) else none
    | _ => none) := by
  subst hx
  refine PI.weak (pi_rangeL hg hm (pa_cons ha pa_nil (star_cons ho)) (by rw [star_cons ho]; rfl)) fun σ H R ⟨S, Fs, env, p, hE, hR, hf, q⟩ => ?_
  obtain ⟨x, ea, hf⟩ := Option.bind_eq_some_iff.mp hf
  refine SE.one hE hR ea fun v H' h r => ?_
  obtain ⟨d, fl⟩ := x
  cases d <;> simp only [reduceCtorEq] at hf
  split at hf
  · rename_i hb
    cases hf
    exact ⟨_, by rw [intV (r.now hE h)], q _ _ h (it_rng (by simp))⟩
  · split at hf
    · rename_i hb
      cases hf
      have hb := okL_iff.mp hb
      refine ⟨_, by rw [intV (r.now hE h)], q _ _ h (it_rng ?_)⟩
      rw [Int.toNat_eq_zero.mpr (by omega)]
      rfl
    · cases hf
theorem si_rng2 {x : Str} (hx : x = "range") (hg : Gl X x) (hm : X.mg x = none) (ho : okE a = true) (ho2 : okE b = true) (ha : PE X a (SE ⟨X.K, cA, cF⟩ fa)) (hb : PE X b (SE ⟨X.K, cA, cF⟩ fb)) : PI X tg (.Call (.Name x p) [a, b] [] pos) (SI ⟨X.K, cA, cF⟩ fun env => (fa env).bind fun x => (fb env).bind fun y => match x.1, y.1 with
    | .int i, .int j => if okR i && okR j then some ((List.range (j - i).toNat).map fun n : Nat => D.int (i + n), [], []) else none
    | _, _ => none) := by
  subst hx
  refine PI.weak (pi_range2 hg hm (pa_cons ha (pa_cons hb pa_nil (star_cons ho2)) (star_cons ho)) (by rw [star_cons ho, star_cons ho2]; rfl) (by rw [star_cons ho2]; rfl)) fun σ H R ⟨S, Fs, env, p, hE, hR, hf, q⟩ => ?_
  obtain ⟨x, ea, hf⟩ := Option.bind_eq_some_iff.mp hf
  obtain ⟨y, eb, hf⟩ := Option.bind_eq_some_iff.mp hf
  refine SE.two hE hR ea eb fun v w H' h r1 r2 => ?_
  obtain ⟨dx, fx⟩ := x
  obtain ⟨dy, fy⟩ := y
  cases dx <;> cases dy <;> simp only [reduceCtorEq] at hf
  split at hf
  · rename_i hb
    cases hf
    rw [Bool.and_eq_true, okR_iff, okR_iff] at hb
    exact ⟨_, _, by rw [intV (r1.now hE h), intV (r2.now hE h)], ⟨hb.1.1, hb.1.2, hb.2.1, hb.2.2⟩, q _ _ h (it_rng rfl)⟩
  · cases hf
end
end Ix
set_option Elab.async false
set_option linter.all false
set_option maxRecDepth 100000
set_option maxHeartbeats 2000000
namespace Ix
open PySem PySem.Spec PyProof.Rows L2

theorem list_at {L : Lk} {S H H' : Hp} {Fs : List (List Addr)} {v : V} {ds : List D} {fl : Fl} (hE : EB S Fs H) (h : Same H H') (r : Res L S Fs H H' v (.lst ds) fl) : ∃ a vs, v = .ref a ∧ H' a = some (.lst vs) ∧ grow (vis S H (fsOf Fs fl.al)) H H' [] a = some (.lst vs) ∧ RepL L (grow (vis S H (fsOf Fs fl.el)) H H' []) vs ds := by
  obtain ⟨a, vs, rfl, h1, h2⟩ := r.items hE h
  refine ⟨a, vs, rfl, h1, ?_, h2⟩
  cases r.al hE h with
  | lst k1 _ =>
    have := grow_sub hE.vsub h _ _ k1
    rw [h1] at this
    rw [this]
    exact k1
theorem rep_pair {L : Lk} {S2 H2 H3 : Hp} {T : Addr} {x y : V} {dx dy : D} (n : H2 T = none) (e : H3 = upd H2 T (.tup [x, y])) (hS : Same S2 H2) (rx : Rep L S2 x dx) (ry : Rep L S2 y dy) : Rep L (grow S2 H2 H3 []) (.ref T) (.tup [dx, dy]) := by
  subst e
  refine .tup (vs := [x, y]) (by rw [grow_new (by simp) n, upd_same]) (.cons (rx.mono (grow_keep hS (by simp))) (.cons (ry.mono (grow_keep hS (by simp))) .nil))
section
variable {X : Cx} {a b c e o tg : Expr} {es : List Expr} {p pos apos : Pos} {cA : Nat → Addr} {cF : Nat → List Str} {fa fb fc : Env → Option R} {fs : Env → Option (List R)}

theorem si_zip {x : Str} {elts : List Expr} {kk : Nat} {tpos : Pos} (hx : x = "zip") (hg : Gl X x) (hm : X.mg x = none) (ho : okE a = true) (ho2 : okE b = true) (ha : PE X a (SE ⟨X.K, cA, cF⟩ fa)) (hb : PE X b (SE ⟨X.K, cA, cF⟩ fb)) :
    PI X (.Tuple elts kk tpos) (.Call (.Name x p) [a, b] [] pos) (SI ⟨X.K, cA, cF⟩ fun env => (fa env).bind fun x => (fb env).bind fun y => match x.1, y.1 with
      | .lst xs, .lst ys => some ((xs.zip ys).map fun p => .tup [p.1, p.2], x.2.el ++ y.2.el, x.2.al ++ y.2.al)
      | _, _ => none) := by
  subst hx
  refine PI.weak (pi_zip hg hm (pa_cons ha (pa_cons hb pa_nil (star_cons ho2)) (star_cons ho)) (star_cons ho) (star_plain (by simp [ho2]))) fun σ H R ⟨S, Fs, env, p, hE, hR, hf, q⟩ => ?_
  obtain ⟨x, ea, hf⟩ := Option.bind_eq_some_iff.mp hf
  obtain ⟨y, eb, hf⟩ := Option.bind_eq_some_iff.mp hf
  refine SE.two hE hR ea eb fun v w H' h r1 r2 => ?_
  obtain ⟨dx, fx⟩ := x
  obtain ⟨dy, fy⟩ := y
  cases dx <;> cases dy <;> simp only [reduceCtorEq] at hf
  rename_i xs ys
  cases hf
  obtain ⟨a, vs, rfl, h1, g1, k1⟩ := list_at hE h r1
  obtain ⟨b, ws, rfl, h2, g2, k2⟩ := list_at hE h r2
  have g1 := grow_monoS (H' := H') (F := []) (vis_mono (W' := fsOf Fs (fx.al ++ fy.al)) hE.sub (fsOf_mono fun i hi => List.mem_append_left _ hi)) _ _ g1
  have g2 := grow_monoS (H' := H') (F := []) (vis_mono (W' := fsOf Fs (fx.al ++ fy.al)) hE.sub (fsOf_mono fun i hi => List.mem_append_right _ hi)) _ _ g2
  refine ⟨a, b, vs, ws, rfl, SqL.of h1, SqL.of h2, q _ _ h ⟨fun c => if c = a then some (.lst vs) else if c = b then some (.lst ws) else none, fun c o z => ?_, fun i H2 hz => ?_⟩⟩
  · have z : (if c = a then some (HO.lst vs) else if c = b then some (.lst ws) else none) = some o := z
    by_cases hc : c = a
    · rw [if_pos hc] at z
      rw [hc]
      exact g1.trans z
    · rw [if_neg hc] at z
      by_cases hc2 : c = b
      · rw [if_pos hc2] at z
        rw [hc2]
        exact g2.trans z
      · rw [if_neg hc2] at z
        cases z
  · have za : H2 a = some (.lst vs) := hz a _ (if_pos rfl)
    have zb : H2 b = some (.lst ws) := by
      by_cases hab : b = a
      · rw [hab, h1] at h2
        cases h2
        rw [hab]
        exact za
      · exact hz b _ ((if_neg hab).trans (if_pos rfl))
    refine ⟨fun hi => ⟨vs, ws, SqL.of za, SqL.of zb, ?_⟩, fun d hd => ?_⟩
    · simp only [List.length_map, List.length_zip, ← k1.length, ← k2.length] at hi
      omega
    · simp only at hd
      rw [List.getElem?_map] at hd
      obtain ⟨⟨d1, d2⟩, e1, rfl⟩ := Option.map_eq_some_iff.mp hd
      rw [List.getElem?_zip_eq_some] at e1
      obtain ⟨u1, a1, b1⟩ := k1.get e1.1
      obtain ⟨u2, a2, b2⟩ := k2.get e1.2
      refine ⟨⟨vs, ws, u1, u2, SqL.of za, SqL.of zb, a1, a2⟩, fun x H3 y => ?_⟩
      obtain ⟨T, z1, z2, rfl, nT, rfl, f1, f2⟩ := y
      have q1 := f1 _ (SqL.of za)
      have q2 := f2 _ (SqL.of zb)
      rw [a1] at q1
      rw [a2] at q2
      cases q1
      cases q2
      refine ⟨same_new nT, fun S2 s1 s2 => rep_pair nT rfl s2 (b1.mono fun a o z => s1 _ _ (grow_monoS (vis_mono hE.sub (fsOf_mono fun i hi => List.mem_append_left _ hi)) _ _ z)) (b2.mono fun a o z => s1 _ _ (grow_monoS (vis_mono hE.sub (fsOf_mono fun i hi => List.mem_append_right _ hi)) _ _ z))⟩
theorem si_enm {x : Str} {elts : List Expr} {kk : Nat} {tpos : Pos} (hx : x = "enumerate") (hg : Gl X x) (hm : X.mg x = none) (ho : okE a = true) (ha : PE X a (SE ⟨X.K, cA, cF⟩ fa)) :
    PI X (.Tuple elts kk tpos) (.Call (.Name x p) [a] [] pos) (SI ⟨X.K, cA, cF⟩ fun env => (fa env).bind fun x => match x.1 with
      | .lst xs => some ((xs.zipIdx).map fun p => .tup [.int p.2, p.1], x.2.el, x.2.al)
      | _ => none) := by
  subst hx
  refine PI.weak (pi_enum hg hm (pa_cons ha pa_nil (star_cons ho)) (by rw [star_cons ho]; rfl)) fun σ H R ⟨S, Fs, env, p, hE, hR, hf, q⟩ => ?_
  obtain ⟨x, ea, hf⟩ := Option.bind_eq_some_iff.mp hf
  refine SE.one hE hR ea fun v H' h r1 => ?_
  obtain ⟨dx, fx⟩ := x
  cases dx <;> simp only [reduceCtorEq] at hf
  rename_i xs
  cases hf
  obtain ⟨a, vs, rfl, h1, g1, k1⟩ := list_at hE h r1
  refine ⟨a, vs, rfl, SqL.of h1, q _ _ h ⟨fun c => if c = a then some (.lst vs) else none, fun c o z => ?_, fun i H2 hz => ?_⟩⟩
  · have z : (if c = a then some (HO.lst vs) else none) = some o := z
    by_cases hc : c = a
    · rw [if_pos hc] at z
      rw [hc]
      exact g1.trans z
    · rw [if_neg hc] at z
      cases z
  · have za : H2 a = some (.lst vs) := hz a _ (if_pos rfl)
    refine ⟨fun hi => ⟨vs, SqL.of za, ?_⟩, fun d hd => ?_⟩
    · simp only [List.length_map, List.length_zipIdx, ← k1.length] at hi
      exact hi
    · simp only at hd
      rw [List.getElem?_map] at hd
      obtain ⟨⟨d1, n⟩, e1, rfl⟩ := Option.map_eq_some_iff.mp hd
      rw [List.getElem?_zipIdx] at e1
      obtain ⟨d2, e2, e3⟩ := Option.map_eq_some_iff.mp e1
      cases e3
      obtain ⟨u1, a1, b1⟩ := k1.get e2
      refine ⟨⟨vs, u1, SqL.of za, a1⟩, fun x H3 y => ?_⟩
      obtain ⟨T, z1, rfl, nT, rfl, f1⟩ := y
      have q1 := f1 _ (SqL.of za)
      rw [a1] at q1
      cases q1
      exact ⟨same_new nT, fun S2 s1 s2 => rep_pair nT rfl s2 (by simp only [Nat.zero_add]; exact .int _) (b1.mono s1)⟩

/-! ### comprehensions -/
/-- a test of a block -/
def SC (L : Lk) (f : Env → Option Bool) : TT := fun σ H Q => ∃ S Fs env b, EB S Fs H ∧ REnv L S Fs H σ env ∧ f env = some b ∧ ∀ H', Same H H' → Q b H'
theorem sc_yes : PTs X [] (SC ⟨X.K, cA, cF⟩ fun _ => some true) := ⟨fun pins s σ H Q I h => pts_nil.run pins s σ H Q I (by
  obtain ⟨S, Fs, env, b, hE, hR, hf, q⟩ := h
  cases hf
  exact q H (Same.refl _))⟩
theorem sc_one (hc : PT X c (ST ⟨X.K, cA, cF⟩ fc)) : PTs X [c] (SC ⟨X.K, cA, cF⟩ fun env => (fc env).bind fun x => match x.1 with | .bl b => some b | _ => none) := ⟨fun pins s σ H Q I h => (pts_one hc).run pins s σ H Q I (by
  obtain ⟨S, Fs, env, b, hE, hR, hf, q⟩ := h
  obtain ⟨x, ea, hf⟩ := Option.bind_eq_some_iff.mp hf
  obtain ⟨d, fl⟩ := x
  cases d <;> simp only [reduceCtorEq] at hf
  cases hf
  exact ⟨S, Fs, env, _, fl, hE, hR, ea, q⟩)⟩
theorem grow_growF {S H H1 H2 : Hp} {F : List Addr} (h1 : Same H H1) (h2 : Same H1 H2) (hD : ∀ a ∈ F, ∃ u, H1 a = some u) : Same (grow (grow S H H1 F) H1 H2 []) (grow S H H2 F) := fun a o e => by
  obtain ⟨_, e⟩ := grow_some e
  rcases e with ⟨n, e⟩ | ⟨⟨u, n⟩, e⟩
  · have hf : a ∉ F := fun z => by obtain ⟨u, q⟩ := hD a z; rw [n] at q; cases q
    rw [grow_new hf (h1.free n)]; exact e
  · obtain ⟨hf, e⟩ := grow_some e
    rcases e with ⟨n', e⟩ | ⟨⟨u', n'⟩, e⟩
    · rw [grow_new hf n']; exact h2 _ _ e
    · rw [grow_old hf n']; exact e
theorem grow_laterX {S H H1 H2 : Hp} {F : List Addr} (h2 : ∀ a o, a ∉ F → H1 a = some o → H2 a = some o) : Same (grow S H H1 F) (grow S H H2 F) := fun a o e => by
  obtain ⟨hf, e⟩ := grow_some e
  rcases e with ⟨n, e⟩ | ⟨⟨u, n⟩, e⟩
  · rw [grow_new hf n]; exact h2 _ _ hf e
  · rw [grow_old hf n]; exact e
theorem compL_cons {f : D → Option (Option R)} {d : D} {ds : List D} {q : List D × List Nat} (h : compL f (d :: ds) = some q) : ∃ r q', f d = some r ∧ compL f ds = some q' ∧ q = match r with | some (x, fl) => (x :: q'.1, fl.al ++ q'.2) | none => q' := by
  unfold compL at h
  obtain ⟨r, e1, h⟩ := Option.bind_eq_some_iff.mp h
  obtain ⟨q', e2, rfl⟩ := Option.map_eq_some_iff.mp h
  exact ⟨r, q', e1, e2, by cases r <;> rfl⟩
theorem compL_len {f : D → Option (Option R)} : ∀ {ds : List D} {q : List D × List Nat}, compL f ds = some q → q.1.length ≤ ds.length
  | [], q, h => by simp [compL] at h; subst h; simp
  | d :: ds, q, h => by
    obtain ⟨r, q', e1, e2, rfl⟩ := compL_cons h
    have ih := compL_len e2
    cases r with
    | none => simp only [List.length_cons]; omega
    | some x => simp only [List.length_cons]; omega

theorem lc_run {iter : Expr} {scope : Scope} {own : List Nat} {tg : Tg} {fi : Env → Option Its} {fe : Env → Option R} {fb : Env → Option Bool} (hsl : ∀ i ∈ tg.slots, i ∈ own) :
    ∀ σ H Q, SE ⟨X.K, cA, cF⟩ (fun env => (fi env).bind fun p => match p.2.1 with
      | [] => if p.1.length ≤ szb then (compL (fun d => (bindT tg d (own.foldl (fun e i => e.set i none) env)).bind fun e => (fb e).bind fun k =>
        if k then (fe e).map some else some none) p.1).map fun q => (.lst q.1, .own .top q.2) else none
      | _ => none) σ H Q → tLc (SI ⟨X.K, cA, cF⟩ fi) (gT X.K tg) (SC ⟨X.K, cA, cF⟩ fb) (SE ⟨X.K, cA, cF⟩ fe) own σ H Q := by
  intro σ H Q ⟨S, Fs, env, z, hE, hR, hf, q⟩
  obtain ⟨p, ep, hf⟩ := Option.bind_eq_some_iff.mp hf
  obtain ⟨ds, is, al⟩ := p
  cases is with
  | cons _ _ => simp at hf
  | nil =>
  simp only at hf
  split at hf
  · rename_i hz
    obtain ⟨qq, eq, rfl⟩ := Option.map_eq_some_iff.mp hf
    clear hf
    refine ⟨S, Fs, env, (ds, [], al), hE, hR, ep, fun J H1 h1 ⟨Z, hZ, turn⟩ D nD => ?_⟩
    have hZ1 : Same Z H1 := fun b o z => grow_sub hE.vsub h1 _ _ (hZ _ _ z)
    have nHD : H D = none := h1.free nD
    refine ⟨fun i m Hi => m = ds.length - i ∧ i ≤ ds.length ∧ Same H1 Hi ∧ ∃ accV accD al rest, Hi D = some (.lst accV) ∧ compL (fun d => (bindT tg d (own.foldl (fun e i => e.set i none) env)).bind fun e => (fb e).bind fun k => if k then (fe e).map some else some none) (ds.drop i) = some rest ∧
      qq = (accD ++ rest.1, al ++ rest.2) ∧ accD.length ≤ i ∧ RepL ⟨X.K, cA, cF⟩ (grow (vis S H (fsOf Fs al)) H Hi [D]) accV accD, ⟨ds.length, by simp, by simp, same_new nD, [], [], [], qq, upd_same, by simpa using eq, by simp, by simp, .nil⟩, ?_⟩
    rintro i m Hi ⟨rfl, hi, hs, accV, accD, al2, rest, hD, er, hq, hl, ra⟩
    obtain ⟨stop, go⟩ := turn i Hi fun b o z => hs _ _ (hZ1 _ _ z)
    by_cases hlt : i < ds.length
    · right
      have hd : ds[i]? = some ds[i] := List.getElem?_eq_getElem hlt
      obtain ⟨hgo, hy⟩ := go _ hd
      refine ⟨hgo, fun H' => i + 1 ≤ ds.length ∧ Same H1 H' ∧ ∃ accV accD al rest, H' D = some (.lst accV) ∧ compL (fun d => (bindT tg d (own.foldl (fun e i => e.set i none) env)).bind fun e => (fb e).bind fun k => if k then (fe e).map some else some none) (ds.drop (i + 1)) = some rest ∧
        qq = (accD ++ rest.1, al ++ rest.2) ∧ accD.length ≤ i + 1 ∧ RepL ⟨X.K, cA, cF⟩ (grow (vis S H (fsOf Fs al)) H H' [D]) accV accD, fun H' ⟨w1, w2, w3⟩ => ⟨ds.length - (i + 1), by omega, rfl, w1, w2, w3⟩, fun x H' hyx => ?_⟩
      obtain ⟨k1, k2⟩ := hy x H' hyx
      rw [List.drop_eq_getElem_cons hlt] at er
      obtain ⟨r, q', e1, e2, hrest⟩ := compL_cons er
      obtain ⟨env2, eb, e1⟩ := Option.bind_eq_some_iff.mp e1
      obtain ⟨k, ek, e1⟩ := Option.bind_eq_some_iff.mp e1
      have hHi : Same H Hi := fun b o z => hs _ _ (h1 _ _ z)
      have hH' : Same H H' := fun b o z => k1 _ _ (hHi _ _ z)
      have hF1 : ∀ a ∈ [D], H a = none := fun a ha => by rw [List.mem_singleton] at ha; rw [ha]; exact nHD
      have hFi : ∀ a ∈ [D], ∃ u, Hi a = some u := fun a ha => by rw [List.mem_singleton] at ha; rw [ha]; exact ⟨_, hD⟩
      have hS2 : Same (grow S H Hi [D]) Hi := grow_sub hE.sub hHi
      have hS3 : Same (grow S H H' [D]) H' := grow_sub hE.sub hH'
      have rx : Rep ⟨X.K, cA, cF⟩ (grow S H H' [D]) x ds[i] := by
        refine (k2 (grow S H Hi [D]) ?_ hS2).mono (grow_growF hHi k1 hFi)
        rw [fsOf_nil, vis_nil]
        exact grow_later (F1 := []) hE.sub h1 hs (fun a ha => by rw [List.mem_singleton] at ha; rw [ha]; exact nD)
      have hE3 : EB (grow S H H' [D]) (clrF Fs own) H' := by
        have z := (hE.step hH').clr own
        exact ⟨hS3, z.own, z.nt⟩
      have hR3 : REnv ⟨X.K, cA, cF⟩ (grow S H H' [D]) (clrF Fs own) H' (wipe σ own) (own.foldl (fun e i => e.set i none) env) :=
        (((hR.step hH').wide (grow_keep hE.sub hF1)).wiped own)
      refine bindT_run eb hS3 hR3 rx (fun i hi => clrF_in (.inr (hsl i hi))) fun σ' hR' hw => ⟨?_, ?_⟩
      · rw [hw own hsl]
        exact wipe_eq (by rw [wipe_length]) fun j hj => wipe_out hj
      · refine ⟨_, _, env2, k, hE3, hR', ek, fun H3 h3 => ?_⟩
        cases k with
        | false =>
          rw [if_neg Bool.false_ne_true] at e1 ⊢
          cases e1
          refine ⟨hlt, fun b o z => h3 _ _ (k1 _ _ (hs _ _ z)), accV, accD, al2, q', h3 _ _ (k1 _ _ hD), e2, by rw [hq, hrest], by omega, ra.mono (grow_later0 fun b o z => h3 _ _ (k1 _ _ z))⟩
        | true =>
          rw [if_pos rfl] at e1 ⊢
          obtain ⟨y, ey, rfl⟩ := Option.map_eq_some_iff.mp e1
          refine ⟨_, _, env2, y, hE3.step h3, hR'.step h3, ey, fun u H4 h4 ru => ?_⟩
          have hD4 : H4 D = some (.lst accV) := h4 _ _ (h3 _ _ (k1 _ _ hD))
          have hlv := ra.length
          have hs' := szb_line
          have hi4 : ∀ a o, a ∉ [D] → Hi a = some o → upd H4 D (.lst (accV ++ [u])) a = some o := fun a o ha z => by
            rw [upd_ne (by simpa using ha)]
            exact h4 _ _ (h3 _ _ (k1 _ _ z))
          refine ⟨accV, hD4, by omega, hlt, fun b o z => ?_, accV ++ [u], accD ++ [y.1], al2 ++ y.2.al, q', upd_same, e2, ?_, by rw [List.length_append]; simp; omega, ?_⟩
          · rw [upd_ne (ne_of_none z nD)]
            exact h4 _ _ (h3 _ _ (k1 _ _ (hs _ _ z)))
          · obtain ⟨y1, y2⟩ := y
            rw [hq, hrest]
            simp
          · refine ((ra.mono (grow_laterX hi4)).mono (grow_monoS (vis_mono hE.sub (fsOf_mono fun i hi => List.mem_append_left _ hi)))).append (.cons ((ru.al (hE3.step h3) h4).mono fun a o z => ?_) .nil)
            obtain ⟨_, z⟩ := grow_some z
            rcases z with ⟨z1, z2⟩ | ⟨⟨t, z1⟩, z2⟩
            · have haD : a ≠ D := fun w => by rw [w, h3 _ _ (k1 _ _ hD)] at z1; cases z1
              rw [grow_new (by simpa using haD) (hH'.free (h3.free z1)), upd_ne haD]
              exact z2
            · by_cases hw : a ∈ fsOf (clrF Fs own) y.2.al
              · rw [vis_in hw] at z2
                obtain ⟨t', ht⟩ := hE.own a (clrF_flat (fsOf_all hw))
                have haD : a ≠ D := ne_of_none ht nHD
                have e3 := h3 _ _ (hH' _ _ ht)
                rw [z2] at e3
                cases e3
                rw [grow_old (by simpa using haD) ht, vis_in (fsOf_mono (fun i hi => List.mem_append_right _ hi) a (fsOf_clr hw))]
                exact ht
              · rw [vis_out hw] at z2
                obtain ⟨haD, z2⟩ := grow_some z2
                have haD : a ≠ D := by simpa using haD
                rcases z2 with ⟨z3, z4⟩ | ⟨⟨t', z3⟩, z4⟩
                · rw [grow_new (by simpa using haD) z3, upd_ne haD]
                  exact h4 _ _ (h3 _ _ z4)
                · rw [grow_old (by simpa using haD) z3]
                  exact vis_ge hE.sub _ _ z4
    · have ei : i = ds.length := by omega
      subst ei
      rw [List.drop_length] at er
      simp [compL] at er
      subst er
      refine .inl ⟨stop (Nat.le_refl _), ?_⟩
      have hHi : Same H Hi := fun b o z => hs _ _ (h1 _ _ z)
      subst hq
      refine q (.ref D) Hi hHi ⟨[D], by simp, by simpa using nHD, .lst (.inl rfl) hD ?_⟩
      simpa using ra
  · cases hf
theorem se_comp {iter elt : Expr} {ifs : List Expr} {scope : Scope} {own : List (Str × Nat)} {tg : Tg} {tgE : Expr} {fi : Env → Option Its} {fe : Env → Option R} {fb : Env → Option Bool}
    (hc : X.calm = true) (hN : X.N.Nodup) (hi : PI X tgE iter (SI ⟨X.K, cA, cF⟩ fi)) (ok : BlkOk X.N X.env.scope scope own) (hsl : ∀ i ∈ tg.slots, i ∈ own.map (·.2))
    (hg : ∀ (s : Shared) (H : Hp) (C : Addr) (cl : List (Str × Addr)) (fp : List Addr), PG (X.blk s H scope (compEnvC scope cl C X.env) fp) tgE (gT X.K tg))
    (ht : ∀ (s : Shared) (H : Hp) (C : Addr) (cl : List (Str × Addr)) (fp : List Addr), PTs (X.blk s H scope (compEnvC scope cl C X.env) fp) ifs (SC ⟨X.K, cA, cF⟩ fb))
    (he : ∀ (s : Shared) (H : Hp) (C : Addr) (cl : List (Str × Addr)) (fp : List Addr), PE (X.blk s H scope (compEnvC scope cl C X.env) fp) elt (SE ⟨X.K, cA, cF⟩ fe)) (hs : ∀ x, foldedSetIterable iter X.env x = pure x) :
    PE X (.ListComp elt [⟨tgE, iter, ifs, 0⟩] scope pos) (SE ⟨X.K, cA, cF⟩ (fun env => (fi env).bind fun p => match p.2.1 with
      | [] => if p.1.length ≤ szb then (compL (fun d => (bindT tg d ((own.map (·.2)).foldl (fun e i => e.set i none) env)).bind fun e => (fb e).bind fun k =>
        if k then (fe e).map some else some none) p.1).map fun q => (.lst q.1, .own .top q.2) else none
      | _ => none)) := PE.weak (pe_lc hc hN hi ok hg ht he hs) (lc_run (iter := iter) (scope := scope) hsl)
end
end Ix
set_option Elab.async false
set_option linter.all false
set_option maxRecDepth 100000
set_option maxHeartbeats 2000000
namespace Ix
open PySem PySem.Spec PyProof.Rows L2

/-! ### states between statements -/
/-- S0, H0: at the entry; Z: what must stay; B: what may always be read; P: what a lent slot may hold -/
structure Pm where
  S0 : Hp
  H0 : Hp
  Z : Hp
  B : Hp
  P : Nat → Addr → Prop
structure Sta (L : Lk) (p : Pm) (S : Hp) (Fs : List (List Addr)) (H : Hp) (σ : L2.St) (env : Env) : Prop where
  eb : EB S Fs H
  en : REnv L S Fs H σ env
  old : Same p.H0 H
  gr : Same S (grow p.S0 p.H0 H Fs.flatten)
  bs : Same p.B S
  dj : ∀ i j a, a ∈ Fs.getD i [] → a ∈ Fs.getD j [] → i = j
  new : ∀ a ∈ Fs.flatten, p.H0 a = none
  z : Same p.Z H
  lk : ∀ i d o, env[i]? = some (some (d, o)) → ∀ a ∈ Fs.getD i [], p.Z a = none ∨ (o = .lk ∧ p.P i a)
  len : Fs.length = env.length

theorem drp_len : ∀ {is : List Nat} {env : Env}, (env.drp is).length = env.length
  | [], _ => rfl
  | i :: is, env => by
    unfold Env.drp
    rw [drp_len]
    split
    · rw [List.length_set]
    · rfl
theorem drp_get {i : Nat} {d : D} {o : Ow} : ∀ {is : List Nat} {env : Env}, (env.drp is)[i]? = some (some (d, o)) → ∃ o', env[i]? = some (some (d, o')) ∧ ((i ∈ is ∧ o = .no) ∨ (i ∉ is ∧ o = o') ∨ (o = .no ∧ o' = .no))
  | [], env, h => ⟨o, h, .inr (.inl ⟨by simp, rfl⟩)⟩
  | j :: is, env, h => by
    unfold Env.drp at h
    obtain ⟨o', h1, h2⟩ := drp_get h
    split at h1
    · rename_i d' o'' e
      by_cases hj : j = i
      · subst hj
        have hl : j < env.length := (List.getElem?_eq_some_iff.mp e).1
        rw [List.getElem?_set_self hl] at h1
        cases h1
        refine ⟨o'', e, .inl ⟨by simp, ?_⟩⟩
        rcases h2 with ⟨_, h2⟩ | ⟨_, h2⟩ | ⟨h2, _⟩ <;> exact h2
      · rw [List.getElem?_set_ne hj] at h1
        refine ⟨o', h1, ?_⟩
        rcases h2 with ⟨a, b⟩ | ⟨a, b⟩ | h2
        · exact .inl ⟨List.mem_cons_of_mem _ a, b⟩
        · refine .inr (.inl ⟨fun z => ?_, b⟩)
          rcases List.mem_cons.mp z with z | z
          · exact hj z.symm
          · exact a z
        · exact .inr (.inr h2)
    · rename_i hno
      refine ⟨o', h1, ?_⟩
      rcases h2 with ⟨a, b⟩ | ⟨a, b⟩ | h2
      · exact .inl ⟨List.mem_cons_of_mem _ a, b⟩
      · by_cases hj : j = i
        · subst hj
          exact absurd h1 (hno d o')
        · refine .inr (.inl ⟨fun z => ?_, b⟩)
          rcases List.mem_cons.mp z with z | z
          · exact hj z.symm
          · exact a z
      · exact .inr (.inr h2)
theorem clrF_len : ∀ {is : List Nat} {F : List (List Addr)}, (clrF F is).length = F.length
  | [], _ => rfl
  | i :: is, F => by unfold clrF; rw [clrF_len, List.length_set]
theorem getD_setF {F : List (List Addr)} {G : List Addr} {i j : Nat} : (F.set i G).getD j [] = if i = j ∧ i < F.length then G else F.getD j [] := by
  rw [List.getD_eq_getElem?_getD, List.getD_eq_getElem?_getD, List.getElem?_set]
  by_cases h : i = j
  · subst h
    by_cases hl : i < F.length
    · simp [hl]
    · simp [hl]
  · simp [h]
theorem RepO.noE {L : Lk} {S H : Hp} {v : V} {d : D} {F : List Addr} (r : RepO L S H v d .no F) : Rep L S v d := by
  cases r with
  | no r => exact r
  | lst p _ _ => rcases p with p | p <;> cases p
  | dK p _ _ _ => rcases p with p | p <;> cases p
  | dT p _ _ _ => rcases p with p | p <;> cases p

section
variable {L : Lk} {p : Pm} {S H H' : Hp} {Fs : List (List Addr)} {σ : L2.St} {env : Env} {v : V} {d : D} {fl : Fl} {is : List Nat} {X F : List Addr} {i : Nat} {o : Ow}
theorem Sta.flat (Y : Sta L p S Fs H σ env) {a : Addr} (h : a ∈ Fs.flatten) : S a = none := by
  cases e : S a with
  | none => rfl
  | some u => exact absurd h (grow_some (Y.gr _ _ e)).1
theorem Sta.settle (Y : Sta L p S Fs H σ env) (h : Same H H') (is : List Nat) (hX : ∀ a ∈ X, H a = none) : Sta L p (grow (vis S H (fsOf Fs is)) H H' X) (clrF Fs is) H' σ (env.drp is) := by
  have sS : Same S (grow (vis S H (fsOf Fs is)) H H' X) := fun a u e => by
    have e1 := Y.eb.sub _ _ e
    rw [grow_old (fun z => by rw [hX a z] at e1; cases e1) e1]
    exact vis_ge Y.eb.sub _ _ e
  have eb := Y.eb.step h
  refine ⟨⟨grow_sub Y.eb.vsub h, fun a ha => eb.own a (clrF_flat ha), fun a ha => eb.nt a (clrF_flat ha)⟩, ⟨by rw [drp_len]; exact Y.en.1, fun i d o e => ?_⟩, Y.old.trans h, fun a u e => ?_, Y.bs.trans sS, fun i j a h1 h2 => Y.dj i j a (clrF_le h1) (clrF_le h2), fun a ha => Y.new a (clrF_flat ha), Y.z.trans h, fun i d o e a ha => ?_, by rw [clrF_len, drp_len]; exact Y.len⟩
  · obtain ⟨o', e1, e2⟩ := drp_get e
    obtain ⟨v, hv, hn, hr⟩ := Y.en.2 i d o' e1
    refine ⟨v, hv, ?_⟩
    rcases e2 with ⟨hi, rfl⟩ | ⟨hi, rfl⟩ | ⟨rfl, rfl⟩
    · rw [clrF_in (.inr hi)]
      refine ⟨List.nodup_nil, .no (hr.drop sS fun a ha => ?_)⟩
      obtain ⟨u, hu⟩ := hr.dom a ha
      rw [grow_old (fun z => by rw [hX a z] at hu; cases hu) hu, vis_in (mem_fsOf.mpr ⟨i, hi, ha⟩)]
    · rw [clrF_out hi]
      exact ⟨hn, hr.mono sS fun a ha => by obtain ⟨u, q⟩ := hr.dom a ha; rw [q, h _ _ q]⟩
    · have e0 := hr.noF
      have e1 : (clrF Fs is).getD i [] = [] := clrF_in (.inl e0)
      rw [e1]
      exact ⟨List.nodup_nil, .no (hr.noE.mono sS)⟩
  · obtain ⟨hx, e⟩ := grow_some e
    rcases e with ⟨n, e⟩ | ⟨⟨t, n⟩, e⟩
    · have hf : a ∉ (clrF Fs is).flatten := fun z => by obtain ⟨t, q⟩ := Y.eb.own a (clrF_flat z); rw [n] at q; cases q
      rw [grow_new hf (Y.old.free n)]
      exact e
    · by_cases hw : a ∈ fsOf Fs is
      · rw [vis_in hw] at e
        have hf : a ∉ (clrF Fs is).flatten := fun z => by
          obtain ⟨j, hj⟩ := mem_flat z
          obtain ⟨k, hk, hk2⟩ := mem_fsOf.mp hw
          have := Y.dj j k a (clrF_le hj) hk2
          subst this
          rw [clrF_in (.inr hk)] at hj
          simp at hj
        rw [grow_new hf (Y.new a (fsOf_all hw))]
        exact h _ _ e
      · rw [vis_out hw] at e
        obtain ⟨hf, e1⟩ := grow_some (Y.gr _ _ e)
        have hf : a ∉ (clrF Fs is).flatten := fun z => hf (clrF_flat z)
        rcases e1 with ⟨n1, e1⟩ | ⟨⟨t1, n1⟩, e1⟩
        · rw [grow_new hf n1]; exact h _ _ e1
        · rw [grow_old hf n1]; exact e1
  · obtain ⟨o', e1, e2⟩ := drp_get e
    have hl := Y.lk i d o' e1 a (clrF_le ha)
    rcases hl with hl | ⟨rfl, hl⟩
    · exact .inl hl
    · rcases e2 with ⟨hi, rfl⟩ | ⟨hi, rfl⟩ | ⟨_, e3⟩
      · rw [clrF_in (.inr hi)] at ha; simp at ha
      · exact .inr ⟨rfl, hl⟩
      · cases e3
theorem mem_setF {a : Addr} {G : List Addr} (h : a ∈ (Fs.set i G).flatten) : a ∈ G ∨ a ∈ Fs.flatten := by
  obtain ⟨j, hj⟩ := mem_flat h
  rw [getD_setF] at hj
  split at hj
  · exact .inl hj
  · exact .inr (mem_getD hj)
theorem Sta.store (Y : Sta L p S Fs H σ env) (hi : i < env.length) (r : RepO L S H v d o F) (n : F.Nodup) (hF : ∀ a ∈ F, S a = none ∧ a ∉ Fs.flatten ∧ p.H0 a = none ∧ p.Z a = none) :
    Sta L p S (Fs.set i F) H (σ.set i (some v)) (env.set i (some (d, o))) := by
  have hil : i < Fs.length := by rw [Y.len]; exact hi
  refine ⟨⟨Y.eb.sub, fun a ha => (mem_setF ha).elim (r.dom a) (Y.eb.own a), fun a ha => (mem_setF ha).elim (r.nt a) (Y.eb.nt a)⟩, ⟨by rw [List.length_set, List.length_set]; exact Y.en.1, fun j d' o' e => ?_⟩, Y.old, fun a u e => ?_, Y.bs, fun j k a h1 h2 => ?_, fun a ha => (mem_setF ha).elim (fun z => (hF a z).2.2.1) (Y.new a), Y.z, fun j d' o' e a ha => ?_, by rw [List.length_set, List.length_set]; exact Y.len⟩
  · rw [getD_setF]
    by_cases hj : i = j
    · subst hj
      rw [List.getElem?_set_self hi] at e
      cases e
      rw [if_pos ⟨rfl, hil⟩]
      exact ⟨v, List.getElem?_set_self (by rw [← Y.en.1]; exact hi), n, r⟩
    · rw [List.getElem?_set_ne hj] at e
      rw [if_neg (fun z => hj z.1), List.getElem?_set_ne hj]
      exact Y.en.2 j d' o' e
  · obtain ⟨hf, e1⟩ := grow_some (Y.gr _ _ e)
    have hf : a ∉ (Fs.set i F).flatten := fun z => (mem_setF z).elim (fun z => by rw [(hF a z).1] at e; cases e) hf
    rcases e1 with ⟨n1, e1⟩ | ⟨⟨t1, n1⟩, e1⟩
    · rw [grow_new hf n1]; exact e1
    · rw [grow_old hf n1]; exact e1
  · rw [getD_setF] at h1 h2
    split at h1
    · rename_i h3
      split at h2
      · rename_i h4
        rw [← h3.1, ← h4.1]
      · exact absurd (mem_getD h2) (hF a h1).2.1
    · split at h2
      · exact absurd (mem_getD h1) (hF a h2).2.1
      · exact Y.dj j k a h1 h2
  · rw [getD_setF] at ha
    split at ha
    · exact .inl (hF a ha).2.2.2
    · rename_i h3
      have hj : i ≠ j := fun z => h3 ⟨z, hil⟩
      rw [List.getElem?_set_ne hj] at e
      exact Y.lk j d' o' e a ha
/-- a value that comes, ready to be stored -/
theorem Sta.take (Y : Sta L p S Fs H σ env) (h : Same H H') (r : Res L S Fs H H' v d fl) : ∃ S' F, Sta L p S' (clrF Fs fl.al) H' σ (env.drp fl.al) ∧ RepO L S' H' v d fl.ow F ∧ F.Nodup ∧ ∀ a ∈ F, S' a = none ∧ a ∉ (clrF Fs fl.al).flatten ∧ p.H0 a = none ∧ p.Z a = none := by
  cases fl with
  | own o is =>
    obtain ⟨F, n, f, q⟩ := r
    refine ⟨_, F, Y.settle h is f, q, n, fun a ha => ⟨grow_in ha, fun z => ?_, Y.old.free (f a ha), Y.z.free (f a ha)⟩⟩
    obtain ⟨u, q⟩ := Y.eb.own a (clrF_flat z)
    rw [f a ha] at q
    cases q
  | brw i o =>
    exact ⟨_, [], Y.settle (X := []) h _ (by simp), .no (r.al Y.eb h), List.nodup_nil, by simp⟩
/-- a value that comes, to be kept with nothing owned -/
theorem Sta.keep (Y : Sta L p S Fs H σ env) (h : Same H H') (r : Res L S Fs H H' v d fl) : ∃ S', Sta L p S' (clrF Fs fl.al) H' σ (env.drp fl.al) ∧ Rep L S' v d :=
  ⟨_, Y.settle (X := []) h _ (by simp), r.al Y.eb h⟩
theorem Sta.write {a : Addr} {ob : HO} {d' : D} (Y : Sta L p S Fs H σ env) (e : env[i]? = some (some (d, .top))) (hF : Fs.getD i [] = [a]) (hv : σ[i]? = some (some (.ref a))) (hob : ∀ vs, ob ≠ .tup vs) (r : RepO L S (upd H a ob) (.ref a) d' .top [a]) :
    Sta L p S Fs (upd H a ob) σ (env.set i (some (d', .top))) := by
  have ha : a ∈ Fs.flatten := mem_getD (i := i) (by rw [hF]; simp)
  have hi : i < env.length := (List.getElem?_eq_some_iff.mp e).1
  have hZ : p.Z a = none := by
    rcases Y.lk i d .top e a (by rw [hF]; simp) with h | ⟨h, _⟩
    · exact h
    · cases h
  have keep : ∀ {G : Hp}, G a = none → Same G H → Same G (upd H a ob) := fun {G} hn hs b u q => by
    by_cases hb : b = a
    · rw [hb, hn] at q; cases q
    · rw [upd_ne hb]; exact hs _ _ q
  refine ⟨⟨keep (Y.flat ha) Y.eb.sub, fun b hb => ?_, fun b hb vs z => ?_⟩, ⟨by rw [List.length_set]; exact Y.en.1, fun j dj oj ej => ?_⟩, keep (Y.new a ha) Y.old, fun b u q => ?_, Y.bs, Y.dj, Y.new, keep hZ Y.z, fun j dj oj ej b hb => ?_, by rw [List.length_set]; exact Y.len⟩
  · by_cases hba : b = a
    · exact ⟨ob, by rw [hba, upd_same]⟩
    · rw [upd_ne hba]; exact Y.eb.own b hb
  · by_cases hba : b = a
    · rw [hba, upd_same] at z; cases z; exact hob vs rfl
    · rw [upd_ne hba] at z; exact Y.eb.nt b hb vs z
  · by_cases hj : i = j
    · subst hj
      rw [List.getElem?_set_self hi] at ej
      cases ej
      exact ⟨_, hv, by rw [hF]; simp, by rw [hF]; exact r⟩
    · rw [List.getElem?_set_ne hj] at ej
      obtain ⟨w, hw, hn, hr⟩ := Y.en.2 j dj oj ej
      refine ⟨w, hw, hn, hr.mono (Same.refl _) fun b hb => upd_ne ?_⟩
      rintro rfl
      exact hj (Y.dj i j b (by rw [hF]; simp) hb)
  · have hb : b ≠ a := fun z => by rw [z, Y.flat ha] at q; cases q
    obtain ⟨hf, e1⟩ := grow_some (Y.gr _ _ q)
    rcases e1 with ⟨n1, e1⟩ | ⟨⟨t1, n1⟩, e1⟩
    · rw [grow_new hf n1, upd_ne hb]; exact e1
    · rw [grow_old hf n1]; exact e1
  · by_cases hj : i = j
    · subst hj
      rw [hF, List.mem_singleton] at hb
      subst hb
      exact .inl hZ
    · rw [List.getElem?_set_ne hj] at ej
      exact Y.lk j dj oj ej b hb
/-- the value at a return -/
theorem Sta.back (Y : Sta L p S Fs H σ env) (h : Same H H') (r : Res L S Fs H H' v d fl) : ∃ F, F.Nodup ∧ (∀ a ∈ F, p.H0 a = none) ∧ RepO L (grow p.S0 p.H0 H' F) H' v d fl.rt F := by
  have up : ∀ G : List Addr, (∀ a u, H a = some u → a ∈ G → a ∈ Fs.flatten) → Same (grow S H H' G) (grow p.S0 p.H0 H' G) := fun G hG a u e => by
    obtain ⟨hx, e⟩ := grow_some e
    rcases e with ⟨n, e⟩ | ⟨⟨t, n⟩, e⟩
    · rw [grow_new hx (Y.old.free n)]; exact e
    · obtain ⟨hf, e1⟩ := grow_some (Y.gr _ _ e)
      rcases e1 with ⟨n1, e1⟩ | ⟨⟨t1, n1⟩, e1⟩
      · rw [grow_new hx n1]; exact h _ _ e1
      · rw [grow_old hx n1]; exact e1
  cases fl with
  | own o is =>
    obtain ⟨F, n, f, q⟩ := r
    refine ⟨F, n, fun a ha => Y.old.free (f a ha), q.mono (fun a u e => ?_) fun _ _ => rfl⟩
    obtain ⟨hx, e⟩ := grow_some e
    rcases e with ⟨n, e⟩ | ⟨⟨t, n⟩, e⟩
    · rw [grow_new hx (Y.old.free n)]; exact e
    · by_cases hw : a ∈ fsOf Fs is
      · rw [vis_in hw] at e
        rw [grow_new hx (Y.new a (fsOf_all hw))]
        exact h _ _ e
      · rw [vis_out hw] at e
        exact up F (fun a u e1 e2 => by rw [f a e2] at e1; cases e1) a u (by rw [grow_old hx n]; exact e)
  | brw i o =>
    obtain ⟨F, n, f, q⟩ := r
    have hF : ∀ a ∈ F, a ∈ Fs.flatten := fun a ha => mem_getD (f a ha)
    have sub : Same (grow S H H' []) (grow p.S0 p.H0 H' F) := fun a u e => by
      obtain ⟨_, e⟩ := grow_some e
      have hx : a ∉ F := fun z => by
        rcases e with ⟨n1, e⟩ | ⟨_, e⟩
        · obtain ⟨t, q⟩ := Y.eb.own a (hF a z); rw [n1] at q; cases q
        · rw [Y.flat (hF a z)] at e; cases e
      exact up F (fun a u _ z => hF a z) a u (by
        rcases e with ⟨n1, e⟩ | ⟨⟨t, n1⟩, e⟩
        · rw [grow_new hx n1]; exact e
        · rw [grow_old hx n1]; exact e)
    by_cases hl : o = .lk
    · subst hl
      refine ⟨[], List.nodup_nil, by simp, .no (q.drop (fun a u e => ?_) fun a ha => ?_)⟩
      · obtain ⟨_, e⟩ := grow_some (sub _ _ e)
        rcases e with ⟨n1, e⟩ | ⟨⟨t, n1⟩, e⟩
        · rw [grow_new (by simp) n1]; exact e
        · rw [grow_old (by simp) n1]; exact e
      · rw [grow_new (by simp) (Y.new a (hF a ha))]
    · have em : movOw o = o := by cases o <;> first | rfl | exact absurd rfl hl
      simp only [Fl.rt, em]
      exact ⟨F, n, fun a ha => Y.new a (hF a ha), q.mono sub fun _ _ => rfl⟩
end

/-- what is wanted of an outcome -/
def OutOk (L : Lk) (p : Pm) (D : Ends) : Out → Prop
  | .nx e => ∀ S Fs H σ, Sta L p S Fs H σ e → D.nx σ H
  | .ct e => ∀ S Fs H σ, Sta L p S Fs H σ e → D.ct σ H
  | .bk e => ∀ S Fs H σ, Sta L p S Fs H σ e → D.bk σ H
  | .rt d o => ∀ v H F, Same p.H0 H → F.Nodup → (∀ a ∈ F, p.H0 a = none) → RepO L (grow p.S0 p.H0 H F) H v d o F → D.rt v H
/-- a statement -/
def SS (L : Lk) (f : Env → Option Out) : TS := fun D σ H => ∃ p S Fs env o, Sta L p S Fs H σ env ∧ f env = some o ∧ OutOk L p D o
section
variable {X : Cx} {st : Stmt} {sts : List Stmt}
theorem PS.weak {t t' : TS} (h : PS X st t) (k : ∀ D σ H, t' D σ H → t D σ H) : PS X st t' := ⟨fun pins s σ H D I q => h.run pins s σ H D I (k D σ H q)⟩
theorem PSs.weak {t t' : TS} (h : PSs X sts t) (k : ∀ D σ H, t' D σ H → t D σ H) : PSs X sts t' := ⟨fun pins s σ H D I q => h.run pins s σ H D I (k D σ H q)⟩
end
end Ix
set_option Elab.async false
set_option linter.all false
set_option maxRecDepth 100000
set_option maxHeartbeats 2000000
namespace Ix
open PySem PySem.Spec PyProof.Rows L2

section
variable {L : Lk} {p : Pm} {S H H' : Hp} {Fs : List (List Addr)} {σ : L2.St} {env env' : Env} {v : V} {d : D} {fl : Fl} {i : Nat} {o : Ow}
/-- a value with nothing owned, stored -/
theorem Sta.store0 (Y : Sta L p S Fs H σ env) (hi : i < env.length) (r : Rep L S v d) : Sta L p S (Fs.set i []) H (σ.set i (some v)) (env.set i (some (d, .no))) :=
  Y.store hi (.no r) List.nodup_nil (by simp)
theorem Sta.storeAll : ∀ {is : List Nat} {vs : List V} {ds : List D} {Fs : List (List Addr)} {σ : L2.St} {env : Env}, Sta L p S Fs H σ env → is.all (· < env.length) = true → RepL L S vs ds → ∃ Fs', Sta L p S Fs' H (setV σ is vs) (setAll env is (ds.map fun d => (d, .no)))
  | [], [], _, Fs, _, _, Y, _, .nil => ⟨Fs, Y⟩
  | [], _ :: _, _, Fs, _, _, Y, _, .cons _ _ => ⟨Fs, Y⟩
  | _ :: _, [], _, Fs, _, _, Y, _, .nil => ⟨Fs, Y⟩
  | i :: is, v :: vs, _, Fs, σ, env, Y, hl, .cons a b => by
    simp only [List.all_cons, Bool.and_eq_true, decide_eq_true_eq] at hl
    have Y2 := Y.store0 hl.1 a
    rw [List.map_cons]
    exact Sta.storeAll Y2 (by rw [List.length_set]; exact hl.2) b
theorem Sta.bindT {tg : Tg} {Q : L2.St → Hp → Prop} (Y : Sta L p S Fs H σ env) (r : Rep L S v d) (hb : bindT tg d env = some env') (k : ∀ Fs' σ', Sta L p S Fs' H σ' env' → Q σ' H) : gT L.K tg v σ H Q := by
  cases tg with
  | one i =>
    unfold Ix.bindT at hb
    simp only at hb
    split at hb
    · rename_i hi
      cases hb
      exact k _ _ (Y.store0 hi r)
    · cases hb
  | many is =>
    unfold Ix.bindT at hb
    simp only at hb
    split at hb
    · rename_i ds
      split at hb
      · rename_i hc
        cases hb
        cases r with
        | tup h1 h2 =>
          obtain ⟨Fs', Y2⟩ := Y.storeAll hc.2 h2
          exact ⟨_, _, rfl, SqT.of (Y.eb.sub _ _ h1), by rw [h2.length]; exact hc.1, gNs_run (by rw [h2.length]; exact hc.1) (k _ _ Y2)⟩
      · cases hb
    · cases hb
/-- the heap has grown -/
theorem Sta.step (Y : Sta L p S Fs H σ env) (h : Same H H') : Sta L p (grow S H H' []) Fs H' σ env := by
  have := Y.settle (X := []) h [] (by simp)
  rw [fsOf_nil, vis_nil] at this
  exact this
/-- what stands in a slot -/
theorem Sta.at_ (Y : Sta L p S Fs H σ env) (e : env[i]? = some (some (d, o))) : ∃ v, σ[i]? = some (some v) ∧ (Fs.getD i []).Nodup ∧ RepO L S H v d o (Fs.getD i []) := Y.en.2 i d o e
theorem Sta.lstAt {ds : List D} (Y : Sta L p S Fs H σ env) (e : env[i]? = some (some (.lst ds, .top))) : ∃ a vs, σ[i]? = some (some (.ref a)) ∧ Fs.getD i [] = [a] ∧ H a = some (.lst vs) ∧ RepL L S vs ds := by
  obtain ⟨v, hv, hn, hr⟩ := Y.at_ e
  generalize hF : Fs.getD i [] = F at hr
  cases hr with
  | lst _ h1 h2 => exact ⟨_, _, hv, rfl, h1, h2⟩
theorem Sta.dKAt {kds : List (Key × D)} (Y : Sta L p S Fs H σ env) (e : env[i]? = some (some (.dK kds, .top))) : ∃ a kvs, σ[i]? = some (some (.ref a)) ∧ Fs.getD i [] = [a] ∧ H a = some (.dK kvs) ∧ kvs.map (·.1) = kds.map (·.1) ∧ RepL L S (kvs.map (·.2)) (kds.map (·.2)) := by
  obtain ⟨v, hv, hn, hr⟩ := Y.at_ e
  generalize hF : Fs.getD i [] = F at hr
  cases hr with
  | dK _ h1 h2 h3 => exact ⟨_, _, hv, rfl, h1, h2, h3⟩
theorem Sta.dTAt {kds : List (List Key × D)} (Y : Sta L p S Fs H σ env) (e : env[i]? = some (some (.dT kds, .top))) : ∃ a kvs, σ[i]? = some (some (.ref a)) ∧ Fs.getD i [] = [a] ∧ H a = some (.dT kvs) ∧ kvs.map (·.1) = kds.map (·.1) ∧ RepL L S (kvs.map (·.2)) (kds.map (·.2)) := by
  obtain ⟨v, hv, hn, hr⟩ := Y.at_ e
  generalize hF : Fs.getD i [] = F at hr
  cases hr with
  | dT _ h1 h2 h3 => exact ⟨_, _, hv, rfl, h1, h2, h3⟩
end
section
variable {L : Lk} {κ : Type} [DecidableEq κ] {G : Hp}
theorem put_keys {kvs : List (κ × V)} {kds : List (κ × D)} {k : κ} {v : V} {d : D} (h : kvs.map (·.1) = kds.map (·.1)) (r : RepL L G (kvs.map (·.2)) (kds.map (·.2))) (rv : Rep L G v d) :
    (putK kvs k v).map (·.1) = (put kds k d).map (·.1) ∧ RepL L G ((putK kvs k v).map (·.2)) ((put kds k d).map (·.2)) := by
  have hany : (kvs.any fun kv => decide (kv.1 = k)) = (kds.any fun kv => decide (kv.1 = k)) := by
    have e1 : (kvs.any fun kv => decide (kv.1 = k)) = (kvs.map (·.1)).any fun x => decide (x = k) := by rw [List.any_map]; rfl
    have e2 : (kds.any fun kv => decide (kv.1 = k)) = (kds.map (·.1)).any fun x => decide (x = k) := by rw [List.any_map]; rfl
    rw [e1, e2, h]
  unfold putK put
  rw [hany]
  by_cases hc : (kds.any fun kv => decide (kv.1 = k)) = true
  · rw [if_pos hc, if_pos hc]
    clear hany hc
    induction kvs generalizing kds with
    | nil =>
      cases kds with
      | nil => exact ⟨rfl, .nil⟩
      | cons _ _ => simp at h
    | cons x xs ih =>
      cases kds with
      | nil => simp at h
      | cons y ys =>
        simp only [List.map_cons, List.cons.injEq] at h
        simp only [List.map_cons] at r
        cases r with
        | cons r1 r2 =>
          obtain ⟨q1, q2⟩ := ih h.2 r2
          simp only [List.map_cons]
          rw [q1]
          by_cases hk : x.1 = k
          · have hk2 : y.1 = k := by rw [← h.1]; exact hk
            rw [if_pos hk, if_pos hk2]
            exact ⟨by rw [h.1], .cons rv q2⟩
          · have hk2 : ¬ y.1 = k := by rw [← h.1]; exact hk
            rw [if_neg hk, if_neg hk2]
            exact ⟨by rw [h.1], .cons r1 q2⟩
  · rw [if_neg hc, if_neg hc]
    simp only [List.map_append, List.map_cons, List.map_nil]
    exact ⟨by rw [h], r.append (.cons rv .nil)⟩
end
section
variable {X : Cx} {a b c e : Expr} {es : List Expr} {st : Stmt} {sts : List Stmt} {x : Str} {i : Nat} {pos pos' apos cpos : Pos} {cA : Nat → Addr} {cF : Nat → List Str} {fa fb fc fe : Env → Option R} {fs : Env → Option (List R)} {f g : Env → Option Out}

theorem ss_nil : PSs X [] (SS ⟨X.K, cA, cF⟩ fun env => some (.nx env)) := PSs.weak pss_nil fun D σ H ⟨p, S, Fs, env, o, Y, hf, q⟩ => by
  cases hf
  exact q _ _ _ _ Y
theorem ss_cons (h1 : PS X st (SS ⟨X.K, cA, cF⟩ f)) (h2 : PSs X sts (SS ⟨X.K, cA, cF⟩ g)) : PSs X (st :: sts) (SS ⟨X.K, cA, cF⟩ fun env => (f env).bind fun o => match o with
    | .nx e => g e
    | o => some o) := PSs.weak (pss_cons h1 h2) fun D σ H ⟨p, S, Fs, env, o, Y, hf, q⟩ => by
  obtain ⟨o1, e1, hf⟩ := Option.bind_eq_some_iff.mp hf
  refine ⟨p, S, Fs, env, o1, Y, e1, ?_⟩
  cases o1 with
  | nx e2 => exact fun S2 Fs2 H2 σ2 Y2 => ⟨p, S2, Fs2, e2, o, Y2, hf, q⟩
  | ct e2 => cases hf; exact q
  | bk e2 => cases hf; exact q
  | rt d o => cases hf; exact q
theorem ss_pass : PS X (.Pass pos) (SS ⟨X.K, cA, cF⟩ fun env => some (.nx env)) := PS.weak ps_pass fun D σ H ⟨p, S, Fs, env, o, Y, hf, q⟩ => by cases hf; exact q _ _ _ _ Y
theorem ss_cont : PS X (.Continue pos) (SS ⟨X.K, cA, cF⟩ fun env => some (.ct env)) := PS.weak ps_continue fun D σ H ⟨p, S, Fs, env, o, Y, hf, q⟩ => by cases hf; exact q _ _ _ _ Y
theorem ss_brk : PS X (.Break pos) (SS ⟨X.K, cA, cF⟩ fun env => some (.bk env)) := PS.weak ps_break fun D σ H ⟨p, S, Fs, env, o, Y, hf, q⟩ => by cases hf; exact q _ _ _ _ Y
theorem ss_never : PS X st (SS ⟨X.K, cA, cF⟩ fun _ => none) := PS.weak ps_never fun D σ H ⟨p, S, Fs, env, o, Y, hf, q⟩ => by cases hf
theorem ss_expr (he : PE X e (SE ⟨X.K, cA, cF⟩ fe)) (hs : swapsWith e none pos.line X.env = pure false) : PS X (.Expr e pos) (SS ⟨X.K, cA, cF⟩ fun env => (fe env).bind fun _ => some (.nx env)) :=
  PS.weak (ps_expr he hs) fun D σ H ⟨p, S, Fs, env, o, Y, hf, q⟩ => by
    obtain ⟨r, e1, hf⟩ := Option.bind_eq_some_iff.mp hf
    cases hf
    exact SE.one Y.eb Y.en e1 fun v H' h _ => q _ _ _ _ (Y.step h)
theorem ss_ret (he : PE X e (SE ⟨X.K, cA, cF⟩ fe)) : PS X (.Return (some e) pos) (SS ⟨X.K, cA, cF⟩ fun env => (fe env).bind fun x => some (.rt x.1 x.2.rt)) :=
  PS.weak (ps_ret he) fun D σ H ⟨p, S, Fs, env, o, Y, hf, q⟩ => by
    obtain ⟨r, e1, hf⟩ := Option.bind_eq_some_iff.mp hf
    cases hf
    refine SE.one Y.eb Y.en e1 fun v H' h r1 => ?_
    obtain ⟨F, n, hF, r2⟩ := Y.back h r1
    exact q v H' F (Y.old.trans h) n hF r2
theorem ss_retN : PS X (.Return none pos) (SS ⟨X.K, cA, cF⟩ fun _ => some (.rt .non .no)) := PS.weak ps_retN fun D σ H ⟨p, S, Fs, env, o, Y, hf, q⟩ => by
  cases hf
  exact q .non H [] Y.old List.nodup_nil (by simp) (.no .non)
theorem ss_ifs {ss1 ss2 : List Stmt} {f1 f2 : Env → Option Out} (hc : PT X c (ST ⟨X.K, cA, cF⟩ fc)) (h1 : PSs X ss1 (SS ⟨X.K, cA, cF⟩ f1)) (h2 : PSs X ss2 (SS ⟨X.K, cA, cF⟩ f2)) :
    PS X (.If c ss1 ss2 pos) (SS ⟨X.K, cA, cF⟩ fun env => ((fc env).bind blOf).bind fun k => if k then f1 env else f2 env) :=
  PS.weak (ps_if hc h1 h2) fun D σ H ⟨p, S, Fs, env, o, Y, hf, q⟩ => by
    obtain ⟨k, e1, hf⟩ := Option.bind_eq_some_iff.mp hf
    obtain ⟨⟨dx, fx⟩, e2, e1⟩ := Option.bind_eq_some_iff.mp e1
    cases dx <;> simp only [blOf, reduceCtorEq] at e1
    cases e1
    refine ⟨S, Fs, env, k, fx, Y.eb, Y.en, e2, fun H' h => ?_⟩
    cases k with
    | true => rw [if_pos rfl] at hf ⊢; exact ⟨p, _, _, env, o, Y.step h, hf, q⟩
    | false => rw [if_neg Bool.false_ne_true] at hf ⊢; exact ⟨p, _, _, env, o, Y.step h, hf, q⟩
theorem set_read {te : TE} (hw : ∀ σ H Q, SE ⟨X.K, cA, cF⟩ fe σ H Q → te σ H Q) : ∀ D σ H, SS ⟨X.K, cA, cF⟩ (fun env => (fe env).bind fun x => if i < env.length then some (.nx ((env.drp x.2.al).set i (some (x.1, x.2.ow)))) else none) D σ H → tAsg te (gName i) D σ H :=
  fun D σ H ⟨p, S, Fs, env, o, Y, hf, q⟩ => by
    obtain ⟨r, e1, hf⟩ := Option.bind_eq_some_iff.mp hf
    split at hf
    · rename_i hi
      cases hf
      refine hw _ _ _ (SE.one Y.eb Y.en e1 fun v H' h r1 => ?_)
      obtain ⟨S', F, Y2, r2, n, hF⟩ := Y.take h r1
      exact q _ _ _ _ (Y2.store (by rw [drp_len]; exact hi) r2 n hF)
    · cases hf
theorem ss_set (hN : X.N.Nodup) (hi : X.N[i]? = some x) (hx : Loc X.env.scope x) (hf : X.fn x = true ∨ X.env.scope.names.lookup x = some .local) (he : PE X e (SE ⟨X.K, cA, cF⟩ fe)) (hs : swapsWith e (some (.Name x pos')) pos.line X.env = pure false) :
    PS X (.Assign [.Name x pos'] e pos) (SS ⟨X.K, cA, cF⟩ fun env => (fe env).bind fun x => if i < env.length then some (.nx ((env.drp x.2.al).set i (some (x.1, x.2.ow)))) else none) :=
  PS.weak (ps_set hN hi hx he hs hf) (set_read fun _ _ _ h => h)
def gTs (K : PySem.W.Frag) (is : List Nat) : TG := gTup K is.length (gNs is)
theorem ss_setT {tg : Expr} {is : List Nat} (hg : PG X tg (gTs X.K is)) (he : PE X e (SE ⟨X.K, cA, cF⟩ fe)) (hs : swapsWithSole [tg] e pos.line X.env = pure false) (hw : swappedStores [tg] e X.env = pure none) (h1 : (assignEach [tg] X.env).map (·.2) = [assign tg X.env]) :
    PS X (.Assign [tg] e pos) (SS ⟨X.K, cA, cF⟩ fun env => (fe env).bind fun x => match x.1 with
    | .tup ds => if ds.length = is.length ∧ is.all (· < env.length) then some (.nx (setAll (env.drp x.2.al) is (ds.map fun d => (d, .no)))) else none
    | _ => none) :=
  PS.weak (ps_asg he hg hs hw h1) fun D σ H ⟨p, S, Fs, env, o, Y, hf, q⟩ => by
    obtain ⟨⟨dx, fx⟩, e1, hf⟩ := Option.bind_eq_some_iff.mp hf
    cases dx <;> simp only [reduceCtorEq] at hf
    split at hf
    · rename_i hc
      cases hf
      refine SE.one Y.eb Y.en e1 fun v H' h r1 => ?_
      obtain ⟨S', Y2, r2⟩ := Y.keep h r1
      cases r2 with
      | tup h1 h2 =>
        obtain ⟨Fs', Y3⟩ := Y2.storeAll (by simp only [drp_len]; exact hc.2) h2
        exact ⟨_, _, rfl, SqT.of (Y2.eb.sub _ _ h1), by rw [h2.length]; exact hc.1, gNs_run (by rw [h2.length]; exact hc.1) (q _ _ _ _ Y3)⟩
    · cases hf
theorem ss_aug (hN : X.N.Nodup) (hi : X.N[i]? = some x) (hx : Loc X.env.scope x) (hf : X.fn x = true ∨ X.env.scope.names.lookup x = some .local) (he : PE X e (SE ⟨X.K, cA, cF⟩ fe)) :
    PS X (.AugAssign (.Name x pos') .Add e pos) (SS ⟨X.K, cA, cF⟩ fun env => match env[i]? with
    | some (some (.int a, _)) => (fe env).bind fun x => match x.1 with
      | .int b => some (.nx (env.set i (some (.int (a + b), .no))))
      | _ => none
    | _ => none) :=
  PS.weak (ps_aug hN hi hx he ip_add hf) fun D σ H ⟨p, S, Fs, env, o, Y, hf, q⟩ => by
    simp only at hf
    split at hf
    · rename_i n o' ei
      obtain ⟨⟨dx, fx⟩, e1, hf⟩ := Option.bind_eq_some_iff.mp hf
      cases dx <;> simp only [reduceCtorEq] at hf
      rename_i m
      cases hf
      obtain ⟨v, hv, hn, hr⟩ := Y.at_ ei
      have ev : v = .int n := by
        generalize Fs.getD i [] = F at hr
        cases hr with | no r => exact intV r
      subst ev
      refine ⟨_, hv, SE.one Y.eb Y.en e1 fun w H' h r1 => ?_⟩
      have ew := intV (r1.now Y.eb h)
      subst ew
      exact ⟨n, m, rfl, rfl, q _ _ _ _ ((Y.step h).store0 (List.getElem?_eq_some_iff.mp ei).1 (.int _))⟩
    · cases hf
end
end Ix
set_option Elab.async false
set_option linter.all false
set_option maxRecDepth 100000
set_option maxHeartbeats 2000000
namespace Ix
open PySem PySem.Spec PyProof.Rows L2

theorem OrSet {X : Cx} {t u : TSet} (h : PSet X t) (h' : PSet X u) : PSet X (fun o i v H Q => t o i v H Q ∨ u o i v H Q) := by
  intro pins s σ H o i v ov iv w Q I ro ri rv q
  rcases q with q | q
  · exact h pins s σ H o i v ov iv w Q I ro ri rv q
  · exact h' pins s σ H o i v ov iv w Q I ro ri rv q
theorem Sta.settle0 {L : Lk} {p : Pm} {S H H' : Hp} {Fs : List (List Addr)} {σ : L2.St} {env : Env} {v : V} {d : D} {fl : Fl} (Y : Sta L p S Fs H σ env) {H1 : Hp} (h1 : Same H H1) (h : Same H1 H') (r : Res L S Fs H H1 v d fl) :
    ∃ S', Sta L p S' (clrF Fs fl.al) H' σ (env.drp fl.al) ∧ Rep L S' v d := Y.keep (h1.trans h) (r.later h)
section
variable {X : Cx} {a b c e k : Expr} {es : List Expr} {st : Stmt} {sts : List Stmt} {x : Str} {i : Nat} {pos pos' pos2 apos cpos : Pos} {cA : Nat → Addr} {cF : Nat → List Str} {fa fb fc fe fk : Env → Option R} {fs : Env → Option (List R)} {f g : Env → Option Out}

theorem slotV {L : Lk} {p : Pm} {S H : Hp} {Fs : List (List Addr)} {σ : L2.St} {env : Env} {P : V → Prop} {v : V} (h : σ[i]? = some (some v)) (h2 : P v) : ∃ w, σ[i]? = some (some w) ∧ P w := ⟨v, h, h2⟩
theorem ss_put (hu : X.A.units + 65 < cLine) (hi : PE X (.Name x pos') (tVar i)) (hk : PE X k (SE ⟨X.K, cA, cF⟩ fk)) (he : PE X e (SE ⟨X.K, cA, cF⟩ fe))
    (ha : ∀ v, assign (.Subscript (.Name x pos') k pos2) X.env v = (do
      let ov ← holding [v] (eval (.Name x pos') X.env)
      let iv ← holding [v, ov] (eval k X.env)
      standAt pos2
      holding [v, ov, iv] (setItem ov iv v)
      release [v, ov, iv] []))
    (hs : swapsWithSole [.Subscript (.Name x pos') k pos2] e pos.line X.env = pure false) (hw : swappedStores [.Subscript (.Name x pos') k pos2] e X.env = pure none) (h1 : (assignEach [.Subscript (.Name x pos') k pos2] X.env).map (·.2) = [assign (.Subscript (.Name x pos') k pos2) X.env]) :
    PS X (.Assign [.Subscript (.Name x pos') k pos2] e pos) (SS ⟨X.K, cA, cF⟩ fun env => (fe env).bind fun x => (fk env).bind fun y => match (env.drp x.2.al)[i]? with
    | some (some (.lst ds, .top)) => match y.1 with
      | .int j => (ixN ds.length j).map fun j => .nx ((env.drp x.2.al).set i (some (.lst (ds.set j x.1), .top)))
      | _ => none
    | some (some (.dK kvs, .top)) => (D.key y.1).bind fun k => if kvs.length < szb then some (.nx ((env.drp x.2.al).set i (some (.dK (put kvs k x.1), .top)))) else none
    | some (some (.dT kvs, .top)) => match y.1 with
      | .tup ks => (D.keys ks).bind fun k => if kvs.length < szb then some (.nx ((env.drp x.2.al).set i (some (.dT (put kvs k x.1), .top)))) else none
      | _ => none
    | _ => none) := by
  refine PS.weak (ps_asg he (pg_sub hi hk (OrSet set_list (set_dict (by omega))) ha) hs hw h1) fun D σ H ⟨p, S, Fs, env, o, Y, hf, q⟩ => ?_
  obtain ⟨r, e1, hf⟩ := Option.bind_eq_some_iff.mp hf
  obtain ⟨y, e2, hf⟩ := Option.bind_eq_some_iff.mp hf
  have run : ∀ (v : V) (Q : V → V → Hp → Prop), σ[i]? = some (some v) → (∀ w u H2, Same H H2 → Res ⟨X.K, cA, cF⟩ S Fs H H2 w r.1 r.2 → Res ⟨X.K, cA, cF⟩ S Fs H H2 u y.1 y.2 → (rSetL v u w H2 (fun H3 => D.nx σ H3) ∨ rSetD v u w H2 fun H3 => D.nx σ H3)) →
      tAsg (SE ⟨X.K, cA, cF⟩ fe) (gSub (tVar i) (SE ⟨X.K, cA, cF⟩ fk) fun o i v H Q => rSetL o i v H Q ∨ rSetD o i v H Q) D σ H := fun v Q hv kk =>
    SE.one Y.eb Y.en e1 fun w H1 h1 r1 => ⟨v, hv, SE.one (Y.eb.step h1) (Y.en.step h1) e2 fun u H2 h2 r2 => kk w u H2 (h1.trans h2) (r1.later h2) (r2.base Y.eb h1)⟩
  split at hf
  · rename_i ds ei
    obtain ⟨dy, fy⟩ := y
    cases dy <;> simp only [reduceCtorEq] at hf
    rename_i j
    obtain ⟨j', ej, rfl⟩ := Option.map_eq_some_iff.mp hf
    obtain ⟨a, vs, hv, _, _, _⟩ := (Y.settle (X := []) (Same.refl H) r.2.al (by simp)).lstAt ei
    refine run _ (fun _ _ _ => True) hv fun w u H2 h2 r1 r2 => .inl ?_
    obtain ⟨S', Y2, rw'⟩ := Y.keep h2 r1
    obtain ⟨a', vs', hv', hF, ha', rl⟩ := Y2.lstAt ei
    rw [hv] at hv'
    cases hv'
    refine ⟨a, vs', j, j', rfl, intV (r2.now Y.eb h2), ha', by rw [rl.length]; exact ej, q _ _ _ _ (Y2.write ei hF hv (fun _ z => by cases z) (.lst (.inl rfl) upd_same (RepL.set rw' _ rl)))⟩
  · rename_i kds ei
    obtain ⟨key, ek, hf⟩ := Option.bind_eq_some_iff.mp hf
    split at hf
    · rename_i hz
      cases hf
      obtain ⟨a, vs, hv, _, _, _⟩ := (Y.settle (X := []) (Same.refl H) r.2.al (by simp)).dKAt ei
      refine run _ (fun _ _ _ => True) hv fun w u H2 h2 r1 r2 => .inr ?_
      obtain ⟨S', Y2, rw'⟩ := Y.keep h2 r1
      obtain ⟨a', kvs, hv', hF, ha', rk, rl⟩ := Y2.dKAt ei
      rw [hv] at hv'
      cases hv'
      have eu := (r2.now Y.eb h2).keyV ek
      subst eu
      obtain ⟨q1, q2⟩ := put_keys (k := key) rk rl rw'
      have hl : kvs.length = kds.length := by have := congrArg List.length rk; simpa using this
      have hsz := szb_line
      exact ⟨a, _, rfl, DPut.k ha' (by omega), q _ _ _ _ (Y2.write ei hF hv (fun _ z => by cases z) (.dK (.inl rfl) upd_same q1 q2))⟩
    · cases hf
  · rename_i kds ei
    obtain ⟨dy, fy⟩ := y
    cases dy <;> simp only [reduceCtorEq] at hf
    rename_i ks
    obtain ⟨key, ek, hf⟩ := Option.bind_eq_some_iff.mp hf
    split at hf
    · rename_i hz
      cases hf
      obtain ⟨a, vs, hv, _, _, _⟩ := (Y.settle (X := []) (Same.refl H) r.2.al (by simp)).dTAt ei
      refine run _ (fun _ _ _ => True) hv fun w u H2 h2 r1 r2 => .inr ?_
      obtain ⟨S', Y2, rw'⟩ := Y.keep h2 r1
      obtain ⟨a', kvs, hv', hF, ha', rk, rl⟩ := Y2.dTAt ei
      rw [hv] at hv'
      cases hv'
      obtain ⟨q1, q2⟩ := put_keys (k := key) rk rl rw'
      have hl : kvs.length = kds.length := by have := congrArg List.length rk; simpa using this
      have hsz := szb_line
      cases r2.now Y.eb h2 with
      | tup t1 t2 =>
        have eu := t2.keysV ek
        subst eu
        exact ⟨a, _, rfl, DPut.t ha' t1 (by omega), q _ _ _ _ (Y2.write ei hF hv (fun _ z => by cases z) (.dT (.inl rfl) upd_same q1 q2))⟩
    · cases hf
  · cases hf

theorem meth_few (hs : es.all okE = true) (hl : es.length < 29) : ((backTo cpos (starEach es X.env)).all (fun x => !x.1) && (backToKw cpos (keywordEach [] X.env)).all (fun x => x.1.isSome)
      && decide (es.length + ([] : List Keyword).length + (if ([] : List Keyword).isEmpty then 0 else 1) < 30)) = true := few_of hs hl
theorem ss_app (hx : PE X (.Name x pos') (tVar i)) (ho : okE e = true) (hline : (apos.endLine == cpos.line) = true) (he : PE X e (SE ⟨X.K, cA, cF⟩ fe)) :
    PS X (.Expr (.Call (.Attribute (.Name x pos') "append" apos) [e] [] cpos) pos) (SS ⟨X.K, cA, cF⟩ fun env => (fe env).bind fun x => match (env.drp x.2.al)[i]? with
    | some (some (.lst ds, .top)) => if ds.length < szb then some (.nx ((env.drp x.2.al).set i (some (.lst (ds ++ [x.1]), .top)))) else none
    | _ => none) := by
  refine PS.weak (ps_expr (pe_bm PySem.F.plainAttrs_list PySem.F.slot_list_append PySem.F.type_list_append mt_append hx (pa_cons he pa_nil (star_cons ho)) rfl (meth_few (by simp [ho]) (by simp)) hline (star_cons ho) rfl)) fun D σ H ⟨p, S, Fs, env, o, Y, hf, q⟩ => ?_
  obtain ⟨r, e1, hf⟩ := Option.bind_eq_some_iff.mp hf
  split at hf
  · rename_i ds ei
    split at hf
    · rename_i hz
      cases hf
      obtain ⟨a, vs, hv, hF0, hl0, _⟩ := (Y.settle (X := []) (Same.refl H) r.2.al (by simp)).lstAt ei
      refine ⟨_, hv, .inl ⟨rfl, _, SqL.of hl0⟩, SE.one Y.eb Y.en e1 fun w H2 h2 r1 => ?_⟩
      obtain ⟨S', Y2, rw'⟩ := Y.keep h2 r1
      obtain ⟨a', vs', hv', hF, ha', rl⟩ := Y2.lstAt ei
      rw [hv] at hv'
      cases hv'
      have hll := rl.length
      have hsz := szb_line
      exact ⟨a, vs', w, rfl, rfl, ha', by omega, q _ _ _ _ (Y2.write ei hF hv (fun _ z => by cases z) (.lst (.inl rfl) upd_same (rl.append (.cons rw' .nil))))⟩
    · cases hf
  · cases hf
theorem ss_ext (hx : PE X (.Name x pos') (tVar i)) (ho : okE e = true) (hline : (apos.endLine == cpos.line) = true) (he : PE X e (SE ⟨X.K, cA, cF⟩ fe)) :
    PS X (.Expr (.Call (.Attribute (.Name x pos') "extend" apos) [e] [] cpos) pos) (SS ⟨X.K, cA, cF⟩ fun env => (fe env).bind fun x => match (env.drp x.2.al)[i]?, x.1 with
    | some (some (.lst ds, .top)), .lst es => if ds.length + es.length ≤ szb then some (.nx ((env.drp x.2.al).set i (some (.lst (ds ++ es), .top)))) else none
    | _, _ => none) := by
  refine PS.weak (ps_expr (pe_bm PySem.F.plainAttrs_list PySem.F.slot_list_extend PySem.F.type_list_extend mt_extend hx (pa_cons he pa_nil (star_cons ho)) rfl (meth_few (by simp [ho]) (by simp)) hline (star_cons ho) rfl)) fun D σ H ⟨p, S, Fs, env, o, Y, hf, q⟩ => ?_
  obtain ⟨r, e1, hf⟩ := Option.bind_eq_some_iff.mp hf
  split at hf
  · rename_i ds es ei er
    split at hf
    · rename_i hz
      cases hf
      obtain ⟨a, vs, hv, hF0, hl0, _⟩ := (Y.settle (X := []) (Same.refl H) r.2.al (by simp)).lstAt ei
      refine ⟨_, hv, .inl ⟨rfl, _, SqL.of hl0⟩, SE.one Y.eb Y.en e1 fun w H2 h2 r1 => ?_⟩
      obtain ⟨S', Y2, rw'⟩ := Y.keep h2 r1
      obtain ⟨a', vs', hv', hF, ha', rl⟩ := Y2.lstAt ei
      rw [hv] at hv'
      cases hv'
      have hll := rl.length
      have hsz := szb_line
      rw [er] at rw'
      cases rw' with
      | lst k1 k2 =>
        have hl2 := k2.length
        exact ⟨a, _, vs', _, rfl, rfl, ha', Y2.eb.sub _ _ k1, by omega, q _ _ _ _ (Y2.write ei hF hv (fun _ z => by cases z) (.lst (.inl rfl) upd_same (rl.append k2)))⟩
    · cases hf
  · cases hf
theorem ss_clr (hx : PE X (.Name x pos') (tVar i)) (hline : (apos.endLine == cpos.line) = true) :
    PS X (.Expr (.Call (.Attribute (.Name x pos') "clear" apos) [] [] cpos) pos) (SS ⟨X.K, cA, cF⟩ fun env => match env[i]? with
    | some (some (.lst _, .top)) => some (.nx (env.set i (some (.lst [], .top))))
    | _ => none) := by
  refine PS.weak (ps_expr (pe_bm0 PySem.F.plainAttrs_list PySem.F.slot_list_clear PySem.F.type_list_clear mt_clear hx rfl hline)) fun D σ H ⟨p, S, Fs, env, o, Y, hf, q⟩ => ?_
  simp only at hf
  split at hf
  · rename_i ds ei
    cases hf
    obtain ⟨a, vs, hv, hF, ha, rl⟩ := Y.lstAt ei
    exact ⟨_, hv, .inl ⟨rfl, _, SqL.of ha⟩, a, vs, rfl, rfl, ha, q _ _ _ _ (Y.write ei hF hv (fun _ z => by cases z) (.lst (.inl rfl) upd_same .nil))⟩
  · cases hf
end
end Ix
set_option Elab.async false
set_option linter.all false
set_option maxRecDepth 100000
set_option maxHeartbeats 2000000
namespace Ix
open PySem PySem.Spec PyProof.Rows L2

/-! ### a returned tuple -/
theorem cnt_cons {W : List Nat} {i j : Nat} : cnt (j :: W) i = (if j = i then 1 else 0) + cnt W i := by
  unfold cnt
  by_cases h : j = i
  · subst h; simp; omega
  · simp [h]
theorem cnt_app {V W : List Nat} {i : Nat} : cnt (V ++ W) i = cnt V i + cnt W i := by
  unfold cnt
  simp
theorem cnt_mem {W : List Nat} {i : Nat} (h : i ∈ W) : 1 ≤ cnt W i := by
  induction W with
  | nil => simp at h
  | cons j W ih =>
    rw [cnt_cons]
    rcases List.mem_cons.mp h with h | h
    · subst h; simp
    · have := ih h; omega
theorem als_cons {r : R} {rs : List R} : als (r :: rs) = r.2.al ++ als rs := by simp [als]
theorem mem_als {r : R} {rs : List R} {i : Nat} (h : r ∈ rs) (hi : i ∈ r.2.al) : i ∈ als rs := by
  unfold als
  exact List.mem_flatten.mpr ⟨_, List.mem_map.mpr ⟨r, h, rfl⟩, hi⟩
theorem cnt_two {i : Nat} {r r1 : R} : ∀ {rs : List R}, r ∈ rs → r1 ∈ rs → r ≠ r1 → i ∈ r.2.al → i ∈ r1.2.al → 2 ≤ cnt (als rs) i
  | [], h, _, _, _, _ => by simp at h
  | x :: xs, h, h1, hn, hi, hi1 => by
    rw [als_cons, cnt_app]
    rcases List.mem_cons.mp h with k | k
    · rcases List.mem_cons.mp h1 with k1 | k1
      · exact absurd (k.trans k1.symm) hn
      · have q1 := cnt_mem (mem_als k1 hi1)
        rw [k] at hi
        have q2 := cnt_mem hi
        omega
    · rcases List.mem_cons.mp h1 with k1 | k1
      · rw [k1] at hi1
        have q1 := cnt_mem hi1
        have q2 := cnt_mem (mem_als k hi)
        omega
      · have := cnt_two k k1 hn hi hi1
        omega
/-- is it handed on out of its slot -/
def mv (W : List Nat) (r : R) : Bool := match r.2 with
  | .brw i .top => decide (cnt W i ≤ 1)
  | .brw i (.tp _) => decide (cnt W i ≤ 1)
  | _ => false
theorem retO_not {W : List Nat} {d : D} {i : Nat} {o : Ow} (h : mv W (d, .brw i o) = false) : retO W (d, .brw i o) = .no := by
  cases o <;> simp only [mv, decide_eq_false_iff_not, reduceCtorEq] at h <;> simp [retO, h]
theorem retO_mv {W : List Nat} {d : D} {i : Nat} {o : Ow} (h : mv W (d, .brw i o) = true) : retO W (d, .brw i o) = o ∧ cnt W i ≤ 1 ∧ (Fl.brw i o).al = [i] := by
  cases o <;> simp only [mv, decide_eq_true_eq, reduceCtorEq] at h <;> simp [retO, h, Fl.al]
theorem ResL.ret {L : Lk} {S S2 H H' H2 : Hp} {Fs : List (List Addr)} {X : List Addr} {W : List Nat} {rs0 : List R} (e : EB S Fs H) (h : Same H H') (h2 : Same H' H2) (hX : ∀ a ∈ X, H a = none) (dj : ∀ i j a, a ∈ Fs.getD i [] → a ∈ Fs.getD j [] → i = j)
    (hA : Same (grow S H H' X) S2) (hB : ∀ r ∈ rs0, mv W r = false → ∀ i ∈ r.2.al, ∀ a ∈ Fs.getD i [], ∀ u, H a = some u → S2 a = some u) :
    ∀ {vs : List V} {rs : List R} {G : List Addr}, ResL L S Fs H H' X vs rs G → (∀ r ∈ rs, r ∈ rs0) → (∀ i, cnt (als rs) i ≤ cnt W i) → (∀ a ∈ G, a ∈ X) → G.Nodup →
      ∃ F, RepOs L S2 H2 vs (rs.map (·.1)) (rs.map (retO W)) F ∧ F.Nodup ∧ ∀ a ∈ F, a ∈ G ∨ ∃ r ∈ rs, mv W r = true ∧ ∃ i ∈ r.2.al, a ∈ Fs.getD i []
  | _, _, _, .nil, _, _, _, _ => ⟨[], .nil, List.nodup_nil, by simp⟩
  | _, _, _, @ResL.own _ _ _ _ _ _ v vs d o is rs F F2 q t, hm, hc, hG, hn => by
    obtain ⟨n1, n2, n3⟩ := List.nodup_append.mp hn
    obtain ⟨F3, r3, n4, m3⟩ := ResL.ret e h h2 hX dj hA hB t (fun r hr => hm r (List.mem_cons_of_mem _ hr)) (fun i => by have := hc i; rw [als_cons, cnt_app] at this; omega) (fun a ha => hG a (List.mem_append_right _ ha)) n2
    refine ⟨F ++ F3, .cons (q.mono (fun a u z => ?_) (keepF q.dom h2)) r3, List.nodup_append.mpr ⟨n1, n4, fun a ha b hb => ?_⟩, fun a ha => ?_⟩
    · obtain ⟨hx, z⟩ := grow_some z
      rcases z with ⟨z1, z2⟩ | ⟨⟨t, z1⟩, z2⟩
      · exact hA _ _ (by rw [grow_new hx z1]; exact z2)
      · by_cases hw : a ∈ fsOf Fs is
        · obtain ⟨i, hi, hi2⟩ := mem_fsOf.mp hw
          rw [vis_in hw] at z2
          exact hB (d, .own o is) (hm _ (by simp)) rfl i hi a hi2 u z2
        · rw [vis_out hw] at z2
          exact hA _ _ (by rw [grow_old hx z1]; exact z2)
    · rintro rfl
      rcases m3 a hb with z | ⟨r, _, _, i, _, z⟩
      · exact n3 a ha a z rfl
      · obtain ⟨u, z⟩ := e.own a (mem_getD z)
        rw [hX a (hG a (List.mem_append_left _ ha))] at z
        cases z
    · rcases List.mem_append.mp ha with ha | ha
      · exact .inl (List.mem_append_left _ ha)
      · rcases m3 a ha with z | ⟨r, hr, z⟩
        · exact .inl (List.mem_append_right _ z)
        · exact .inr ⟨r, List.mem_cons_of_mem _ hr, z⟩
  | _, _, _, @ResL.brw _ _ _ _ _ _ v vs d o i rs F F2 n f q t, hm, hc, hG, hn => by
    obtain ⟨F3, r3, n4, m3⟩ := ResL.ret e h h2 hX dj hA hB t (fun r hr => hm r (List.mem_cons_of_mem _ hr)) (fun i => by have := hc i; rw [als_cons, cnt_app] at this; omega) hG hn
    cases hv : mv W (d, .brw i o) with
    | true =>
      obtain ⟨e1, e2, e3⟩ := retO_mv hv
      refine ⟨F ++ F3, .cons (o := retO W (d, .brw i o)) (by rw [e1]; exact q.mono hA (keepF q.dom h2)) r3, List.nodup_append.mpr ⟨n, n4, fun a ha b hb => ?_⟩, fun a ha => ?_⟩
      · rintro rfl
        rcases m3 a hb with z | ⟨r, hr, _, j, hj, z⟩
        · obtain ⟨u, z1⟩ := e.own a (mem_getD (f a ha))
          rw [hX a (hG a z)] at z1
          cases z1
        · have := dj i j a (f a ha) z
          subst this
          have h1 := hc i
          rw [als_cons, cnt_app, e3] at h1
          have h2 := cnt_mem (mem_als hr hj)
          have h3 : 1 ≤ cnt [i] i := cnt_mem (by simp)
          omega
      · rcases List.mem_append.mp ha with ha | ha
        · exact .inr ⟨_, by simp, hv, i, by rw [e3]; simp, f a ha⟩
        · rcases m3 a ha with z | ⟨r, hr, z⟩
          · exact .inl z
          · exact .inr ⟨r, List.mem_cons_of_mem _ hr, z⟩
    | false =>
      refine ⟨F3, .cons (F1 := []) (o := retO W (d, .brw i o)) ?_ r3, n4, fun a ha => ?_⟩
      · rw [retO_not hv]
        refine .no (q.drop hA fun a ha => ?_)
        obtain ⟨u, hu⟩ := e.own a (mem_getD (f a ha))
        rw [h _ _ hu]
        refine hB _ (hm _ (by simp)) hv i ?_ a (f a ha) u hu
        cases o with
        | no => rw [q.noF] at ha; simp at ha
        | _ => simp [Fl.al]
      · rcases m3 a ha with z | ⟨r, hr, z⟩
        · exact .inl z
        · exact .inr ⟨r, List.mem_cons_of_mem _ hr, z⟩
theorem Sta.backT {L : Lk} {p : Pm} {S H H' : Hp} {Fs : List (List Addr)} {σ : L2.St} {env : Env} {vs : List V} {rs : List R} {X : List Addr} {a : Addr} (Y : Sta L p S Fs H σ env) (h : Same H H') (hn : X.Nodup) (hX : ∀ a ∈ X, H a = none) (r : ResL L S Fs H H' X vs rs X) (na : H' a = none) :
    ∃ F, F.Nodup ∧ (∀ b ∈ F, p.H0 b = none) ∧ RepO L (grow p.S0 p.H0 (upd H' a (.tup vs)) F) (upd H' a (.tup vs)) (.ref a) (.tup (rs.map (·.1))) (.tp (retOs rs)) F := by
  have h2 : Same H' (upd H' a (.tup vs)) := same_new na
  let W := als rs
  let M : List Addr := X ++ fsOf Fs (((rs.filter (mv W)).map (·.2.al)).flatten)
  have hM : ∀ b ∈ M, b ∈ X ∨ ∃ r ∈ rs, mv W r = true ∧ ∃ i ∈ r.2.al, b ∈ Fs.getD i [] := fun b hb => by
    rcases List.mem_append.mp hb with hb | hb
    · exact .inl hb
    · obtain ⟨i, hi, hi2⟩ := mem_fsOf.mp hb
      obtain ⟨l, hl, hl2⟩ := List.mem_flatten.mp hi
      obtain ⟨r, hr, rfl⟩ := List.mem_map.mp hl
      obtain ⟨hr, hr2⟩ := List.mem_filter.mp hr
      exact .inr ⟨r, hr, hr2, i, hl2, hi2⟩
  have oldM : ∀ b u, H b = some u → b ∉ Fs.flatten → b ∉ M := fun b u hu hf hb => by
    rcases hM b hb with z | ⟨r, _, _, i, _, z⟩
    · rw [hX b z] at hu; cases hu
    · exact hf (mem_getD z)
  have hA : Same (grow S H H' X) (grow p.S0 p.H0 (upd H' a (.tup vs)) M) := fun b u z => by
    obtain ⟨hx, z⟩ := grow_some z
    rcases z with ⟨z1, z2⟩ | ⟨⟨t, z1⟩, z2⟩
    · have hb : b ∉ M := fun w => by
        rcases hM b w with w | ⟨r, _, _, i, _, w⟩
        · exact hx w
        · obtain ⟨t, q⟩ := Y.eb.own b (mem_getD w); rw [z1] at q; cases q
      rw [grow_new hb (Y.old.free z1)]
      exact h2 _ _ z2
    · obtain ⟨hf, z3⟩ := grow_some (Y.gr _ _ z2)
      have hb := oldM b t z1 hf
      rcases z3 with ⟨n1, e1⟩ | ⟨⟨t1, n1⟩, e1⟩
      · rw [grow_new hb n1]; exact h2 _ _ (h _ _ e1)
      · rw [grow_old hb n1]; exact e1
  obtain ⟨F, q, n, m⟩ := ResL.ret (S2 := grow p.S0 p.H0 (upd H' a (.tup vs)) M) (H2 := upd H' a (.tup vs)) (W := W) (rs0 := rs) Y.eb h h2 hX Y.dj hA (fun r hr hv i hi b hb u hu => by
    have hbM : b ∉ M := fun w => by
      rcases hM b w with w | ⟨r1, hr1, hv1, j, hj, w⟩
      · rw [hX b w] at hu; cases hu
      · have := Y.dj i j b hb w
        subst this
        have hne : r ≠ r1 := fun z => by rw [z, hv1] at hv; cases hv
        have h2 := cnt_two hr hr1 hne hi hj
        obtain ⟨d1, f1⟩ := r1
        cases f1 with
        | own o is => simp [mv] at hv1
        | brw k o =>
          obtain ⟨_, e2, e3⟩ := retO_mv hv1
          have hj : i ∈ (Fl.brw k o).al := hj
          rw [e3, List.mem_singleton] at hj
          subst hj
          have : cnt W i = cnt (als rs) i := rfl
          omega
    rw [grow_new hbM (Y.new b (mem_getD hb))]
    exact h2 _ _ (h _ _ hu)) r (fun _ z => z) (fun _ => Nat.le_refl _) (fun _ z => z) hn
  have hFM : ∀ b ∈ F, b ∈ M := fun b hb => by
    rcases m b hb with z | ⟨r, hr, hv, i, hi, z⟩
    · exact List.mem_append_left _ z
    · exact List.mem_append_right _ (mem_fsOf.mpr ⟨i, List.mem_flatten.mpr ⟨_, List.mem_map.mpr ⟨r, List.mem_filter.mpr ⟨hr, hv⟩, rfl⟩, hi⟩, z⟩)
  have hF0 : ∀ b ∈ F, p.H0 b = none := fun b hb => by
    rcases m b hb with z | ⟨r, hr, hv, i, hi, z⟩
    · exact Y.old.free (hX b z)
    · exact Y.new b (mem_getD z)
  refine ⟨F, n, hF0, .tp ?_ (q.mono (fun b u z => ?_) fun _ _ => rfl)⟩
  · have haF : a ∉ F := fun z => by
      rcases m a z with z | ⟨r, hr, hv, i, hi, z⟩
      · obtain ⟨t, q⟩ := r.dom a z
        rw [na] at q; cases q
      · obtain ⟨t, q⟩ := Y.eb.own a (mem_getD z)
        rw [h.free na] at q; cases q
    rw [grow_new haF (Y.old.free (h.free na)), upd_same]
  · obtain ⟨hx, z⟩ := grow_some z
    have hx : b ∉ F := fun w => hx (hFM b w)
    rcases z with ⟨z1, z2⟩ | ⟨⟨t, z1⟩, z2⟩
    · rw [grow_new hx z1]; exact z2
    · rw [grow_old hx z1]; exact z2
section
variable {X : Cx} {a b c e k : Expr} {es : List Expr} {body : List Stmt} {x : Str} {i : Nat} {pos pos' pos2 apos cpos : Pos} {cA : Nat → Addr} {cF : Nat → List Str} {fa fb fc fe fk : Env → Option R} {fs : Env → Option (List R)} {f g : Env → Option Out}
theorem ss_retT {kk : Nat} (h : PA X es (SA ⟨X.K, cA, cF⟩ fs)) (hl : ∀ env rs, fs env = some rs → rs.length ≤ 1000) : PS X (.Return (some (.Tuple es kk pos2)) pos) (SS ⟨X.K, cA, cF⟩ fun env => (fs env).bind fun rs => some (.rt (.tup (rs.map (·.1))) (.tp (retOs rs)))) :=
  PS.weak (ps_ret (pe_tup h)) fun D σ H ⟨p, S, Fs, env, o, Y, hf, q⟩ => by
    obtain ⟨rs, er, hf⟩ := Option.bind_eq_some_iff.mp hf
    cases hf
    refine ⟨S, Fs, env, rs, Y.eb, Y.en, er, fun vs H' F h1 n f r => ⟨?_, fun a na => ?_⟩⟩
    · have l1 := r.length
      have l2 := hl env rs er
      rw [sizeLine_eq]
      omega
    · obtain ⟨F2, n2, h2, r2⟩ := Y.backT h1 n f r na
      exact q _ _ F2 ((Y.old.trans h1).trans (same_new na)) n2 h2 r2

/-! ### loops -/
theorem ss_while (hp : PassesOwn (model X.prog X.w) X.A X.env X.xe) (hc : PT X c (ST ⟨X.K, cA, cF⟩ fc)) (hb : PSs X body (SS ⟨X.K, cA, cF⟩ f)) :
    PS X (.While c body [] pos) (SS ⟨X.K, cA, cF⟩ fun env => whileL (fun e => (fc e).bind blOf) f turns env) := by
  refine PS.weak (ps_while hp hc hb) fun D σ H ⟨p, S, Fs, env, o, Y, hf, q⟩ => ?_
  refine ⟨fun m σ H => ∃ S Fs env, Sta ⟨X.K, cA, cF⟩ p S Fs H σ env ∧ whileL (fun e => (fc e).bind blOf) f m env = some o, ⟨_, S, Fs, env, Y, hf⟩, ?_⟩
  rintro m σ H ⟨S, Fs, env, Y, hf⟩
  cases m with
  | zero => simp [whileL] at hf
  | succ m =>
    unfold whileL at hf
    obtain ⟨k, e1, hf⟩ := Option.bind_eq_some_iff.mp hf
    obtain ⟨⟨dx, fx⟩, e2, e1⟩ := Option.bind_eq_some_iff.mp e1
    cases dx <;> simp only [blOf, reduceCtorEq] at e1
    cases e1
    refine ⟨S, Fs, env, k, fx, Y.eb, Y.en, e2, fun H1 h1 => ?_⟩
    cases k with
    | false =>
      rw [if_neg Bool.false_ne_true] at hf ⊢
      cases hf
      exact q _ _ _ _ (Y.step h1)
    | true =>
      rw [if_pos rfl] at hf ⊢
      obtain ⟨o1, e3, hf⟩ := Option.bind_eq_some_iff.mp hf
      refine ⟨fun σ H => ∃ S Fs env, Sta ⟨X.K, cA, cF⟩ p S Fs H σ env ∧ whileL (fun e => (fc e).bind blOf) f m env = some o, fun σ' H' w => ⟨m, Nat.lt_succ_self m, w⟩, p, _, _, env, o1, Y.step h1, e3, ?_⟩
      cases o1 with
      | nx e4 => exact fun S Fs H σ Y => ⟨S, Fs, e4, Y, hf⟩
      | ct e4 => exact fun S Fs H σ Y => ⟨S, Fs, e4, Y, hf⟩
      | bk e4 => cases hf; exact q
      | rt d o => cases hf; exact q
end

/-! lent slots -/
theorem lock_len : ∀ {is : List Nat} {env : Env}, (env.lock is).1.length = env.length
  | [], _ => rfl
  | i :: is, env => by
    unfold Env.lock
    split
    · show (Env.lock _ is).1.length = _
      rw [lock_len, List.length_set]
    · rw [lock_len, List.length_set]
    · exact lock_len
theorem lock_sub {i : Nat} : ∀ {is : List Nat} {env : Env}, i ∈ (env.lock is).2 → i ∈ is
  | [], _, h => by simp [Env.lock] at h
  | j :: is, env, h => by
    unfold Env.lock at h
    split at h
    · rcases List.mem_cons.mp h with h | h
      · subst h; simp
      · exact List.mem_cons_of_mem _ (lock_sub h)
    · exact List.mem_cons_of_mem _ (lock_sub h)
    · exact List.mem_cons_of_mem _ (lock_sub h)
theorem lock_not {i : Nat} : ∀ {is : List Nat} {env : Env}, (∀ d, env[i]? ≠ some (some (d, .top))) → i ∉ (env.lock is).2
  | [], _, _, h => by simp [Env.lock] at h
  | j :: is, env, hn, h => by
    unfold Env.lock at h
    split at h
    · rename_i d e
      rcases List.mem_cons.mp h with h | h
      · subst h; exact hn d e
      · refine lock_not (fun d' z => ?_) h
        by_cases hj : j = i
        · subst hj
          rw [List.getElem?_set_self (List.getElem?_eq_some_iff.mp e).1] at z
          cases z
        · rw [List.getElem?_set_ne hj] at z; exact hn d' z
    · rename_i d os e
      refine lock_not (fun d' z => ?_) h
      by_cases hj : j = i
      · subst hj
        rw [List.getElem?_set_self (List.getElem?_eq_some_iff.mp e).1] at z
        cases z
      · rw [List.getElem?_set_ne hj] at z; exact hn d' z
    · exact lock_not hn h
theorem lock_get {i : Nat} {d : D} {o : Ow} : ∀ {is : List Nat} {env : Env}, (env.lock is).1[i]? = some (some (d, o)) → ∃ o', env[i]? = some (some (d, o')) ∧
    ((i ∉ is ∧ o = o') ∨ (o' = .top ∧ o = .lk ∧ i ∈ (env.lock is).2) ∨ (o' = .lk ∧ o = .lk) ∨ (o = .no ∧ (o' = .no ∨ ∃ os, o' = .tp os ∧ i ∈ is)))
  | [], env, h => ⟨o, h, .inl ⟨by simp, rfl⟩⟩
  | j :: is, env, h => by
    unfold Env.lock at h ⊢
    split at h
    · rename_i d' e
      have h : (Env.lock (env.set j (some (d', .lk))) is).1[i]? = some (some (d, o)) := h
      obtain ⟨o', h1, h2⟩ := lock_get h
      by_cases hj : j = i
      · subst hj
        rw [List.getElem?_set_self (List.getElem?_eq_some_iff.mp e).1] at h1
        cases h1
        refine ⟨.top, e, ?_⟩
        rcases h2 with ⟨_, h2⟩ | ⟨h2, _⟩ | ⟨_, h2⟩ | ⟨_, h2 | ⟨os, h2, _⟩⟩
        · exact .inr (.inl ⟨rfl, h2, by simp⟩)
        · cases h2
        · exact .inr (.inl ⟨rfl, h2, by simp⟩)
        · cases h2
        · cases h2
      · rw [List.getElem?_set_ne hj] at h1
        refine ⟨o', h1, ?_⟩
        rcases h2 with ⟨h2, h3⟩ | ⟨h2, h3, h4⟩ | h2 | ⟨h2, h3 | ⟨os, h3, h4⟩⟩
        · exact .inl ⟨fun z => (List.mem_cons.mp z).elim (fun z => hj z.symm) h2, h3⟩
        · exact .inr (.inl ⟨h2, h3, List.mem_cons_of_mem _ h4⟩)
        · exact .inr (.inr (.inl h2))
        · exact .inr (.inr (.inr ⟨h2, .inl h3⟩))
        · exact .inr (.inr (.inr ⟨h2, .inr ⟨os, h3, List.mem_cons_of_mem _ h4⟩⟩))
    · rename_i d' os e
      obtain ⟨o', h1, h2⟩ := lock_get h
      by_cases hj : j = i
      · subst hj
        rw [List.getElem?_set_self (List.getElem?_eq_some_iff.mp e).1] at h1
        cases h1
        refine ⟨.tp os, e, ?_⟩
        rcases h2 with ⟨_, h2⟩ | ⟨h2, _⟩ | ⟨h2, _⟩ | ⟨h2, _⟩
        · exact .inr (.inr (.inr ⟨h2, .inr ⟨os, rfl, by simp⟩⟩))
        · cases h2
        · cases h2
        · exact .inr (.inr (.inr ⟨h2, .inr ⟨os, rfl, by simp⟩⟩))
      · rw [List.getElem?_set_ne hj] at h1
        refine ⟨o', h1, ?_⟩
        rcases h2 with ⟨h2, h3⟩ | h2 | h2 | ⟨h2, h3 | ⟨os, h3, h4⟩⟩
        · exact .inl ⟨fun z => (List.mem_cons.mp z).elim (fun z => hj z.symm) h2, h3⟩
        · exact .inr (.inl h2)
        · exact .inr (.inr (.inl h2))
        · exact .inr (.inr (.inr ⟨h2, .inl h3⟩))
        · exact .inr (.inr (.inr ⟨h2, .inr ⟨os, h3, List.mem_cons_of_mem _ h4⟩⟩))
    · rename_i hn1 hn2
      obtain ⟨o', h1, h2⟩ := lock_get h
      refine ⟨o', h1, ?_⟩
      rcases h2 with ⟨h2, h3⟩ | h2 | h2 | ⟨h2, h3 | ⟨os, h3, h4⟩⟩
      · by_cases hj : j = i
        · subst hj
          cases o' with
          | no => exact .inr (.inr (.inr ⟨h3, .inl rfl⟩))
          | top => exact absurd h1 (hn1 d)
          | lk => exact .inr (.inr (.inl ⟨rfl, h3⟩))
          | tp os => exact absurd h1 (hn2 d os)
        · exact .inl ⟨fun z => (List.mem_cons.mp z).elim (fun z => hj z.symm) h2, h3⟩
      · exact .inr (.inl h2)
      · exact .inr (.inr (.inl h2))
      · exact .inr (.inr (.inr ⟨h2, .inl h3⟩))
      · exact .inr (.inr (.inr ⟨h2, .inr ⟨os, h3, List.mem_cons_of_mem _ h4⟩⟩))
theorem drp_some {i : Nat} {d : D} {o : Ow} : ∀ {is : List Nat} {env : Env}, env[i]? = some (some (d, o)) → ∃ o', (env.drp is)[i]? = some (some (d, o')) ∧ (i ∈ is ∨ o = .no → o' = .no) ∧ (i ∉ is → o' = o)
  | [], env, h => ⟨o, h, by simp, fun _ => rfl⟩
  | j :: is, env, h => by
    unfold Env.drp
    by_cases hj : j = i
    · subst hj
      rw [h]
      have hl : j < env.length := (List.getElem?_eq_some_iff.mp h).1
      obtain ⟨o', h1, h2, h3⟩ := drp_some (is := is) (env := env.set j (some (d, .no))) (List.getElem?_set_self hl)
      exact ⟨o', h1, fun _ => h2 (.inr rfl), fun z => absurd (List.mem_cons_self ..) z⟩
    · have hk : (match env[j]? with | some (some (d, _)) => env.set j (some (d, .no)) | _ => env)[i]? = some (some (d, o)) := by
        split
        · rw [List.getElem?_set_ne hj]; exact h
        · exact h
      obtain ⟨o', h1, h2, h3⟩ := drp_some (is := is) hk
      refine ⟨o', h1, fun z => h2 ?_, fun z => h3 fun w => z (List.mem_cons_of_mem _ w)⟩
      rcases z with z | z
      · rcases List.mem_cons.mp z with z | z
        · exact absurd z.symm hj
        · exact .inl z
      · exact .inr z
theorem unlock_len : ∀ {l : List Nat} {env : Env}, (env.unlock l).length = env.length
  | [], _ => rfl
  | i :: l, env => by
    unfold Env.unlock
    rw [unlock_len]
    split
    · rw [List.length_set]
    · rfl
theorem unlock_get {i : Nat} {d : D} {o : Ow} : ∀ {l : List Nat} {env : Env}, (env.unlock l)[i]? = some (some (d, o)) → ∃ o', env[i]? = some (some (d, o')) ∧ ((o = o' ∧ (o' = .lk → i ∉ l)) ∨ (o' = .lk ∧ o = .top ∧ i ∈ l))
  | [], env, h => ⟨o, h, .inl ⟨rfl, fun _ => by simp⟩⟩
  | j :: l, env, h => by
    unfold Env.unlock at h
    obtain ⟨o', h1, h2⟩ := unlock_get h
    split at h1
    · rename_i d' e
      by_cases hj : j = i
      · subst hj
        rw [List.getElem?_set_self (List.getElem?_eq_some_iff.mp e).1] at h1
        cases h1
        refine ⟨.lk, e, .inr ⟨rfl, ?_, by simp⟩⟩
        rcases h2 with ⟨h2, _⟩ | ⟨h2, _⟩
        · exact h2
        · cases h2
      · rw [List.getElem?_set_ne hj] at h1
        refine ⟨o', h1, ?_⟩
        rcases h2 with ⟨h2, h3⟩ | ⟨h2, h3, h4⟩
        · exact .inl ⟨h2, fun z w => (List.mem_cons.mp w).elim (fun w => hj w.symm) (h3 z)⟩
        · exact .inr ⟨h2, h3, List.mem_cons_of_mem _ h4⟩
    · rename_i hn
      refine ⟨o', h1, ?_⟩
      rcases h2 with ⟨h2, h3⟩ | ⟨h2, h3, h4⟩
      · refine .inl ⟨h2, fun z w => ?_⟩
        subst z
        rcases List.mem_cons.mp w with w | w
        · subst w; exact hn d h1
        · exact h3 rfl w
      · exact .inr ⟨h2, h3, List.mem_cons_of_mem _ h4⟩
theorem RepO.toLk {L : Lk} {S H : Hp} {v : V} {d : D} {F : List Addr} (r : RepO L S H v d .top F) : RepO L S H v d .lk F := by
  cases r with
  | lst _ h1 h2 => exact .lst (.inr rfl) h1 h2
  | dK _ h1 h2 h3 => exact .dK (.inr rfl) h1 h2 h3
  | dT _ h1 h2 h3 => exact .dT (.inr rfl) h1 h2 h3
theorem RepO.ofLk {L : Lk} {S H : Hp} {v : V} {d : D} {F : List Addr} (r : RepO L S H v d .lk F) : RepO L S H v d .top F := by
  cases r with
  | lst _ h1 h2 => exact .lst (.inl rfl) h1 h2
  | dK _ h1 h2 h3 => exact .dK (.inl rfl) h1 h2 h3
  | dT _ h1 h2 h3 => exact .dT (.inl rfl) h1 h2 h3
end Ix
set_option Elab.async false
set_option linter.all false
set_option maxRecDepth 100000
set_option maxHeartbeats 2000000
namespace Ix
open PySem PySem.Spec PyProof.Rows L2

theorem Sta.lent {L : Lk} {p : Pm} {S H H' Z1 : Hp} {Fs : List (List Addr)} {σ : L2.St} {env : Env} (Y : Sta L p S Fs H σ env) (h : Same H H') (el al : List Nat) (hZ : Same Z1 (grow (vis S H (fsOf Fs al)) H H' [])) :
    ∃ p' S' Fs', p'.S0 = p.S0 ∧ p'.H0 = p.H0 ∧ Same (grow (vis S H (fsOf Fs el)) H H' []) p'.B ∧ Same Z1 p'.Z ∧ Sta L p' S' Fs' H' σ ((env.drp el).lock al).1 ∧
      ∀ S Fs H σ e, Sta L p' S Fs H σ e → Sta L p S Fs H σ (e.unlock ((env.drp el).lock al).2) := by
  have Y1 := Y.settle (X := []) h el (by simp)
  generalize hS1 : grow (vis S H (fsOf Fs el)) H H' [] = S1 at Y1
  generalize he1 : env.drp el = e1 at Y1
  let tps := al.filter fun i => match e1[i]? with | some (some (_, .tp _)) => true | _ => false
  have htps : ∀ i, i ∈ tps → i ∈ al ∧ ∃ d os, e1[i]? = some (some (d, .tp os)) := fun i hi => by
    obtain ⟨h1, h2⟩ := List.mem_filter.mp hi
    refine ⟨h1, ?_⟩
    split at h2
    · rename_i d os e; exact ⟨d, os, e⟩
    · cases h2
  have Y2 := Y1.settle (X := []) (Same.refl H') tps (by simp)
  have sS2 : Same S1 (grow (vis S1 H' (fsOf (clrF Fs el) tps)) H' H' []) := fun a u e => by
    rw [grow_old (by simp) (Y1.eb.sub _ _ e)]
    exact vis_ge Y1.eb.sub _ _ e
  generalize hS2 : grow (vis S1 H' (fsOf (clrF Fs el) tps)) H' H' [] = S2 at Y2 sS2
  generalize hF2 : clrF (clrF Fs el) tps = Fs2 at Y2
  have hle : ∀ i a, a ∈ Fs2.getD i [] → a ∈ Fs.getD i [] := fun i a ha => by rw [← hF2] at ha; exact clrF_le (clrF_le ha)
  let Z' : Hp := fun a => match p.Z a with | some o => some o | none => Z1 a
  let P' : Nat → Addr → Prop := fun i a => if i ∈ (e1.lock al).2 then p.Z a = none else p.P i a ∨ p.Z a = none
  have hZ1H : Same Z1 H' := fun a o z => grow_sub Y.eb.vsub h _ _ (hZ _ _ z)
  have hZa : ∀ {a}, p.Z a = none → Z' a = Z1 a := fun {a} q => by show (match p.Z a with | some o => some o | none => Z1 a) = _; rw [q]
  have hZa' : ∀ {a}, Z' a = none → p.Z a = none := fun {a} q => by
    cases e : p.Z a with
    | none => rfl
    | some o => have q : (match p.Z a with | some o => some o | none => Z1 a) = none := q; rw [e] at q; cases q
  -- an entry of the lent slots, and what stood there
  have ent : ∀ i d o, (e1.lock al).1[i]? = some (some (d, o)) → ∃ o2, (e1.drp tps)[i]? = some (some (d, o2)) ∧ ((i ∉ al ∧ o = o2) ∨ (o2 = .top ∧ o = .lk ∧ i ∈ (e1.lock al).2) ∨ (o2 = .lk ∧ o = .lk ∧ i ∉ (e1.lock al).2) ∨ (o = .no ∧ o2 = .no)) := fun i d o e => by
    obtain ⟨o1, h1, h2⟩ := lock_get e
    obtain ⟨o2, h3, h4, h5⟩ := drp_some (is := tps) h1
    refine ⟨o2, h3, ?_⟩
    have ntp : (∀ os, o1 ≠ .tp os) → o2 = o1 := fun k => h5 fun z => by
      obtain ⟨_, d', os, w⟩ := htps i z
      rw [h1] at w
      cases w
      exact k os rfl
    rcases h2 with ⟨h2, h6⟩ | ⟨h2, h6, h7⟩ | ⟨h2, h6⟩ | ⟨h2, h6 | ⟨os, h6, h7⟩⟩
    · exact .inl ⟨h2, h6.trans (h5 fun z => h2 (htps i z).1).symm⟩
    · exact .inr (.inl ⟨(ntp (by rw [h2]; simp)).trans h2, h6, h7⟩)
    · exact .inr (.inr (.inl ⟨(ntp (by rw [h2]; simp)).trans h2, h6, lock_not fun d' z => by rw [h1, h2] at z; cases z⟩))
    · exact .inr (.inr (.inr ⟨h2, h4 (.inr h6)⟩))
    · refine .inr (.inr (.inr ⟨h2, h4 (.inl (List.mem_filter.mpr ⟨h7, ?_⟩))⟩))
      rw [h1, h6]
  refine ⟨⟨p.S0, p.H0, Z', S1, P'⟩, S2, Fs2, rfl, rfl, Same.refl _, fun a o z => ?_, ⟨Y2.eb, ⟨?_, fun i d o e => ?_⟩, Y2.old, Y2.gr, sS2, Y2.dj, Y2.new, fun a o z => ?_, fun i d o e a ha => ?_, ?_⟩, fun S Fs H σ e W => ⟨W.eb, ⟨?_, fun i d o e1' => ?_⟩, W.old, W.gr, ?_, W.dj, W.new, fun a o z => ?_, fun i d o e1' a ha => ?_, ?_⟩⟩
  · cases e : p.Z a with
    | none => exact (hZa e).trans z
    | some u =>
      have e1 := Y.z _ _ e
      have e2 := hZ1H _ _ z
      rw [h _ _ e1] at e2
      show (match p.Z a with | some o => some o | none => Z1 a) = some o
      rw [e]
      exact e2
  · rw [lock_len, ← drp_len (is := tps)]; exact Y2.en.1
  · obtain ⟨o2, h1, h2⟩ := ent i d o e
    obtain ⟨v, hv, hn, hr⟩ := Y2.en.2 i d o2 h1
    refine ⟨v, hv, hn, ?_⟩
    rcases h2 with ⟨_, rfl⟩ | ⟨rfl, rfl, _⟩ | ⟨rfl, rfl, _⟩ | ⟨rfl, rfl⟩
    · exact hr
    · exact hr.toLk
    · exact hr
    · exact hr
  · have z : (match p.Z a with | some o => some o | none => Z1 a) = some o := z
    cases e : p.Z a with
    | none => rw [e] at z; exact hZ1H _ _ z
    | some u => rw [e] at z; cases z; exact Y2.z _ _ e
  · obtain ⟨o2, h1, h2⟩ := ent i d o e
    have h3 := Y2.lk i d o2 h1 a ha
    rcases h2 with ⟨hi, rfl⟩ | ⟨rfl, rfl, hi⟩ | ⟨rfl, rfl, hi⟩ | ⟨rfl, rfl⟩
    · rcases h3 with h3 | ⟨rfl, h3⟩
      · refine .inl ?_
        show Z' a = none
        rw [hZa h3]
        cases e4 : Z1 a with
        | none => rfl
        | some u =>
          obtain ⟨_, e5⟩ := grow_some (hZ _ _ e4)
          have haF := mem_getD (hle i a ha)
          rcases e5 with ⟨e5, _⟩ | ⟨_, e5⟩
          · obtain ⟨t, q⟩ := Y.eb.own a haF
            rw [e5] at q; cases q
          · by_cases hw : a ∈ fsOf Fs al
            · obtain ⟨j, hj, hj2⟩ := mem_fsOf.mp hw
              exact absurd (by rw [Y.dj i j a (hle i a ha) hj2]; exact hj) hi
            · rw [vis_out hw, Y.flat haF] at e5
              cases e5
      · exact .inr ⟨rfl, by show (if i ∈ (e1.lock al).2 then p.Z a = none else p.P i a ∨ p.Z a = none); rw [if_neg fun z => hi (lock_sub z)]; exact .inl h3⟩
    · rcases h3 with h3 | ⟨h3, _⟩
      · exact .inr ⟨rfl, by show (if i ∈ (e1.lock al).2 then p.Z a = none else p.P i a ∨ p.Z a = none); rw [if_pos hi]; exact h3⟩
      · cases h3
    · refine .inr ⟨rfl, ?_⟩
      show (if i ∈ (e1.lock al).2 then p.Z a = none else p.P i a ∨ p.Z a = none)
      rw [if_neg hi]
      rcases h3 with h3 | ⟨_, h3⟩
      · exact .inr h3
      · exact .inl h3
    · obtain ⟨v, hv, hn, hr⟩ := Y2.en.2 i d .no h1
      rw [hr.noF] at ha
      simp at ha
  · rw [lock_len, ← drp_len (is := tps)]; exact Y2.len
  · rw [unlock_len]; exact W.en.1
  · obtain ⟨o', h1, h2⟩ := unlock_get e1'
    obtain ⟨v, hv, hn, hr⟩ := W.en.2 i d o' h1
    refine ⟨v, hv, hn, ?_⟩
    rcases h2 with ⟨rfl, _⟩ | ⟨rfl, rfl, _⟩
    · exact hr
    · exact hr.ofLk
  · refine Same.trans ?_ W.bs
    exact fun a u z => Y1.bs _ _ z
  · refine W.z _ _ ?_
    show (match p.Z a with | some o => some o | none => Z1 a) = some o
    rw [z]
  · obtain ⟨o', h1, h2⟩ := unlock_get e1'
    have h3 := W.lk i d o' h1 a ha
    rcases h3 with h3 | ⟨rfl, h3⟩
    · exact .inl (hZa' h3)
    · have h3 : (if i ∈ (e1.lock al).2 then p.Z a = none else p.P i a ∨ p.Z a = none) := h3
      rcases h2 with ⟨h2, h4⟩ | ⟨_, _, h4⟩
      · subst h2
        rw [if_neg (h4 rfl)] at h3
        rcases h3 with h3 | h3
        · exact .inr ⟨rfl, h3⟩
        · exact .inl h3
      · rw [if_pos h4] at h3
        exact .inl h3
  · rw [unlock_len]; exact W.len

theorem OutOk.un {L : Lk} {p p' : Pm} {D : Ends} {N : L2.St → Hp → Prop} {d : Ix.D} {o : Ow} (h0 : p'.H0 = p.H0) (h1 : p'.S0 = p.S0) (q : OutOk L p D (.rt d o)) : OutOk L p' { D with nx := N, ct := N, bk := D.nx } (.rt d o) := by
  intro v H F
  rw [h0, h1]
  exact q v H F
section
variable {X : Cx} {a b c e k tgE : Expr} {es : List Expr} {body : List Stmt} {x : Str} {i : Nat} {pos pos' pos2 apos cpos : Pos} {cA : Nat → Addr} {cF : Nat → List Str} {fi : Env → Option Its} {f g : Env → Option Out} {tg : Tg}
theorem ss_for (hp : PassesOwn (model X.prog X.w) X.A X.env X.xe) (hc : X.calm = true) (hi : PI X tgE e (SI ⟨X.K, cA, cF⟩ fi)) (hg : PG X tgE (gT X.K tg)) (hb : PSs X body (SS ⟨X.K, cA, cF⟩ f)) (hs : ∀ x, foldedSetIterable e X.env x = pure x) :
    PS X (.For tgE e body [] pos) (SS ⟨X.K, cA, cF⟩ fun env => (fi env).bind fun p => (forL (fun _ e => f e) tg p.1 ((env.drp p.2.1).lock p.2.2).1).map fun o => o.unlock ((env.drp p.2.1).lock p.2.2).2) := by
  refine PS.weak (ps_for hp hc hi hg hb hs) fun D σ H ⟨p, S, Fs, env, o, Y, hf, q⟩ => ?_
  obtain ⟨⟨ds, el, al⟩, ei, hf⟩ := Option.bind_eq_some_iff.mp hf
  obtain ⟨o1, eo, rfl⟩ := Option.map_eq_some_iff.mp hf
  refine ⟨S, Fs, env, (ds, el, al), Y.eb, Y.en, ei, fun J H1 h1 ⟨Z, hZ, turn⟩ => ?_⟩
  obtain ⟨p', S1, Fs1, hS0, hH0, hB, hZp, Y1, back⟩ := Y.lent h1 el al hZ
  simp only at eo q
  refine ⟨fun i m σ H => m = ds.length - i ∧ i ≤ ds.length ∧ ∃ S Fs env, Sta ⟨X.K, cA, cF⟩ p' S Fs H σ env ∧ forL (fun _ e => f e) tg (ds.drop i) env = some o1, ⟨ds.length, rfl, Nat.zero_le _, S1, Fs1, _, Y1, eo⟩, ?_⟩
  rintro i m σ2 H2 ⟨rfl, hi, S2, Fs2, env2, Y2, eo2⟩
  obtain ⟨stop, go⟩ := turn i H2 fun b o z => Y2.z _ _ (hZp _ _ z)
  by_cases hlt : i < ds.length
  · obtain ⟨hgo, hy⟩ := go _ (List.getElem?_eq_getElem hlt)
    rw [List.drop_eq_getElem_cons hlt] at eo2
    unfold forL at eo2
    obtain ⟨env3, eb, eo2⟩ := Option.bind_eq_some_iff.mp eo2
    obtain ⟨ob, ef, eo2⟩ := Option.bind_eq_some_iff.mp eo2
    refine .inr ⟨hgo, fun σ H => ∃ S Fs env, Sta ⟨X.K, cA, cF⟩ p' S Fs H σ env ∧ forL (fun _ e => f e) tg (ds.drop (i + 1)) env = some o1, fun σ' H' w => ⟨ds.length - (i + 1), by omega, rfl, hlt, w⟩, fun x H3 hyx => ?_⟩
    obtain ⟨k1, k2⟩ := hy x H3 hyx
    have Y3 := Y2.step k1
    refine Sta.bindT (L := ⟨X.K, cA, cF⟩) Y3 (k2 S2 (hB.trans Y2.bs) Y2.eb.sub) eb fun Fs4 σ4 Y4 => ?_
    refine ⟨p', _, Fs4, env3, ob, Y4, ef, ?_⟩
    cases ob with
    | nx e4 => exact fun S Fs H σ Y => ⟨S, Fs, e4, Y, eo2⟩
    | ct e4 => exact fun S Fs H σ Y => ⟨S, Fs, e4, Y, eo2⟩
    | bk e4 => cases eo2; exact fun S Fs H σ Y => q _ _ _ _ (back _ _ _ _ _ Y)
    | rt d o => cases eo2; exact OutOk.un hH0 hS0 q
  · have e : i = ds.length := by omega
    subst e
    rw [List.drop_length] at eo2
    unfold forL at eo2
    cases eo2
    exact .inl ⟨stop (Nat.le_refl _), q _ _ _ _ (back _ _ _ _ _ Y2)⟩
end
end Ix
set_option Elab.async false
set_option linter.all false
set_option maxRecDepth 100000
set_option maxHeartbeats 2000000
namespace Ix
open PySem PySem.Spec PyProof.Rows L2

/-! ### sorted by a key function that is an item -/
/-- def f(x): return x[j] -/
def KFn (K : PySem.W.Frag) (f : Addr) (j : Nat) : Prop := ∃ (name qual y : Str) (params : Arguments) (scope : Scope) (oc kV doc pm cdv ct : Value) (od an : Option Addr) (osl : Array (Option Value)) (jj : Nat) (p1 p2 p3 p4 : Pos),
    K.lookup f = some ⟨oc, od, .func (PySem.W.fnOf name qual params [.Return (some (.Subscript (.Name y p1) (.Constant (.int (j : Int)) jj p2) p3)) p4] scope .none kV doc pm an cdv ct), osl⟩ ∧ PySem.W.codeIn K cdv qual = true ∧
    scope.kind = .function ∧ scope.isCoroutine = false ∧ scope.isGenerator = false ∧ scope.names.lookup y = some .local ∧ (y == ("__debug__" : Str)) = false ∧
    ∀ u : Value, bindArgs (PySem.W.fnOf name qual params [.Return (some (.Subscript (.Name y p1) (.Constant (.int (j : Int)) jj p2) p3)) p4] scope .none kV doc pm an cdv ct) ⟨[u], []⟩ = pure [(y, u)]
theorem key_run {P : Program} {w : World} {K : PySem.W.Frag} {A : Around} {E : Value → Shared → Prop} {s : Shared} {f a : Addr} {j : Nat} {n : Int} {t : Tok} {its : List Value} (F : KFn K f j) (hK : K.In s.heap) (hlim : s.heap.NoLimit) (hdp : A.depth < recursionLimit)
    (ht : IsTup s.heap a its.toArray) (hl : its.length ≤ sizeLine) (hj : its[j]? = some (.int n t)) : wpAny (model P w) A (call (.ref f) [.ref a]) (PySem.W.KeyPure (.int n) s) E s := by
  obtain ⟨name, qual, y, params, scope, oc, kV, doc, pm, cdv, ct, od, an, osl, jj, p1, p2, p3, p4, lk, hcd, h1, h2, h3, h4, h5, hb⟩ := F
  refine wpAny_call (codeAny_call_function hdp (hK _ _ lk) rfl h2 h3 rfl (PySem.W.codeRec_of hK hcd) ?_)
  show wpAny _ _ (bindArgs (PySem.W.fnOf name qual params [.Return (some (.Subscript (.Name y p1) (.Constant (.int (j : Int)) jj p2) p3)) p4] scope .none kV doc pm an cdv ct) ⟨[.ref a], []⟩) _ _ _
  rw [hb]
  refine wpAny_pure ?_
  refine wpAny_newFunctionEnv_cells h1 (fun x hx => by rw [List.mem_singleton] at hx; subst hx; exact .inl h4) fun env he s1 x => ?_
  obtain ⟨hn, tk, rfl, keep⟩ := x.done
  refine ⟨hlim.keeps keep, codeAny_func (wpAny_execs_cons (wpAny_Return_some (Subscript_ ?_)))⟩
  subst he
  have ns := x.toInCall.ns
  have hk : (newEnv scope s.heap.objs.size mainGlobals (cellsFrom (s.heap.objs.size + 1) scope.names []) (qual ++ ".<locals>.") (some f) cdv none builtinsNs).kindOf y = some .local := h4
  have hm : bindL (newEnv scope s.heap.objs.size mainGlobals (cellsFrom (s.heap.objs.size + 1) scope.names []) (qual ++ ".<locals>.") (some f) cdv none builtinsNs).kindOf [(y, .ref a)] (fun _ => none) y = some (.ref a) := by
    unfold bindL
    simp [bindL, hk]
  refine wpAny_Name (wpAny_loadName_local h1 hk ns hm ?_) h5
  refine wpAny_Constant_int ?_
  have hjl : j < its.length := (List.getElem?_eq_some_iff.mp hj).1
  have hsl := sizeLine_eq
  have ht2 : IsTup hn a its.toArray := by
    obtain ⟨o, ho, q⟩ := ht
    exact ⟨o, keep _ _ ho, q⟩
  refine subscriptTail_builtinR (x := .int n t) ht2.typeIs slot_tuple_getitem.lookup (getItem_tuple (j := j) ht2 (by omega) (by omega) ?_ (by simpa using hj) ⟨rfl, ?_⟩)
  · unfold seqIndex?
    rw [List.size_toArray]
    simp
    omega
  · exact ⟨hn, _, rfl, keep, .int _ _⟩

def rSrk (L : Lk) (f : Addr) (j : Nat) : List V → List V → Hp → VK → Prop := fun vs zs H Q => ∃ a ws ds S, vs = [.ref a] ∧ zs = [.ref f, .bl true] ∧ H a = some (.lst ws) ∧ Same S H ∧ RepL L S ws ds ∧ (ds.all fun d => (keyOf j d).isSome) = true ∧ ds.length ≤ szb ∧
  ∀ p us, H p = none → RepL L S us (sortK j ds) → Q (.ref p) (upd H p (.lst us))
theorem cr_srk {X : Cx} {cA : Nat → Addr} {cF : Nat → List Str} {f : Addr} {j : Nat} (F : KFn X.K f j) (hr : Room 2 X.A) : CallRK X (.builtin "sorted") [Str.ofString "key", Str.ofString "reverse"] (rSrk ⟨X.K, cA, cF⟩ f j) := by
  intro pins s σ H vs zs us ws' Q I r rz h
  obtain ⟨a, ws, ds, S, rfl, rfl, ha, hS, rl, hk, hz, q⟩ := h
  obtain ⟨its, rv, hl, _⟩ := I.list (SqL.of ha)
  obtain rfl := Vals.ref1 r
  obtain ⟨w1, w2, rfl, e1, e2⟩ := vals2 rz
  obtain rfl : w1 = Value.ref f := e1
  obtain rfl : w2 = Value.bool true := e2
  have hs := szb_line
  have hun := hr.un
  refine PySem.W.sorted_key_data (b := true) (k := fun d => .int ((keyOf j d).getD 0)) hl.isList (each_of rv rl) ?_ ?_ (by omega) ?_ (PyProof.Rows.ksk_s2 _ _ _) (fun _ => PyProof.Rows.ksk_l2 _ _ _) (fun x => PyProof.Rows.ksk_t2 f x true) ?_ fun out c h' tk keep fresh hD ho eo => ?_
  · intro d hd d' hd'
    obtain ⟨x, _, rfl⟩ := List.mem_map.mp hd
    obtain ⟨y, _, rfl⟩ := List.mem_map.mp hd'
    rfl
  · refine .inr fun d hd => ?_
    obtain ⟨x, _, rfl⟩ := List.mem_map.mp hd
    exact ⟨by simp, by simp⟩
  · intro x _
    show X.A.units + 2 + PyData.depth (.int _) < cLine
    have : PyData.depth (.int ((keyOf j x).getD 0)) ≤ 1 := by simp [PyData.depth]
    omega
  · intro v x hR hx h tk keep
    obtain ⟨u, ru, rx⟩ := hR
    have hkx := List.all_eq_true.mp hk x hx
    obtain ⟨n, hn⟩ := Option.isSome_iff_exists.mp hkx
    unfold keyOf at hn
    split at hn
    · rename_i es
      split at hn
      · rename_i m em
        cases hn
        cases rx with
        | @tup a0 _ _ t1 t2 =>
          cases ru
          obtain ⟨us2, rv2, ht, hz2⟩ := I.tuple (SqT.of (hS _ _ t1))
          obtain ⟨w, ew, rw'⟩ := t2.get em
          have ev := intV rw'
          subst ev
          obtain ⟨u3, e3, t3⟩ := rv2.get ew
          obtain ⟨tt, rfl⟩ := t3
          have hkk : (keyOf j (.tup es)).getD 0 = n := by simp [keyOf, em]
          rw [hkk]
          have hl2 := rv2.length
          have ht2 : IsTup h a0 us2.toArray := by
            obtain ⟨o, ho, q⟩ := ht
            exact ⟨o, keep _ _ ho, q⟩
          exact key_run (s := { s with heap := h, toks := tk }) F (I.kIn.keeps keep) (I.nolimit.keeps keep) (Room.depth (hr.in1).in1) ht2 (by omega) e3
      · cases hn
    · cases hn
  · obtain ⟨vs2, hv, hr2⟩ := of_each eo
    have hlen : vs2.length ≤ sizeLine := by rw [hv.length, ho]; omega
    exact ⟨.ref (s.heap.objs.size + 1), upd H (s.heap.objs.size + 1) (.lst vs2), I.laid (t' := tk) keep (Nat.le_succ _) ⟨hlen, out, c, hv, hD⟩, rfl, q _ vs2 (I.hok.fresh (Nat.le_succ _)) hr2⟩
section
variable {X : Cx} {a b c e o : Expr} {es : List Expr} {p pos apos : Pos} {cA : Nat → Addr} {cF : Nat → List Str} {fa fb fc : Env → Option R}
theorem se_srk {kx : Str} {f : Addr} {j jj : Nat} {kp kpos kpos2 cp : Pos} (F : KFn X.K f j) (hr : Room 2 X.A) {x : Str} (hx : x = "sorted") (hg : Gl X x) (hm : X.mg x = none) (hgk : Gl X kx) (hmk : X.mg kx = some (.ref f)) (hdk : (kx == ("__debug__" : Str)) = false) (ho : okE a = true) (ha : PE X a (SE ⟨X.K, cA, cF⟩ fa)) :
    PE X (.Call (.Name x p) [a] [⟨some "key", .Name kx kp, kpos⟩, ⟨some "reverse", .Constant (.bool true) jj cp, kpos2⟩] pos) (SE ⟨X.K, cA, cF⟩ fun env => (fa env).bind fun x => srkop j x) := by
  subst hx
  refine PE.weak (pe_callBK (cr_srk (cA := cA) (cF := cF) F hr) hg hm (by decide +kernel) (pa_cons ha pa_nil (star_cons ho)) (pk_cons (pe_glob (v := .ref f) hgk hmk rfl hdk) (pk_cons pe_bl pk_nil)) (by decide) (by decide) (by rw [star_cons ho]; rfl) (by rw [star_cons ho]; rfl) rfl rfl rfl) fun σ H Q ⟨S, Fs, env, z, hE, hR, hf, q⟩ => ?_
  obtain ⟨x, ea, hf⟩ := Option.bind_eq_some_iff.mp hf
  refine SE.one hE hR ea fun v H' h r => ?_
  obtain ⟨d, fx⟩ := x
  cases d <;> simp only [srkop, reduceCtorEq] at hf
  rename_i ds
  split at hf
  · rename_i hc
    cases hf
    obtain ⟨p1, vs, rfl, h1, k1⟩ := r.items hE h
    exact ⟨p1, vs, ds, _, rfl, rfl, h1, grow_sub hE.vsub h, k1, hc.1, hc.2, fun p us np hr => q _ _ (h.trans (same_new np)) (Res.newL hE h np hr)⟩
  · cases hf

/-! ### count -/
def rCouD (K : PySem.W.Frag) : V → List V → Hp → VK → Prop := fun x xs H Q => ∃ (a : Addr) (y : V) (d : PyData) (ds : List PyData), x = V.ref a ∧ xs = [y] ∧ Dp K H (V.ref a) (.list ds) ∧ Dp K H y d ∧
  SeqAt.shaped (.list ds) = true ∧ SeqAt.shaped d = true ∧ Q (.int ((ds.countP fun z => PyData.eqv z d : Nat) : Int)) H
theorem mt_couD {X : Cx} (hu : X.A.units + 65 < cLine) : MtR X "list.count" (rCouD X.K) := by
  intro pins s σ H x xs v us Q I rx rxs h
  obtain ⟨a, y, d, ds, rfl, rfl, hl, hy, sl, sd, q⟩ := h
  cases rx
  cases rxs with
  | cons ry rt =>
    rename_i uy ut
    cases rt
    obtain ⟨bs, r1⟩ := Dp.reads I d y uy hy ry
    have hxs : PyData.canLayAll0 ds = true := SeqAt.canLay_of_shaped sl
    have hroom : X.A.units + 1 + min (PyData.depthAll ds) d.depth < cLine := room_in_shaped sd hu
    cases hl with
    | lst hs ha =>
      obtain ⟨its, rv, hli, hlen⟩ := I.list hs
      obtain ⟨as, h4⟩ := Dp.readsAll I ds _ its ha rv
      refine SeqAt.count_list_data hli.isList (show ReadsAll s.heap its.toArray.toList ds as from h4) r1 (PyData.plainAll_of_canLay0 _ hxs) (PyData.plain_of_canLay0 _ (SeqAt.canLay_of_shaped sd)) hroom ⟨.int _, H, I.tok _, ⟨_, rfl⟩, q⟩
theorem se_cou (hu : X.A.units + 65 < cLine) (hoo : okO o = true) (ho : okE a = true) (hline : (apos.endLine == pos.line) = true) (hb : PE X o (SE ⟨X.K, cA, cF⟩ fb)) (ha : PE X a (SE ⟨X.K, cA, cF⟩ fa)) :
    PE X (.Call (.Attribute o "count" apos) [a] [] pos) (SE ⟨X.K, cA, cF⟩ fun env => (fb env).bind fun x => (fa env).bind fun y => couop x.1 y.1) := by
  refine PE.weak (pe_bm PySem.F.plainAttrs_list PySem.F.slot_list_count PySem.F.type_list_count (mt_couD hu) hb (pa_cons ha pa_nil (star_cons ho)) (base_of hoo) (meth_few (by simp [ho]) (by simp)) hline (star_cons ho) rfl) fun σ H Q ⟨S, Fs, env, z, hE, hR, hf, q⟩ => ?_
  obtain ⟨x, eb, hf⟩ := Option.bind_eq_some_iff.mp hf
  obtain ⟨y, ea, hf⟩ := Option.bind_eq_some_iff.mp hf
  refine SE.one hE hR eb fun v H1 h1 r1 => ?_
  obtain ⟨dx, fx⟩ := x
  cases dx <;> simp only [couop, reduceCtorEq] at hf
  rename_i ds
  split at hf
  · rename_i p1 ps e1 e2
    split at hf
    · rename_i hs
      rw [Bool.and_eq_true] at hs
      rw [sc_eq hf] at q
      obtain ⟨l, vs, rfl, k1, k2⟩ := r1.items hE h1
      refine ⟨.inl ⟨rfl, _, SqL.of k1⟩, SE.one (hE.step h1) (hR.step h1) ea fun w H2 h2 r2 => ?_⟩
      exact ⟨l, w, p1, ps, rfl, rfl, .lst (SqL.of (h2 _ _ k1)) ((k2.now hE h1).mono h2 |>.dp e2), (r2.now (hE.step h1) h2).dp e1, hs.2, hs.1, q _ _ (h1.trans h2) (flatI _)⟩
    · cases hf
  · cases hf
end
end Ix
set_option Elab.async false
set_option linter.all false
set_option maxRecDepth 100000
set_option maxHeartbeats 4000000
namespace Ix
open PySem PySem.Spec PyProof.Rows L2

/-! ### the terms are the given syntax -/
structure Tab where
  fn : Nat → Str
  cls : Nat → Str
  mth : Nat → Str
  cF : Nat → List Str
  key : Str → Option Nat
  con : Str → Option Int
  blt : List Str
def okT : Expr → Bool
  | .IfExp .. => false
  | .Starred .. => false
  | _ => true
def stB (sc : Scope) (fn : Str → Bool) (x : Str) : Bool := match sc.names.lookup x with
  | some .local => true
  | some .cell => fn x
  | _ => false
def glB (sc : Scope) (x : Str) : Bool := match sc.names.lookup x with
  | some .globalImplicit => x != ("__debug__" : Str)
  | _ => false
def vsB (sc : Scope) (x : Str) : Bool := match sc.names.lookup x with
  | some .local => x != ("__debug__" : Str) && x != ("__classdict__" : Str)
  | some .cell => x != ("__debug__" : Str) && x != ("__classdict__" : Str)
  | some .free => x != ("__debug__" : Str) && x != ("__classdict__" : Str)
  | _ => false
def bltB (T : Tab) (sc : Scope) (x : Str) : Bool := glB sc x && T.blt.contains x
def cNs (N : List Str) (sc : Scope) (fn : Str → Bool) : List Nat → List Expr → Bool
  | [], [] => true
  | i :: is, e :: es => (match e with | .Name x _ => decide (N[i]? = some x) && stB sc fn x | _ => false) && cNs N sc fn is es
  | _, _ => false
def cTg (N : List Str) (sc : Scope) (fn : Str → Bool) (tg : Tg) (e : Expr) : Bool := match tg with
  | .one i => match e with | .Name x _ => decide (N[i]? = some x) && stB sc fn x | _ => false
  | .many is => match e with | .Tuple es _ _ => cNs N sc fn is es | _ => false
def b1n : B1 → Str
  | .len => "len" | .abs => "abs" | .list => "list" | .sorted => "sorted" | .int => "int" | .max => "max" | .min => "min" | .str => "str"
def b2n : B2 → Str
  | .max => "max" | .min => "min"
def okOp : Operator → Bool
  | .Add => true | .Sub => true | .Mult => true | .FloorDiv => true | .Mod => true | .Pow => true
  | _ => false
mutual
def cE (T : Tab) (N : List Str) : IE → Scope → Expr → Bool
  | .var i => fun sc e => match e with | .Name x _ => decide (N[i]? = some x) && vsB sc x | _ => false
  | .int n => fun sc e => match e with
    | .Constant (.int m) _ _ => decide (n = m)
    | .Name x _ => glB sc x && decide (T.con x = some n)
    | _ => false
  | .non => fun _ e => match e with | .Constant .none _ _ => true | _ => false
  | .bl b => fun _ e => match e with | .Constant (.bool c) _ _ => b == c | _ => false
  | .str x => fun _ e => match e with | .Constant (.str y) _ _ => decide (x = y) | _ => false
  | .bin op a b => fun sc e => match e with | .BinOp a' op' b' _ => okOp op && decide (op = op') && cE T N a sc a' && cE T N b sc b' | _ => false
  | .neg a => fun sc e => match e with | .UnaryOp .USub a' _ => cE T N a sc a' | _ => false
  | .not_ a => fun sc e => match e with | .UnaryOp .Not a' _ => cE T N a sc a' && okT a' | _ => false
  | .cmp op a b => fun sc e => match e with | .Compare a' [op'] [b'] _ => decide (op = op') && !(behindInMarks op b') && cE T N a sc a' && cE T N b sc b' | _ => false
  | .chn op op2 a b c => fun sc e => match e with
    | .Compare a' [op', op2'] [b', c'] _ => decide (op = op') && decide (op2 = op2') && !(lastMarks [op, op2] [b', c']) && cE T N a sc a' && cE T N b sc b' && cE T N c sc c'
    | _ => false
  | .bop k a es => fun sc e => match e with
    | .BoolOp op (a' :: r) _ => decide (op = if k then .And else .Or) && cE T N a sc a' && okT a' && cBs T N es sc r
    | _ => false
  | .ife c a b => fun sc e => match e with | .IfExp c' a' b' _ => cE T N c sc c' && okT c' && cE T N a sc a' && cE T N b sc b' | _ => false
  | .idx a k => fun sc e => match e with | .Subscript a' k' _ => okIx k' && cE T N a sc a' && cE T N k sc k' | _ => false
  | .slc a lo hi => fun sc e => match e with | .Subscript a' (.Slice lo' hi' none _) _ => cE T N a sc a' && cP T N lo sc lo' && cP T N hi sc hi' | _ => false
  | .rev a => fun sc e => match e with | .Subscript a' (.Slice none none (some (.UnaryOp .USub (.Constant (.int 1) _ _) _)) _) _ => cE T N a sc a' | _ => false
  | .tup es => fun sc e => match e with | .Tuple es' _ _ => decide (es'.length ≤ 1000) && cEs T N es sc es' | _ => false
  | .lst es => fun sc e => match e with | .List es' _ => decide (es'.length ≤ 1000) && cEs T N es sc es' | _ => false
  | .dKn => fun _ e => match e with | .Dict [] [] _ => true | _ => false
  | .dTn => fun _ e => match e with | .Dict [] [] _ => true | _ => false
  | .dK1 k v => fun sc e => match e with | .Dict [some k'] [v'] _ => cE T N k sc k' && cE T N v sc v' | _ => false
  | .comp elt tg it ifs own => fun sc e => match e with
    | .ListComp elt' [⟨tgE, iter, ifs', 0⟩] scope _ => cI T N it sc tgE iter && blkC N sc scope ((own.map fun i => (N.getD i "", i))) && tg.slots.all (own.contains ·) && cTg N (relS scope sc) (fun x => scope.names.lookup x == some .cell) tg tgE &&
        cC T N ifs (relS scope sc) ifs' && cE T N elt (relS scope sc) elt'
    | _ => false
  | .call f es => fun sc e => match e with | .Call (.Name x _) (a :: as) [] _ => decide (x = T.fn f) && glB sc x && cEs T N es sc (a :: as) | _ => false
  | .mk c es => fun sc e => match e with | .Call (.Name x _) (a :: as) [] _ => decide (x = T.cls c) && glB sc x && cEs T N es sc (a :: as) | _ => false
  | .meth a m es => fun sc e => match e with
    | .Call (.Attribute o x apos) (b :: bs) [] pos => decide (x = T.mth m) && okO o && decide ((b :: bs).length < 29) && (apos.endLine == pos.line) && cE T N a sc o && cEs T N es sc (b :: bs)
    | _ => false
  | .b1 b a => fun sc e => match e with | .Call (.Name x _) [a'] [] _ => decide (x = b1n b) && bltB T sc x && okE a' && cE T N a sc a' | _ => false
  | .b2 b a c => fun sc e => match e with | .Call (.Name x _) [a', c'] [] _ => decide (x = b2n b) && bltB T sc x && okE a' && okE c' && cE T N a sc a' && cE T N c sc c' | _ => false
  | .srk j a => fun sc e => match e with
    | .Call (.Name x _) [a'] [⟨some k1, .Name kx _, _⟩, ⟨some k2, .Constant (.bool true) _ _, _⟩] _ => decide (x = "sorted") && decide (k1 = "key") && decide (k2 = "reverse") && bltB T sc x && glB sc kx && decide (T.key kx = some j) && okE a' && cE T N a sc a'
    | _ => false
  | .cou a k => fun sc e => match e with | .Call (.Attribute o x apos) [k'] [] pos => decide (x = "count") && okO o && okE k' && (apos.endLine == pos.line) && cE T N a sc o && cE T N k sc k' | _ => false
  | .isi a t => fun sc e => match e with
    | .Call (.Name x _) [a', .Name y _] [] _ => decide (x = "isinstance") && bltB T sc x && okE a' && cE T N a sc a' && (match t with
      | .ty n => bltB T sc y && decide (bootBuiltins y = some (.type n)) && (y != "__name__")
      | .cls c => glB sc y && decide (y = T.cls c))
    | _ => false
  | .fld a c j => fun sc e => match e with | .Attribute a' x _ => okO a' && decide ((T.cF c)[j]? = some x) && cE T N a sc a' | _ => false
  | .get2 d k x => fun sc e => match e with | .Call (.Attribute o y apos) [k', x'] [] pos => decide (y = "get") && okO o && okE k' && okE x' && (apos.endLine == pos.line) && cE T N d sc o && cE T N k sc k' && cE T N x sc x' | _ => false
def cEs (T : Tab) (N : List Str) : IEs → Scope → List Expr → Bool
  | .nil => fun _ l => match l with | [] => true | _ => false
  | .cons e es => fun sc l => match l with | a :: as => okE a && cE T N e sc a && cEs T N es sc as | _ => false
/-- the rest of an and, of an or (not empty) -/
def cBs (T : Tab) (N : List Str) : IEs → Scope → List Expr → Bool
  | .nil => fun _ _ => false
  | .cons e es => fun sc l => match l with
    | [a] => cE T N e sc a && okT a && (match es with | .nil => true | _ => false)
    | a :: b :: as => cE T N e sc a && okT a && cBs T N es sc (b :: as)
    | _ => false
def cP (T : Tab) (N : List Str) : IEs → Scope → Option Expr → Bool
  | .nil => fun _ l => match l with | none => true | _ => false
  | .cons e es => fun sc l => match l with | some a => cE T N e sc a && (match es with | .nil => true | _ => false) | _ => false
def cC (T : Tab) (N : List Str) : IEs → Scope → List Expr → Bool
  | .nil => fun _ l => match l with | [] => true | _ => false
  | .cons e es => fun sc l => match l with | [a] => cE T N e sc a && okT a && (match es with | .nil => true | _ => false) | _ => false
def cI (T : Tab) (N : List Str) : II → Scope → Expr → Expr → Bool
  | .ofE e => fun sc _ a => (match a with | .Set .. => false | _ => true) && cE T N e sc a
  | .rng1 e => fun sc _ a => match a with | .Call (.Name x _) [a'] [] _ => decide (x = "range") && bltB T sc x && okE a' && cE T N e sc a' | _ => false
  | .rng2 e f => fun sc _ a => match a with | .Call (.Name x _) [a', b'] [] _ => decide (x = "range") && bltB T sc x && okE a' && okE b' && cE T N e sc a' && cE T N f sc b' | _ => false
  | .zip e f => fun sc tg a => match a with | .Call (.Name x _) [a', b'] [] _ => decide (x = "zip") && bltB T sc x && okE a' && okE b' && cE T N e sc a' && cE T N f sc b' && (match tg with | .Tuple .. => true | _ => false) | _ => false
  | .enm e => fun sc tg a => match a with | .Call (.Name x _) [a'] [] _ => decide (x = "enumerate") && bltB T sc x && okE a' && cE T N e sc a' && (match tg with | .Tuple .. => true | _ => false) | _ => false
end

/-! ### what is known where the code runs -/
structure XOk (X : Cx) (T : Tab) (cA : Nat → Addr) (G : Orc) (k : Nat) : Prop where
  calm : X.calm = true
  nd : X.N.Nodup
  room : Room (k + 2) X.A
  call : ∀ f ds r, G.call f ds = some r → ∃ a fd ps, FnOk X.prog X.w X.K X.mg X.base CX0 k a fd ps (spF ⟨X.K, cA, T.cF⟩ (G.call f)) ∧ X.mg (T.fn f) = some (.ref a) ∧ PySem.W.keepIn X.K (.ref a) = true ∧ Binds X.K fd ps []
  make : ∀ c ds r, G.make c ds = some r → ∃ a fd ps du dv dd g, Mk X.K (cA c) a ∧ FnOk X.prog X.w X.K X.mg X.base CX0 k a fd ps (spI ⟨X.K, cA, T.cF⟩ c g) ∧ X.mg (T.cls c) = some (.ref (cA c)) ∧ Binds X.K fd ps du ∧ Vals dv du ∧ (∀ S, RepL ⟨X.K, cA, T.cF⟩ S dv dd) ∧ ∀ ds, G.make c ds = g (ds ++ dd)
  meth : ∀ m, MOk X cA T.cF k (T.mth m) (fun c => G.meth c m)
  sub : ∀ c c' b, G.sub c c' = some b → X.mg (T.cls c') = some (.ref (cA c')) ∧ ClsT X cA c ∧ PySem.W.kitOne X.K (.ref (cA c)) (.ref (cA c')) = some b
  fld : ∀ c j x, (T.cF c)[j]? = some x → FOk X cA T.cF c j x
  blt : ∀ x, T.blt.contains x = true → X.mg x = none
  key : ∀ x j, T.key x = some j → ∃ f, X.mg x = some (.ref f) ∧ KFn X.K f j
  con : ∀ x n, T.con x = some n → ∃ t, X.mg x = some (.int n t)
end Ix
set_option Elab.async false
set_option linter.all false
set_option maxRecDepth 100000
set_option maxHeartbeats 4000000
namespace Ix
open PySem PySem.Spec PyProof.Rows L2

section
variable {X : Cx} {e : Expr} {es : List Expr} {L : Lk}
theorem PE.fc {f g : Env → Option R} (h : PE X e (SE L f)) (k : ∀ env, g env = f env) : PE X e (SE L g) := by
  have : g = f := funext k
  rw [this]
  exact h
theorem PT.fc {f g : Env → Option R} (h : PT X e (ST L f)) (k : ∀ env, g env = f env) : PT X e (ST L g) := by
  have : g = f := funext k
  rw [this]
  exact h
theorem PW.fc {f g : Env → Option R} (h : PW X e (ST L f)) (k : ∀ env, g env = f env) : PW X e (ST L g) := by
  have : g = f := funext k
  rw [this]
  exact h
theorem PA.fc {f g : Env → Option (List R)} (h : PA X es (SA L f)) (k : ∀ env, g env = f env) : PA X es (SA L g) := by
  have : g = f := funext k
  rw [this]
  exact h
theorem PI.fc {tg : Expr} {f g : Env → Option Its} (h : PI X tg e (SI L f)) (k : ∀ env, g env = f env) : PI X tg e (SI L g) := by
  have : g = f := funext k
  rw [this]
  exact h
theorem PE.dead {f : Env → Option R} (h : ∀ env, f env = none) : PE X e (SE L f) := ⟨fun pins s σ H Q I q => by
  obtain ⟨S, Fs, env, r, _, _, hf, _⟩ := q
  rw [h] at hf
  cases hf⟩
end
theorem stB_ok {X : Cx} {sc : Scope} {fn : Str → Bool} {x : Str} (hs : X.env.scope = sc) (hf : ∀ x, fn x = true → X.fn x = true) (h : stB sc fn x = true) : Loc X.env.scope x ∧ (X.fn x = true ∨ X.env.scope.names.lookup x = some .local) := by
  unfold stB at h
  rw [hs]
  split at h
  · rename_i e; exact ⟨.inl e, .inr e⟩
  · rename_i e; exact ⟨.inr e, .inl (hf _ h)⟩
  · cases h
theorem glB_ok {X : Cx} {sc : Scope} {x : Str} (hs : X.env.scope = sc) (h : glB sc x = true) : Gl X x ∧ (x == ("__debug__" : Str)) = false := by
  unfold glB at h
  unfold Gl Env.kindOf
  rw [hs]
  split at h
  · rename_i e; exact ⟨e, by simpa using h⟩
  · cases h
theorem vsB_ok {X : Cx} {sc : Scope} {x : Str} (hs : X.env.scope = sc) (h : vsB sc x = true) : Vis X.env.scope x ∧ (x == ("__debug__" : Str)) = false ∧ (x == ("__classdict__" : Str)) = false := by
  unfold vsB at h
  unfold Vis
  rw [hs]
  split at h
  · rename_i e; simp only [Bool.and_eq_true, bne_iff_ne, ne_eq] at h; exact ⟨.inl e, by simpa using h.1, by simpa using h.2⟩
  · rename_i e; simp only [Bool.and_eq_true, bne_iff_ne, ne_eq] at h; exact ⟨.inr (.inl e), by simpa using h.1, by simpa using h.2⟩
  · rename_i e; simp only [Bool.and_eq_true, bne_iff_ne, ne_eq] at h; exact ⟨.inr (.inr e), by simpa using h.1, by simpa using h.2⟩
  · cases h
theorem bltB_ok {X : Cx} {T : Tab} {cA : Nat → Addr} {G : Orc} {k : Nat} {sc : Scope} {x : Str} (O : XOk X T cA G k) (hs : X.env.scope = sc) (h : bltB T sc x = true) : Gl X x ∧ X.mg x = none := by
  unfold bltB at h
  rw [Bool.and_eq_true] at h
  exact ⟨(glB_ok hs h.1).1, O.blt x h.2⟩
theorem cNs_ok {X : Cx} {sc : Scope} {fn : Str → Bool} (hs : X.env.scope = sc) (hf : ∀ x, fn x = true → X.fn x = true) (hN : X.N.Nodup) : ∀ {is : List Nat} {es : List Expr}, cNs X.N sc fn is es = true → PGs X es (gNs is) ∧ (assignEach es X.env).length = is.length ∧ (assignEach es X.env).findIdx? (·.1) = none
  | [], [], _ => ⟨pgs_nil, rfl, rfl⟩
  | [], _ :: _, h => by simp [cNs] at h
  | _ :: _, [], h => by simp [cNs] at h
  | i :: is, e :: es, h => by
    simp only [cNs, Bool.and_eq_true] at h
    obtain ⟨h1, h2⟩ := h
    obtain ⟨k1, k2, k3⟩ := cNs_ok hs hf hN h2
    cases e <;> simp only [Bool.false_eq_true] at h1
    rename_i x p
    rw [Bool.and_eq_true, decide_eq_true_eq] at h1
    obtain ⟨q1, q2⟩ := stB_ok hs hf h1.2
    refine ⟨pgs_cons (pg_name hN h1.1 q1 q2) k1 rfl, ?_, ?_⟩
    · show (assignEach es X.env).length + 1 = _
      rw [k2]; rfl
    · show List.findIdx? _ ((false, _) :: assignEach es X.env) = none
      rw [List.findIdx?_cons, k3]
      rfl
theorem cTg_ok {X : Cx} {sc : Scope} {fn : Str → Bool} {tg : Tg} {e : Expr} (hs : X.env.scope = sc) (hf : ∀ x, fn x = true → X.fn x = true) (hN : X.N.Nodup) (hc : X.calm = true) (h : cTg X.N sc fn tg e = true) : PG X e (gT X.K tg) := by
  cases tg with
  | one i =>
    unfold cTg at h
    simp only at h
    cases e <;> simp only [Bool.false_eq_true] at h
    rw [Bool.and_eq_true, decide_eq_true_eq] at h
    obtain ⟨q1, q2⟩ := stB_ok hs hf h.2
    exact pg_name hN h.1 q1 q2
  | many is =>
    unfold cTg at h
    simp only at h
    cases e <;> simp only [Bool.false_eq_true] at h
    obtain ⟨k1, k2, k3⟩ := cNs_ok hs hf hN h
    exact pg_tup hc k1 k2 k3
theorem isTrue_val {e : Expr} {env : PySem.Env} (h : okT e = true) (hn : ∀ op a p, e ≠ .UnaryOp op a p) (hb : ∀ op l p, e ≠ .BoolOp op l p) (hc : ∀ a o l p, e ≠ .Compare a o l p) : ∀ whole, isTrue e env whole = (do let v ← whole; standAt e.pos; holding [v] (truthy v)) := by
  intro whole
  cases e <;> first | rfl | (simp [okT] at h; done) | exact absurd rfl (hn _ _ _) | exact absurd rfl (hb _ _ _) | exact absurd rfl (hc _ _ _ _)
theorem evs_len {G : Orc} {env : Env} : ∀ {es : IEs} {rs : List R} {T : Tab} {N : List Str} {sc : Scope} {l : List Expr}, cEs T N es sc l = true → evs G env es = some rs → rs.length = l.length
  | .nil, rs, T, N, sc, l, h, e => by
    simp only [cEs] at h
    cases l <;> simp at h
    simp [evs] at e
    subst e
    rfl
  | .cons a es, rs, T, N, sc, l, h, e => by
    simp only [cEs] at h
    cases l <;> simp only [Bool.false_eq_true] at h
    rw [Bool.and_eq_true] at h
    simp only [evs] at e
    obtain ⟨x, _, e⟩ := Option.bind_eq_some_iff.mp e
    obtain ⟨ys, e2, rfl⟩ := Option.map_eq_some_iff.mp e
    simp only [List.length_cons]
    rw [evs_len h.2 e2]
theorem cEs_ok {T : Tab} {N : List Str} : ∀ {es : IEs} {sc : Scope} {l : List Expr}, cEs T N es sc l = true → l.all okE = true
  | .nil, sc, l, h => by
    simp only [cEs] at h
    cases l <;> simp at h
    rfl
  | .cons a es, sc, l, h => by
    simp only [cEs] at h
    cases l <;> simp only [Bool.false_eq_true] at h
    rw [Bool.and_eq_true, Bool.and_eq_true] at h
    simp only [List.all_cons, Bool.and_eq_true]
    exact ⟨h.1.1, cEs_ok h.2⟩

/-- both: as a value, and as a test -/
def Snd (X : Cx) (T : Tab) (cA : Nat → Addr) (e : Expr) (f : Env → Option R) : Prop := PE X e (SE ⟨X.K, cA, T.cF⟩ f) ∧ (okT e = true → PT X e (ST ⟨X.K, cA, T.cF⟩ f))
theorem Snd.val {X : Cx} {T : Tab} {cA : Nat → Addr} {e : Expr} {f : Env → Option R} (h : PE X e (SE ⟨X.K, cA, T.cF⟩ f)) (hn : ∀ op a p, e ≠ .UnaryOp op a p := by intros; simp) (hb : ∀ op l p, e ≠ .BoolOp op l p := by intros; simp) (hc : ∀ a o l p, e ≠ .Compare a o l p := by intros; simp) : Snd X T cA e f :=
  ⟨h, fun ht => st_val (isTrue_val ht hn hb hc) h⟩
section
variable {X : Cx} {T : Tab} {cA : Nat → Addr} {G : Orc} {k : Nat}
theorem XOk.u (O : XOk X T cA G k) : X.A.units + 65 < cLine := by have := O.room.un; omega
theorem XOk.blk (O : XOk X T cA G k) {s : Shared} {H : Hp} {scope : Scope} {cenv : PySem.Env} {fp : List Addr} : XOk (X.blk s H scope cenv fp) T cA G k :=
  ⟨O.calm, O.nd, O.room, O.call, O.make, O.meth, fun c c' b e => let ⟨h1, h2, h3⟩ := O.sub c c' b e; ⟨h1, ⟨h2.cl, h2.ha, h2.hn, h2.htk, h2.hm⟩, h3⟩, fun c j x e => let h := O.fld c j x e; ⟨h.cl, h.no, h.at_, h.nd⟩, O.blt, O.key, O.con⟩
theorem snd_call {f : Nat} {as : List Expr} {a : Expr} {x : Str} {p pos : Pos} {fs : Env → Option (List R)} (O : XOk X T cA G k) (hg : Gl X x) (hd : (x == ("__debug__" : Str)) = false) (hx : x = T.fn f) (ho : (a :: as).all okE = true) (ha : PA X (a :: as) (SA ⟨X.K, cA, T.cF⟩ fs)) :
    PE X (.Call (.Name x p) (a :: as) [] pos) (SE ⟨X.K, cA, T.cF⟩ fun env => (fs env).bind fun rs => (G.call f (rs.map (·.1))).map (retF (als rs))) := by
  by_cases hh : ∃ ds r, G.call f ds = some r
  · obtain ⟨ds, r, hh⟩ := hh
    obtain ⟨b, fd, ps, F, hm, hk, hb⟩ := O.call f ds r hh
    exact se_call F (O.room.mono (by omega)) hg (by rw [hx]; exact hm) hk hb hd ho ha
  · refine PE.dead fun env => ?_
    cases fs env with
    | none => rfl
    | some rs =>
      cases e : G.call f (rs.map (·.1)) with
      | none => simp [e]
      | some r => exact absurd ⟨_, _, e⟩ hh
theorem snd_mk {c : Nat} {as : List Expr} {a : Expr} {x : Str} {p pos : Pos} {fs : Env → Option (List R)} (O : XOk X T cA G k) (hg : Gl X x) (hd : (x == ("__debug__" : Str)) = false) (hx : x = T.cls c) (ho : (a :: as).all okE = true) (ha : PA X (a :: as) (SA ⟨X.K, cA, T.cF⟩ fs)) :
    PE X (.Call (.Name x p) (a :: as) [] pos) (SE ⟨X.K, cA, T.cF⟩ fun env => (fs env).bind fun rs => (G.make c (rs.map (·.1))).map fun d => retF (als rs) (d, .no)) := by
  by_cases hh : ∃ ds r, G.make c ds = some r
  · obtain ⟨ds, r, hh⟩ := hh
    obtain ⟨b, fd, ps, du, dv, dd, g, M, F, hm, hb, hv, hr, hg2⟩ := O.make c ds r hh
    refine PE.fc (se_mk M F (O.room.mono (by omega)) hg (by rw [hx]; exact hm) hb hv hr hd ho ha) fun env => ?_
    simp only [hg2]
  · refine PE.dead fun env => ?_
    cases fs env with
    | none => rfl
    | some rs =>
      cases e : G.make c (rs.map (·.1)) with
      | none => simp [e]
      | some r => exact absurd ⟨_, _, e⟩ hh
theorem snd_isi {t : Ty} {a : Expr} {x y : Str} {p p2 pos : Pos} {fa : Env → Option R} (O : XOk X T cA G k) {sco : Scope} (hs : X.env.scope = sco) (hx : x = "isinstance") (hbx : bltB T sco x = true) (ho : okE a = true) (ha : PE X a (SE ⟨X.K, cA, T.cF⟩ fa))
    (h : (match t with
      | .ty n => bltB T sco y && decide (bootBuiltins y = some (.type n)) && (y != "__name__")
      | .cls c => glB sco y && decide (y = T.cls c)) = true) :
    PE X (.Call (.Name x p) [a, .Name y p2] [] pos) (SE ⟨X.K, cA, T.cF⟩ fun env => (fa env).bind fun x => (isiop G x.1 t).bind fun b => sc (.bl b)) := by
  obtain ⟨hg, hm⟩ := bltB_ok O hs hbx
  cases t with
  | ty n =>
    simp only [Bool.and_eq_true, decide_eq_true_eq, bne_iff_ne, ne_eq] at h
    obtain ⟨⟨h1, h2⟩, h3⟩ := h
    obtain ⟨hgy, hmy⟩ := bltB_ok O hs h1
    have hdy := (glB_ok hs (by unfold bltB at h1; rw [Bool.and_eq_true] at h1; exact h1.1)).2
    refine PE.fc (se_isiT (n := n) hg hx hm hgy h2 hmy h3 hdy ho ha) fun env => ?_
    cases fa env with
    | none => rfl
    | some x => obtain ⟨d, fl⟩ := x; cases d <;> rfl
  | cls c =>
    simp only [Bool.and_eq_true, decide_eq_true_eq] at h
    obtain ⟨hgy, hdy⟩ := glB_ok hs h.1
    by_cases hh : ∃ c1 b, G.sub c1 c = some b
    · obtain ⟨c1, b, hh⟩ := hh
      obtain ⟨k1, _, _⟩ := O.sub c1 c b hh
      refine PE.fc (se_isiC (c' := c) (sub := fun c1 => G.sub c1 c) hg hx hm hgy (by rw [h.2]; exact k1) hdy (fun c1 b e => (O.sub c1 c b e).2) ho ha) fun env => ?_
      cases fa env with
      | none => rfl
      | some x => obtain ⟨d, fl⟩ := x; cases d <;> rfl
    · refine PE.dead fun env => ?_
      cases fa env with
      | none => rfl
      | some x =>
        obtain ⟨d, fl⟩ := x
        cases d <;> try rfl
        rename_i c1 ds
        show (Option.bind (G.sub c1 c) _) = none
        cases e : G.sub c1 c with
        | none => rfl
        | some b => exact absurd ⟨_, _, e⟩ hh
end
end Ix
set_option Elab.async false
set_option linter.all false
set_option maxRecDepth 100000
set_option maxHeartbeats 8000000
namespace Ix
open PySem PySem.Spec PyProof.Rows L2

section
variable {T : Tab} {cA : Nat → Addr} {G : Orc} {k : Nat}
theorem own_map {N : List Str} : ∀ {own : List Nat}, (own.map fun i => (N.getD i "", i)).map (·.2) = own
  | [] => rfl
  | i :: own => by
    have := own_map (N := N) (own := own)
    simp only [List.map_cons] at this ⊢
    rw [this]
theorem ifself {α : Type} {c : Prop} [Decidable c] (a : α) : (if c then a else a) = a := by split <;> rfl
theorem folded_of {e : Expr} (h : (match e with | .Set .. => false | _ => true) = true) {env : PySem.Env} : ∀ x, foldedSetIterable e env x = pure x := by
  intro x
  cases e <;> first | rfl | (simp at h)
mutual
theorem sE : ∀ (ie : IE) (X : Cx) (sco : Scope) (e : Expr), XOk X T cA G k → X.env.scope = sco → cE T X.N ie sco e = true → Snd X T cA e (fun env => ev G env ie)
  | .var i, X, sco, e, O, hs, h => by
    simp only [cE] at h
    split at h <;> try (cases h; done)
    rw [Bool.and_eq_true, decide_eq_true_eq] at h
    obtain ⟨q1, q2, q3⟩ := vsB_ok hs h.2
    exact Snd.val (PE.fc (se_var h.1 q1 q2 q3) fun env => by simp only [ev] <;> rfl)
  | .int n, X, sco, e, O, hs, h => by
    simp only [cE] at h
    split at h <;> try (cases h; done)
    · rw [decide_eq_true_eq] at h
      subst h
      exact Snd.val (PE.fc (se_const pe_int fun S => .int _) fun env => by simp only [ev] <;> rfl)
    · rw [Bool.and_eq_true, decide_eq_true_eq] at h
      obtain ⟨t, ht⟩ := O.con _ _ h.2
      obtain ⟨q1, q2⟩ := glB_ok hs h.1
      exact Snd.val (PE.fc (se_const (pe_glob (v := .int n) q1 ht ⟨t, rfl⟩ q2) fun S => .int _) fun env => by simp only [ev] <;> rfl)
  | .non, X, sco, e, O, hs, h => by
    simp only [cE] at h
    split at h <;> try (cases h; done)
    exact Snd.val (PE.fc (se_const pe_non fun S => .non) fun env => by simp only [ev] <;> rfl)
  | .bl b, X, sco, e, O, hs, h => by
    simp only [cE] at h
    split at h <;> try (cases h; done)
    rw [beq_iff_eq] at h
    subst h
    exact Snd.val (PE.fc (se_const pe_bl fun S => .bl _) fun env => by simp only [ev] <;> rfl)
  | .str x, X, sco, e, O, hs, h => by
    simp only [cE] at h
    split at h <;> try (cases h; done)
    rw [decide_eq_true_eq] at h
    subst h
    exact Snd.val (PE.fc (se_const pe_str fun S => .str _) fun env => by simp only [ev] <;> rfl)
  | .bin op a b, X, sco, e, O, hs, h => by
    simp only [cE] at h
    split at h <;> try (cases h; done)
    simp only [Bool.and_eq_true, decide_eq_true_eq] at h
    obtain ⟨⟨⟨h1, h2⟩, h3⟩, h4⟩ := h
    subst h2
    have ha := (sE a X sco _ O hs h3).1
    have hb := (sE b X sco _ O hs h4).1
    cases op <;> simp only [okOp, Bool.false_eq_true] at h1
    · exact Snd.val (PE.fc (se_add ha hb) fun env => by simp only [ev] <;> rfl)
    · exact Snd.val (PE.fc (se_sub ha hb) fun env => by simp only [ev] <;> rfl)
    · exact Snd.val (PE.fc (se_mul ha hb) fun env => by simp only [ev] <;> rfl)
    · exact Snd.val (PE.fc (se_mod ha hb) fun env => by simp only [ev] <;> rfl)
    · exact Snd.val (PE.fc (se_pow ha hb) fun env => by simp only [ev] <;> rfl)
    · exact Snd.val (PE.fc (se_div ha hb) fun env => by simp only [ev] <;> rfl)
  | .neg a, X, sco, e, O, hs, h => by
    simp only [cE] at h
    split at h <;> try (cases h; done)
    have hp := PE.fc (se_neg (pos := by assumption) (sE a X sco _ O hs h).1) (g := fun env => ev G env (.neg a)) fun env => by simp only [ev] <;> rfl
    exact ⟨hp, fun _ => st_val (fun whole => rfl) hp⟩
  | .not_ a, X, sco, e, O, hs, h => by
    simp only [cE] at h
    split at h <;> try (cases h; done)
    rw [Bool.and_eq_true] at h
    have ha := sE a X sco _ O hs h.1
    exact ⟨PE.fc (se_not ha.1) fun env => by simp only [ev] <;> rfl, fun _ => PT.fc (st_not (ha.2 h.2)) fun env => by simp only [ev] <;> rfl⟩
  | .cmp op a b, X, sco, e, O, hs, h => by
    simp only [cE] at h
    split at h <;> try (cases h; done)
    simp only [Bool.and_eq_true, decide_eq_true_eq, Bool.not_eq_true'] at h
    obtain ⟨⟨⟨h1, h2⟩, h3⟩, h4⟩ := h
    subst h1
    have ha := (sE a X sco _ O hs h3).1
    have hb := (sE b X sco _ O hs h4).1
    exact ⟨PE.fc (se_cmp O.u h2 ha hb) fun env => by simp only [ev] <;> rfl, fun _ => PT.fc (st_cmp O.u h2 ha hb) fun env => by simp only [ev] <;> rfl⟩
  | .chn op op2 a b c, X, sco, e, O, hs, h => by
    simp only [cE] at h
    split at h <;> try (cases h; done)
    simp only [Bool.and_eq_true, decide_eq_true_eq, Bool.not_eq_true'] at h
    obtain ⟨⟨⟨⟨⟨h1, h2⟩, h3⟩, h4⟩, h5⟩, h6⟩ := h
    subst h1 h2
    have ha := (sE a X sco _ O hs h4).1
    have hb := (sE b X sco _ O hs h5).1
    have hc := (sE c X sco _ O hs h6).1
    exact ⟨PE.fc (se_chn O.u h3 ha hb hc) fun env => by simp only [ev] <;> rfl, fun _ => PT.fc (st_chn O.u h3 ha hb hc) fun env => by simp only [ev] <;> rfl⟩
  | .bop kk a es, X, sco, e, O, hs, h => by
    simp only [cE] at h
    split at h <;> try (cases h; done)
    simp only [Bool.and_eq_true, decide_eq_true_eq] at h
    obtain ⟨⟨⟨h1, h2⟩, h3⟩, h4⟩ := h
    have ha := sE a X sco _ O hs h2
    rename_i r pos
    obtain ⟨b, r', hr⟩ : ∃ b r', r = b :: r' := by
      cases es with
      | nil => simp [cBs] at h4
      | cons e1 es1 => cases r with
        | nil => simp [cBs] at h4
        | cons b r' => exact ⟨b, r', rfl⟩
    cases kk with
    | true =>
      have hb := sBs es X sco _ pos .And true rfl O hs h4
      subst h1 hr
      refine ⟨PE.fc (se_and ha.1 (hb true).1) fun env => ?_, fun _ => PT.fc (PW.pt (sw_and (ha.2 h3) (hb true).2)) fun env => ?_⟩ <;> simp only [ev] <;> congr 1 <;> funext x <;> obtain ⟨d, fl⟩ := x <;> cases d <;> try rfl
      all_goals rename_i b; cases b <;> rfl
    | false =>
      have hb := sBs es X sco _ pos .Or false rfl O hs h4
      subst h1 hr
      refine ⟨PE.fc (se_or ha.1 (hb false).1) fun env => ?_, fun _ => PT.fc (PW.pt (sw_or (ha.2 h3) (hb false).2)) fun env => ?_⟩ <;> simp only [ev] <;> congr 1 <;> funext x <;> obtain ⟨d, fl⟩ := x <;> cases d <;> try rfl
      all_goals rename_i b; cases b <;> rfl
  | .ife c a b, X, sco, e, O, hs, h => by
    simp only [cE] at h
    split at h <;> try (cases h; done)
    simp only [Bool.and_eq_true] at h
    obtain ⟨⟨⟨h1, h2⟩, h3⟩, h4⟩ := h
    exact ⟨PE.fc (se_ife ((sE c X sco _ O hs h1).2 h2) (sE a X sco _ O hs h3).1 (sE b X sco _ O hs h4).1) fun env => by simp only [ev] <;> rfl, fun ht => by simp [okT] at ht⟩
  | .idx a i, X, sco, e, O, hs, h => by
    simp only [cE] at h
    split at h <;> try (cases h; done)
    simp only [Bool.and_eq_true] at h
    obtain ⟨⟨h1, h2⟩, h3⟩ := h
    exact Snd.val (PE.fc (se_idx O.u (plain_ix h1) (sE a X sco _ O hs h2).1 (sE i X sco _ O hs h3).1) fun env => by simp only [ev] <;> rfl)
  | .slc a lo hi, X, sco, e, O, hs, h => by
    simp only [cE] at h
    split at h <;> try (cases h; done)
    simp only [Bool.and_eq_true] at h
    obtain ⟨⟨h1, h2⟩, h3⟩ := h
    exact Snd.val (PE.fc (se_slc (sE a X sco _ O hs h1).1 (sP lo X sco _ O hs h2) (sP hi X sco _ O hs h3)) fun env => by simp only [ev] <;> rfl)
  | .rev a, X, sco, e, O, hs, h => by
    simp only [cE] at h
    split at h <;> try (cases h; done)
    exact Snd.val (PE.fc (se_rev (sE a X sco _ O hs h).1) fun env => by simp only [ev] <;> rfl)
  | .tup es, X, sco, e, O, hs, h => by
    simp only [cE] at h
    split at h <;> try (cases h; done)
    rw [Bool.and_eq_true, decide_eq_true_eq] at h
    exact Snd.val (PE.fc (se_tup (sEs es X sco _ O hs h.2) fun env rs er => by rw [evs_len h.2 er]; exact h.1) fun env => by simp only [ev] <;> rfl)
  | .lst es, X, sco, e, O, hs, h => by
    simp only [cE] at h
    split at h <;> try (cases h; done)
    rw [Bool.and_eq_true, decide_eq_true_eq] at h
    exact Snd.val (PE.fc (se_lst (sEs es X sco _ O hs h.2) fun env rs er => by rw [evs_len h.2 er]; exact h.1) fun env => by simp only [ev] <;> rfl)
  | .dKn, X, sco, e, O, hs, h => by
    simp only [cE] at h
    split at h <;> try (cases h; done)
    exact Snd.val (PE.fc se_dKn fun env => by simp only [ev] <;> rfl)
  | .dTn, X, sco, e, O, hs, h => by
    simp only [cE] at h
    split at h <;> try (cases h; done)
    exact Snd.val (PE.fc se_dTn fun env => by simp only [ev] <;> rfl)
  | .dK1 a b, X, sco, e, O, hs, h => by
    simp only [cE] at h
    split at h <;> try (cases h; done)
    rw [Bool.and_eq_true] at h
    exact Snd.val (PE.fc (se_dK1 (sE a X sco _ O hs h.1).1 (sE b X sco _ O hs h.2).1) fun env => by simp only [ev] <;> rfl)
  | .comp elt tg it ifs own, X, sco, e, O, hs, h => by
    simp only [cE] at h
    split at h <;> try (cases h; done)
    simp only [Bool.and_eq_true] at h
    obtain ⟨⟨⟨⟨⟨h1, h2⟩, h3⟩, h4⟩, h5⟩, h6⟩ := h
    obtain ⟨i1, i2⟩ := sI it X sco _ _ O hs h1
    have hown : (own.map fun i => (X.N.getD i "", i)).map (·.2) = own := own_map
    have hsc : ∀ (s : Shared) (H : Hp) (C : Addr) (cl : List (Str × Addr)) (fp : List Addr) (scope : Scope), (X.blk s H scope (compEnvC scope cl C X.env) fp).env.scope = relS scope sco := fun s H C cl fp scope => by
      rw [← hs]; rfl
    refine Snd.val (PE.fc (se_comp (own := own.map fun i => (X.N.getD i "", i)) (tg := tg) (fe := fun env => ev G env elt) (fb := fun env => evC G env ifs) O.calm O.nd i1 (blkOk_by (by rw [hs]; exact h2)) ?_ (fun s H C cl fp => ?_) (fun s H C cl fp => ?_) (fun s H C cl fp => ?_) i2) (fun env => ?_))
    · rw [hown]
      intro i hi
      have := List.all_eq_true.mp h3 i hi
      simpa using this
    · exact cTg_ok (X := X.blk s H _ (compEnvC _ cl C X.env) fp) (hsc s H C cl fp _) (fun x z => z) O.nd O.calm h4
    · exact sC ifs (X.blk s H _ (compEnvC _ cl C X.env) fp) _ _ O.blk (hsc s H C cl fp _) h5
    · exact (sE elt (X.blk s H _ (compEnvC _ cl C X.env) fp) _ _ O.blk (hsc s H C cl fp _) h6).1
    · simp only [ev, hown] <;> rfl
  | .call f es, X, sco, e, O, hs, h => by
    simp only [cE] at h
    split at h <;> try (cases h; done)
    simp only [Bool.and_eq_true, decide_eq_true_eq] at h
    obtain ⟨⟨h1, h2⟩, h3⟩ := h
    obtain ⟨q1, q2⟩ := glB_ok hs h2
    exact Snd.val (PE.fc (snd_call O q1 q2 h1 (cEs_ok h3) (sEs es X sco _ O hs h3)) fun env => by simp only [ev] <;> rfl)
  | .mk c es, X, sco, e, O, hs, h => by
    simp only [cE] at h
    split at h <;> try (cases h; done)
    simp only [Bool.and_eq_true, decide_eq_true_eq] at h
    obtain ⟨⟨h1, h2⟩, h3⟩ := h
    obtain ⟨q1, q2⟩ := glB_ok hs h2
    exact Snd.val (PE.fc (snd_mk O q1 q2 h1 (cEs_ok h3) (sEs es X sco _ O hs h3)) fun env => by simp only [ev] <;> rfl)
  | .meth a m es, X, sco, e, O, hs, h => by
    simp only [cE] at h
    split at h <;> try (cases h; done)
    simp only [Bool.and_eq_true, decide_eq_true_eq] at h
    obtain ⟨⟨⟨⟨⟨h1, h2⟩, h3⟩, h4⟩, h5⟩, h6⟩ := h
    subst h1
    exact Snd.val (PE.fc (se_meth (O.meth m) (O.room.mono (by omega)) h2 (cEs_ok h6) h3 h4 (sE a X sco _ O hs h5).1 (sEs es X sco _ O hs h6)) fun env => by simp only [ev] <;> rfl)
  | .b1 b a, X, sco, e, O, hs, h => by
    simp only [cE] at h
    split at h <;> try (cases h; done)
    simp only [Bool.and_eq_true, decide_eq_true_eq] at h
    obtain ⟨⟨⟨h1, h2⟩, h3⟩, h4⟩ := h
    obtain ⟨q1, q2⟩ := bltB_ok O hs h2
    have ha := (sE a X sco _ O hs h4).1
    cases b
    · exact Snd.val (PE.fc (se_len h1 q1 q2 h3 ha) fun env => by simp only [ev] <;> rfl)
    · exact Snd.val (PE.fc (se_abs h1 q1 q2 h3 ha) fun env => by simp only [ev] <;> rfl)
    · exact Snd.val (PE.fc (se_list h1 q1 q2 h3 ha) fun env => by simp only [ev] <;> rfl)
    · exact Snd.val (PE.fc (se_sorted O.u h1 q1 q2 h3 ha) fun env => by simp only [ev] <;> rfl)
    · exact Snd.val (PE.fc (se_int h1 q1 q2 h3 ha) fun env => by simp only [ev] <;> rfl)
    · exact Snd.val (PE.fc (se_max1 O.calm h1 q1 q2 h3 ha) fun env => by simp only [ev] <;> rfl)
    · exact Snd.val (PE.fc (se_min1 O.calm h1 q1 q2 h3 ha) fun env => by simp only [ev] <;> rfl)
    · exact Snd.val (PE.fc (se_str h1 q1 q2 h3 ha) fun env => by simp only [ev] <;> rfl)
  | .b2 b a c, X, sco, e, O, hs, h => by
    simp only [cE] at h
    split at h <;> try (cases h; done)
    simp only [Bool.and_eq_true, decide_eq_true_eq] at h
    obtain ⟨⟨⟨⟨⟨h1, h2⟩, h3⟩, h4⟩, h5⟩, h6⟩ := h
    obtain ⟨q1, q2⟩ := bltB_ok O hs h2
    exact Snd.val (PE.fc (se_b2 O.calm b (by cases b <;> exact h1) q1 q2 h3 h4 (sE a X sco _ O hs h5).1 (sE c X sco _ O hs h6).1) fun env => by simp only [ev] <;> rfl)
  | .srk j a, X, sco, e, O, hs, h => by
    simp only [cE] at h
    split at h <;> try (cases h; done)
    simp only [Bool.and_eq_true, decide_eq_true_eq] at h
    obtain ⟨⟨⟨⟨⟨⟨⟨h1, h2⟩, h3⟩, h4⟩, h5⟩, h6⟩, h7⟩, h8⟩ := h
    obtain ⟨q1, q2⟩ := bltB_ok O hs h4
    obtain ⟨q3, q4⟩ := glB_ok hs h5
    obtain ⟨f, hf, F⟩ := O.key _ _ h6
    subst h2 h3
    exact Snd.val (PE.fc (se_srk F (O.room.mono (by omega)) h1 q1 q2 q3 hf q4 h7 (sE a X sco _ O hs h8).1) fun env => by simp only [ev] <;> rfl)
  | .cou a c, X, sco, e, O, hs, h => by
    simp only [cE] at h
    split at h <;> try (cases h; done)
    simp only [Bool.and_eq_true, decide_eq_true_eq] at h
    obtain ⟨⟨⟨⟨⟨h1, h2⟩, h3⟩, h4⟩, h5⟩, h6⟩ := h
    subst h1
    exact Snd.val (PE.fc (se_cou O.u h2 h3 h4 (sE a X sco _ O hs h5).1 (sE c X sco _ O hs h6).1) fun env => by simp only [ev] <;> rfl)
  | .isi a t, X, sco, e, O, hs, h => by
    simp only [cE] at h
    split at h <;> try (cases h; done)
    simp only [Bool.and_eq_true, decide_eq_true_eq] at h
    obtain ⟨⟨⟨⟨h1, h2⟩, h3⟩, h4⟩, h5⟩ := h
    exact Snd.val (PE.fc (snd_isi (t := t) O hs h1 h2 h3 (sE a X sco _ O hs h4).1 h5) fun env => by simp only [ev] <;> rfl)
  | .fld a c j, X, sco, e, O, hs, h => by
    simp only [cE] at h
    split at h <;> try (cases h; done)
    simp only [Bool.and_eq_true, decide_eq_true_eq] at h
    obtain ⟨⟨h1, h2⟩, h3⟩ := h
    exact Snd.val (PE.fc (se_fld (O.fld c j _ h2) h1 (sE a X sco _ O hs h3).1) fun env => by simp only [ev] <;> rfl)
  | .get2 d i x, X, sco, e, O, hs, h => by
    simp only [cE] at h
    split at h <;> try (cases h; done)
    simp only [Bool.and_eq_true, decide_eq_true_eq] at h
    obtain ⟨⟨⟨⟨⟨⟨⟨h1, h2⟩, h3⟩, h4⟩, h5⟩, h6⟩, h7⟩, h8⟩ := h
    subst h1
    exact Snd.val (PE.fc (se_get2 O.u h2 h3 h4 h5 (sE d X sco _ O hs h6).1 (sE i X sco _ O hs h7).1 (sE x X sco _ O hs h8).1) fun env => by simp only [ev] <;> rfl)
theorem sEs : ∀ (es : IEs) (X : Cx) (sco : Scope) (l : List Expr), XOk X T cA G k → X.env.scope = sco → cEs T X.N es sco l = true → PA X l (SA ⟨X.K, cA, T.cF⟩ fun env => evs G env es)
  | .nil, X, sco, l, O, hs, h => by
    simp only [cEs] at h
    cases l <;> simp at h
    exact PA.fc sa_nil fun env => by simp only [evs] <;> rfl
  | .cons e es, X, sco, l, O, hs, h => by
    simp only [cEs] at h
    cases l <;> simp only [Bool.false_eq_true] at h
    simp only [Bool.and_eq_true] at h
    exact PA.fc (sa_cons (star_cons h.1.1) (sE e X sco _ O hs h.1.2).1 (sEs es X sco _ O hs h.2)) fun env => by simp only [evs] <;> rfl
theorem sBs : ∀ (es : IEs) (X : Cx) (sco : Scope) (l : List Expr) (pos : Pos) (op : BoolOp) (kk : Bool), (op = if kk then .And else .Or) → XOk X T cA G k → X.env.scope = sco → cBs T X.N es sco l = true → ∀ last,
    PE X (.BoolOp op l pos) (SE ⟨X.K, cA, T.cF⟩ fun env => evB G env kk last es) ∧ PW X (.BoolOp op l pos) (ST ⟨X.K, cA, T.cF⟩ fun env => evB G env kk last es)
  | .nil, X, sco, l, pos, op, kk, ho, O, hs, h, last => by simp [cBs] at h
  | .cons e es, X, sco, l, pos, op, kk, ho, O, hs, h, last => by
    simp only [cBs] at h
    split at h <;> try (cases h; done)
    · simp only [Bool.and_eq_true] at h
      have ha := sE e X sco _ O hs h.1.1
      cases es with
      | cons _ _ => exact absurd h.2 (by simp)
      | nil =>
        refine ⟨PE.fc (se_bop1 ha.1) fun env => ?_, PW.fc (sw_one (ha.2 h.1.2)) fun env => ?_⟩ <;> simp only [evB] <;> congr 1 <;> funext x <;> obtain ⟨d, fl⟩ := x <;> cases d <;> simp
    · simp only [Bool.and_eq_true] at h
      have ha := sE e X sco _ O hs h.1.1
      have hb := sBs es X sco _ pos op kk ho O hs h.2
      cases kk with
      | true =>
        subst ho
        refine ⟨PE.fc (se_and ha.1 (hb true).1) fun env => ?_, PW.fc (sw_and (ha.2 h.1.2) (hb true).2) fun env => ?_⟩ <;> simp only [evB] <;> congr 1 <;> funext x <;> obtain ⟨d, fl⟩ := x <;> cases d <;> try rfl
        all_goals rename_i b; cases b <;> rfl
      | false =>
        subst ho
        refine ⟨PE.fc (se_or ha.1 (hb false).1) fun env => ?_, PW.fc (sw_or (ha.2 h.1.2) (hb false).2) fun env => ?_⟩ <;> simp only [evB] <;> congr 1 <;> funext x <;> obtain ⟨d, fl⟩ := x <;> cases d <;> try rfl
        all_goals rename_i b; cases b <;> rfl
theorem sP : ∀ (es : IEs) (X : Cx) (sco : Scope) (l : Option Expr), XOk X T cA G k → X.env.scope = sco → cP T X.N es sco l = true → PO X l (SP1 ⟨X.K, cA, T.cF⟩ fun env => evP G env es)
  | .nil, X, sco, l, O, hs, h => by
    simp only [cP] at h
    cases l <;> simp at h
    have : (fun env => evP G env .nil) = fun _ => some none := funext fun env => by simp only [evP] <;> rfl
    rw [this]
    exact sp_none
  | .cons e es, X, sco, l, O, hs, h => by
    simp only [cP] at h
    cases l <;> simp only [Bool.false_eq_true] at h
    rw [Bool.and_eq_true] at h
    cases es with
    | cons _ _ => exact absurd h.2 (by simp)
    | nil =>
      have : (fun env => evP G env (.cons e .nil)) = fun env => (ev G env e).bind fun x => match x.1 with | .int i => some (some i) | _ => none := funext fun env => by simp only [evP] <;> rfl
      rw [this]
      exact sp_some (sE e X sco _ O hs h.1).1
theorem sC : ∀ (es : IEs) (X : Cx) (sco : Scope) (l : List Expr), XOk X T cA G k → X.env.scope = sco → cC T X.N es sco l = true → PTs X l (SC ⟨X.K, cA, T.cF⟩ fun env => evC G env es)
  | .nil, X, sco, l, O, hs, h => by
    simp only [cC] at h
    cases l <;> simp at h
    have : (fun env => evC G env .nil) = fun _ => some true := funext fun env => by simp only [evC] <;> rfl
    rw [this]
    exact sc_yes
  | .cons e es, X, sco, l, O, hs, h => by
    simp only [cC] at h
    split at h <;> try (cases h; done)
    simp only [Bool.and_eq_true] at h
    cases es with
    | cons _ _ => exact absurd h.2 (by simp)
    | nil =>
      have : (fun env => evC G env (.cons e .nil)) = fun env => (ev G env e).bind fun x => match x.1 with | .bl b => some b | _ => none := funext fun env => by simp only [evC] <;> rfl
      rw [this]
      exact sc_one ((sE e X sco _ O hs h.1.1).2 h.1.2)
theorem sI : ∀ (it : II) (X : Cx) (sco : Scope) (tg a : Expr), XOk X T cA G k → X.env.scope = sco → cI T X.N it sco tg a = true → PI X tg a (SI ⟨X.K, cA, T.cF⟩ fun env => evI G env it) ∧ ∀ x, foldedSetIterable a X.env x = pure x
  | .ofE e, X, sco, tg, a, O, hs, h => by
    simp only [cI, Bool.and_eq_true] at h
    exact ⟨PI.fc (si_ofE (sE e X sco _ O hs h.2).1) fun env => by simp only [evI] <;> rfl, folded_of h.1⟩
  | .rng1 e, X, sco, tg, a, O, hs, h => by
    simp only [cI] at h
    split at h <;> try (cases h; done)
    simp only [Bool.and_eq_true, decide_eq_true_eq] at h
    obtain ⟨⟨⟨h1, h2⟩, h3⟩, h4⟩ := h
    obtain ⟨q1, q2⟩ := bltB_ok O hs h2
    exact ⟨PI.fc (si_rng1 h1 q1 q2 h3 (sE e X sco _ O hs h4).1) fun env => by simp only [evI] <;> rfl, fun x => rfl⟩
  | .rng2 e f, X, sco, tg, a, O, hs, h => by
    simp only [cI] at h
    split at h <;> try (cases h; done)
    simp only [Bool.and_eq_true, decide_eq_true_eq] at h
    obtain ⟨⟨⟨⟨⟨h1, h2⟩, h3⟩, h4⟩, h5⟩, h6⟩ := h
    obtain ⟨q1, q2⟩ := bltB_ok O hs h2
    exact ⟨PI.fc (si_rng2 h1 q1 q2 h3 h4 (sE e X sco _ O hs h5).1 (sE f X sco _ O hs h6).1) fun env => by simp only [evI] <;> rfl, fun x => rfl⟩
  | .zip e f, X, sco, tg, a, O, hs, h => by
    simp only [cI] at h
    split at h <;> try (cases h; done)
    simp only [Bool.and_eq_true, decide_eq_true_eq] at h
    obtain ⟨⟨⟨⟨⟨⟨h1, h2⟩, h3⟩, h4⟩, h5⟩, h6⟩, h7⟩ := h
    obtain ⟨q1, q2⟩ := bltB_ok O hs h2
    cases tg <;> simp only [Bool.false_eq_true] at h7
    exact ⟨PI.fc (si_zip h1 q1 q2 h3 h4 (sE e X sco _ O hs h5).1 (sE f X sco _ O hs h6).1) fun env => by simp only [evI] <;> rfl, fun x => rfl⟩
  | .enm e, X, sco, tg, a, O, hs, h => by
    simp only [cI] at h
    split at h <;> try (cases h; done)
    simp only [Bool.and_eq_true, decide_eq_true_eq] at h
    obtain ⟨⟨⟨⟨h1, h2⟩, h3⟩, h4⟩, h7⟩ := h
    obtain ⟨q1, q2⟩ := bltB_ok O hs h2
    cases tg <;> simp only [Bool.false_eq_true] at h7
    exact ⟨PI.fc (si_enm h1 q1 q2 h3 (sE e X sco _ O hs h4).1) fun env => by simp only [evI] <;> rfl, fun x => rfl⟩
end
end
end Ix
set_option Elab.async false
set_option linter.all false
set_option maxRecDepth 100000
set_option maxHeartbeats 8000000
namespace Ix
open PySem PySem.Spec PyProof.Rows L2

/-! ### statements: the checker -/
def noLc : Expr → Bool
  | .ListComp .. => false | .SetComp .. => false | .DictComp .. => false
  | _ => true
def isLc : Expr → Bool
  | .ListComp .. => true
  | _ => false
def noTu : Expr → Bool
  | .Tuple .. => false
  | _ => true
def allF : Str → Bool := fun _ => true
def swB (sc : Scope) (y : Str) (py : Pos) : Expr → Bool
  | .ListComp _ _ scope pos => (match sc.names.lookup y with | some .local => true | _ => false) && (py.line == pos.line) && !(scope.names.any fun (n, k) => n == y && (k == .local || k == .cell))
  | _ => false
mutual
def cS (T : Tab) (N : List Str) : IS → Scope → Stmt → Bool
  | .set i e => fun sc st => match st with
    | .Assign [.Name x p] v _ => decide (N[i]? = some x) && stB sc allF x && cE T N e sc v && (noLc v || isLc v)
    | _ => false
  | .setT is e => fun sc st => match st with
    | .Assign [.Tuple es _ _] v _ => cNs N sc allF is es && noTu v && cE T N e sc v
    | _ => false
  | .par _ _ => fun _ _ => false
  | .put i k e => fun sc st => match st with
    | .Assign [.Subscript (.Name x _) k' _] v _ => decide (N[i]? = some x) && vsB sc x && okIx k' && cE T N k sc k' && cE T N e sc v
    | _ => false
  | .aug i e => fun sc st => match st with
    | .AugAssign (.Name x _) .Add v _ => decide (N[i]? = some x) && stB sc allF x && cE T N e sc v
    | _ => false
  | .app i e => fun sc st => match st with
    | .Expr (.Call (.Attribute (.Name x _) m apos) [v] [] cpos) _ => decide (N[i]? = some x) && vsB sc x && decide (m = "append") && okE v && (apos.endLine == cpos.line) && cE T N e sc v
    | _ => false
  | .ext i e => fun sc st => match st with
    | .Expr (.Call (.Attribute (.Name x _) m apos) [v] [] cpos) _ => decide (N[i]? = some x) && vsB sc x && decide (m = "extend") && okE v && (apos.endLine == cpos.line) && cE T N e sc v
    | _ => false
  | .clr i => fun sc st => match st with
    | .Expr (.Call (.Attribute (.Name x _) m apos) [] [] cpos) _ => decide (N[i]? = some x) && vsB sc x && decide (m = "clear") && (apos.endLine == cpos.line)
    | _ => false
  | .expr e => fun sc st => match st with | .Expr v _ => noLc v && cE T N e sc v | _ => false
  | .ret e => fun sc st => match st with | .Return (some v) _ => cE T N e sc v | _ => false
  | .retT es => fun sc st => match st with | .Return (some (.Tuple vs _ _)) _ => decide (vs.length ≤ 1000) && cEs T N es sc vs | _ => false
  | .retN => fun _ st => match st with | .Return none _ => true | _ => false
  | .ifs c a b => fun sc st => match st with | .If c' a' b' _ => cE T N c sc c' && okT c' && cSs T N a sc a' && cSs T N b sc b' | _ => false
  | .for_ tg it b => fun sc st => match st with | .For tgE iter body [] _ => cI T N it sc tgE iter && cTg N sc allF tg tgE && cSs T N b sc body | _ => false
  | .while_ c b => fun sc st => match st with | .While c' body [] _ => cE T N c sc c' && okT c' && cSs T N b sc body | _ => false
  | .cont => fun _ st => match st with | .Continue _ => true | _ => false
  | .brk => fun _ st => match st with | .Break _ => true | _ => false
  | .pass => fun _ st => match st with | .Pass _ => true | _ => false
  | .never => fun _ _ => true
def cSs (T : Tab) (N : List Str) : ISs → Scope → List Stmt → Bool
  | .nil => fun _ l => match l with | [] => true | _ => false
  | .cons s r => fun sc l => match l with | st :: sts => cS T N s sc st && cSs T N r sc sts | _ => false
end
theorem swaps_not {v : Expr} (h : noLc v = true) (t : Option Expr) (l : Nat) (env : PySem.Env) : swapsWith v t l env = pure false := by
  cases v <;> first | rfl | (simp [noLc] at h)
theorem swaps_lc {elt : Expr} {gs : List Comprehension} {scope : Scope} {pos py : Pos} {y : Str} {l : Nat} {env : PySem.Env} (hk : env.scope.kind = .function) : swapsWith (.ListComp elt gs scope pos) (some (.Name y py)) l env = pure (swB env.scope y py (.ListComp elt gs scope pos)) := by
  have hb : env.blockKind = .function := by unfold Env.blockKind; rw [hk]; rfl
  unfold swapsWith swB
  simp only [hb, Env.kindOf]
  have e : (env.scope.names.lookup y == some NameKind.local) = (match env.scope.names.lookup y with | some .local => true | _ => false) := by
    cases h : env.scope.names.lookup y with
    | none => rfl
    | some z => cases z <;> rfl
  rw [e]
  have e2 : (Expr.ListComp elt gs scope pos).pos = pos := rfl
  rw [e2]
  simp

section
variable {T : Tab} {cA : Nat → Addr} {G : Orc} {k : Nat}
theorem s_set {i : Nat} {e : IE} {X : Cx} {sco : Scope} {x : Str} {p pos : Pos} {v : Expr} (O : XOk X T cA G k) (hk : X.env.scope.kind = .function) (hs : X.env.scope = sco) (hf : ∀ x, X.fn x = true) (hN : X.N[i]? = some x) (hst : stB sco allF x = true) (h : cE T X.N e sco v = true) (hv : (noLc v || isLc v) = true) :
    PS X (.Assign [.Name x p] v pos) (SS ⟨X.K, cA, T.cF⟩ fun env => (ev G env e).bind fun x => if i < env.length then some (.nx ((env.drp x.2.al).set i (some (x.1, x.2.ow)))) else none) := by
  obtain ⟨q1, q2⟩ := stB_ok hs (fun x _ => hf x) hst
  rw [Bool.or_eq_true] at hv
  rcases hv with hv | hv
  · exact ss_set O.nd hN q1 q2 (sE e X sco _ O hs h).1 (swaps_not hv _ _ _)
  · cases v <;> simp only [isLc, Bool.false_eq_true] at hv
    rename_i elt' gs scope lpos
    cases hb : swB sco x p (.ListComp elt' gs scope lpos) with
    | false =>
      refine ss_set O.nd hN q1 q2 (sE e X sco _ O hs h).1 ?_
      rw [swaps_lc hk, hs, hb]
    | true =>
      cases e <;> first | (simp only [cE] at h; cases h; done) | skip
      rename_i elt tg it ifs own
      simp only [cE] at h
      split at h <;> try (cases h; done)
      rename_i hq
      cases hq
      simp only [Bool.and_eq_true] at h
      obtain ⟨⟨⟨⟨⟨h1, h2⟩, h3⟩, h4⟩, h5⟩, h6⟩ := h
      obtain ⟨i1, i2⟩ := sI it X sco _ _ O hs h1
      have hown : ∀ {N : List Str}, (own.map fun i => (N.getD i "", i)).map (·.2) = own := own_map
      have hsc : ∀ (s : Shared) (H : Hp) (C : Addr) (cl : List (Str × Addr)) (fp : List Addr) (scope : Scope), (X.blk s H scope (compEnvC scope cl C X.env) fp).env.scope = relS scope sco := fun s H C cl fp scope => by
        rw [← hs]; rfl
      have hlo : X.env.scope.names.lookup x = some .local := by
        rw [hs]
        unfold swB at hb
        simp only [Bool.and_eq_true] at hb
        have := hb.1.1
        split at this
        · assumption
        · cases this
      have hsl : ∀ i ∈ tg.slots, i ∈ (own.map fun i => (X.N.getD i "", i)).map (·.2) := by
        rw [hown]
        intro i hi
        have := List.all_eq_true.mp h3 i hi
        simpa using this
      have hA := ps_setLc (g := gT X.K tg) (own := own.map fun i => (X.N.getD i "", i)) (te := SE ⟨X.K, cA, T.cF⟩ fun env => ev G env elt) (tt := SC ⟨X.K, cA, T.cF⟩ fun env => evC G env ifs) (pos := lpos) (spos := pos) (py := p) (scope := scope) O.calm O.nd hN hlo (by rw [swaps_lc hk, hs, hb]) i1 (blkOk_by (by rw [hs]; exact h2))
        (fun s H C cl fp => cTg_ok (X := X.blk s H _ (compEnvC _ cl C X.env) fp) (hsc s H C cl fp _) (fun x z => z) O.nd O.calm h4)
        (fun s H C cl fp => sC ifs (X.blk s H _ (compEnvC _ cl C X.env) fp) _ _ O.blk (hsc s H C cl fp _) h5)
        (fun s H C cl fp => (sE elt (X.blk s H _ (compEnvC _ cl C X.env) fp) _ _ O.blk (hsc s H C cl fp _) h6).1) i2
      refine PS.weak hA fun D σ H q => set_read (cA := cA) (cF := T.cF) (lc_run (X := X) (cA := cA) (cF := T.cF) (iter := elt') (scope := X.env.scope) hsl) D σ H ?_
      · have ef : (fun env => ev G env (.comp elt tg it ifs own)) = fun env => (evI G env it).bind fun p => match p.2.1 with
          | [] => if p.1.length ≤ szb then (compL (fun d => (bindT tg d (((own.map fun i => (X.N.getD i "", i)).map (·.2)).foldl (fun e i => e.set i none) env)).bind fun e => (evC G e ifs).bind fun k =>
            if k then (ev G e elt).map some else some none) p.1).map fun q => (.lst q.1, .own .top q.2) else none
          | _ => none := funext fun env => by simp only [ev, hown] <;> rfl
        have e2 : (fun env => (ev G env (.comp elt tg it ifs own)).bind fun x => if i < env.length then some (Out.nx ((env.drp x.2.al).set i (some (x.1, x.2.ow)))) else none) = fun env => ((fun env => ev G env (.comp elt tg it ifs own)) env).bind fun x => if i < env.length then some (Out.nx ((env.drp x.2.al).set i (some (x.1, x.2.ow)))) else none := rfl
        rw [e2, ef] at q
        exact q
section
variable {X : Cx} {sco : Scope} {st : Stmt}
theorem sS_set {i : Nat} {e : IE} (O : XOk X T cA G k) (hk : X.env.scope.kind = .function) (hs : X.env.scope = sco) (hf : ∀ x, X.fn x = true) (hx : X.xe = fun _ _ => False) (h : cS T X.N (.set i e) sco st = true) : PS X st (SS ⟨X.K, cA, T.cF⟩ fun env => ex G env (.set i e)) := by
    simp only [cS] at h
    split at h <;> try (cases h; done)
    simp only [Bool.and_eq_true, decide_eq_true_eq] at h
    obtain ⟨⟨⟨h1, h2⟩, h3⟩, h4⟩ := h
    have e1 : (fun env => ex G env (.set i e)) = _ := funext fun env => by simp only [ex] <;> rfl
    rw [e1]
    exact s_set O hk hs hf h1 h2 h3 h4
theorem sS_setT {is : List Nat} {e : IE} (O : XOk X T cA G k) (hk : X.env.scope.kind = .function) (hs : X.env.scope = sco) (hf : ∀ x, X.fn x = true) (hx : X.xe = fun _ _ => False) (h : cS T X.N (.setT is e) sco st = true) : PS X st (SS ⟨X.K, cA, T.cF⟩ fun env => ex G env (.setT is e)) := by
    simp only [cS] at h
    split at h <;> try (cases h; done)
    simp only [Bool.and_eq_true] at h
    obtain ⟨⟨h1, h2⟩, h3⟩ := h
    obtain ⟨k1, k2, k3⟩ := cNs_ok hs (fun x _ => hf x) O.nd h1
    have e1 : (fun env => ex G env (.setT is e)) = _ := funext fun env => by simp only [ex] <;> rfl
    rw [e1]
    refine ss_setT (pg_tup O.calm k1 k2 k3) (sE e X sco _ O hs h3).1 ?_ ?_ rfl
    · rename_i v _
      cases v <;> rfl
    · rename_i v _
      cases v <;> first | rfl | (simp [noTu] at h2)
theorem sS_put {i : Nat} {kk : IE} {e : IE} (O : XOk X T cA G k) (hk : X.env.scope.kind = .function) (hs : X.env.scope = sco) (hf : ∀ x, X.fn x = true) (hx : X.xe = fun _ _ => False) (h : cS T X.N (.put i kk e) sco st = true) : PS X st (SS ⟨X.K, cA, T.cF⟩ fun env => ex G env (.put i kk e)) := by
    simp only [cS] at h
    split at h <;> try (cases h; done)
    simp only [Bool.and_eq_true, decide_eq_true_eq] at h
    obtain ⟨⟨⟨⟨h1, h2⟩, h3⟩, h4⟩, h5⟩ := h
    obtain ⟨q1, q2, q3⟩ := vsB_ok hs h2
    have e1 : (fun env => ex G env (.put i kk e)) = _ := funext fun env => by simp only [ex] <;> rfl
    rw [e1]
    refine ss_put O.u (pe_var h1 q1 q2 q3) (sE kk X sco _ O hs h4).1 (sE e X sco _ O hs h5).1 ?_ ?_ rfl rfl
    · intro v
      rename_i k' _ _ _
      cases k' <;> first | rfl | (simp [okIx] at h3)
    · rename_i v _
      cases v <;> rfl
theorem sS_aug {i : Nat} {e : IE} (O : XOk X T cA G k) (hk : X.env.scope.kind = .function) (hs : X.env.scope = sco) (hf : ∀ x, X.fn x = true) (hx : X.xe = fun _ _ => False) (h : cS T X.N (.aug i e) sco st = true) : PS X st (SS ⟨X.K, cA, T.cF⟩ fun env => ex G env (.aug i e)) := by
    simp only [cS] at h
    split at h <;> try (cases h; done)
    simp only [Bool.and_eq_true, decide_eq_true_eq] at h
    obtain ⟨⟨h1, h2⟩, h3⟩ := h
    obtain ⟨q1, q2⟩ := stB_ok hs (fun x _ => hf x) h2
    have e1 : (fun env => ex G env (.aug i e)) = _ := funext fun env => by simp only [ex] <;> rfl
    rw [e1]
    exact ss_aug O.nd h1 q1 q2 (sE e X sco _ O hs h3).1
theorem sS_app {i : Nat} {e : IE} (O : XOk X T cA G k) (hk : X.env.scope.kind = .function) (hs : X.env.scope = sco) (hf : ∀ x, X.fn x = true) (hx : X.xe = fun _ _ => False) (h : cS T X.N (.app i e) sco st = true) : PS X st (SS ⟨X.K, cA, T.cF⟩ fun env => ex G env (.app i e)) := by
    simp only [cS] at h
    split at h <;> try (cases h; done)
    simp only [Bool.and_eq_true, decide_eq_true_eq] at h
    obtain ⟨⟨⟨⟨⟨h1, h2⟩, h3⟩, h4⟩, h5⟩, h6⟩ := h
    obtain ⟨q1, q2, q3⟩ := vsB_ok hs h2
    subst h3
    have e1 : (fun env => ex G env (.app i e)) = _ := funext fun env => by simp only [ex] <;> rfl
    rw [e1]
    exact ss_app (pe_var h1 q1 q2 q3) h4 h5 (sE e X sco _ O hs h6).1
theorem sS_ext {i : Nat} {e : IE} (O : XOk X T cA G k) (hk : X.env.scope.kind = .function) (hs : X.env.scope = sco) (hf : ∀ x, X.fn x = true) (hx : X.xe = fun _ _ => False) (h : cS T X.N (.ext i e) sco st = true) : PS X st (SS ⟨X.K, cA, T.cF⟩ fun env => ex G env (.ext i e)) := by
    simp only [cS] at h
    split at h <;> try (cases h; done)
    simp only [Bool.and_eq_true, decide_eq_true_eq] at h
    obtain ⟨⟨⟨⟨⟨h1, h2⟩, h3⟩, h4⟩, h5⟩, h6⟩ := h
    obtain ⟨q1, q2, q3⟩ := vsB_ok hs h2
    subst h3
    have e1 : (fun env => ex G env (.ext i e)) = _ := funext fun env => by simp only [ex] <;> rfl
    rw [e1]
    exact ss_ext (pe_var h1 q1 q2 q3) h4 h5 (sE e X sco _ O hs h6).1
theorem sS_clr {i : Nat} (O : XOk X T cA G k) (hk : X.env.scope.kind = .function) (hs : X.env.scope = sco) (hf : ∀ x, X.fn x = true) (hx : X.xe = fun _ _ => False) (h : cS T X.N (.clr i) sco st = true) : PS X st (SS ⟨X.K, cA, T.cF⟩ fun env => ex G env (.clr i)) := by
    simp only [cS] at h
    split at h <;> try (cases h; done)
    simp only [Bool.and_eq_true, decide_eq_true_eq] at h
    obtain ⟨⟨⟨h1, h2⟩, h3⟩, h4⟩ := h
    obtain ⟨q1, q2, q3⟩ := vsB_ok hs h2
    subst h3
    have e1 : (fun env => ex G env (.clr i)) = _ := funext fun env => by simp only [ex] <;> rfl
    rw [e1]
    exact ss_clr (pe_var h1 q1 q2 q3) h4
theorem sS_expr {e : IE} (O : XOk X T cA G k) (hk : X.env.scope.kind = .function) (hs : X.env.scope = sco) (hf : ∀ x, X.fn x = true) (hx : X.xe = fun _ _ => False) (h : cS T X.N (.expr e) sco st = true) : PS X st (SS ⟨X.K, cA, T.cF⟩ fun env => ex G env (.expr e)) := by
    simp only [cS] at h
    split at h <;> try (cases h; done)
    simp only [Bool.and_eq_true] at h
    have e1 : (fun env => ex G env (.expr e)) = _ := funext fun env => by simp only [ex] <;> rfl
    rw [e1]
    exact ss_expr (sE e X sco _ O hs h.2).1 (swaps_not h.1 _ _ _)
theorem sS_ret {e : IE} (O : XOk X T cA G k) (hk : X.env.scope.kind = .function) (hs : X.env.scope = sco) (hf : ∀ x, X.fn x = true) (hx : X.xe = fun _ _ => False) (h : cS T X.N (.ret e) sco st = true) : PS X st (SS ⟨X.K, cA, T.cF⟩ fun env => ex G env (.ret e)) := by
    simp only [cS] at h
    split at h <;> try (cases h; done)
    have e1 : (fun env => ex G env (.ret e)) = _ := funext fun env => by simp only [ex] <;> rfl
    rw [e1]
    exact ss_ret (sE e X sco _ O hs h).1
theorem sS_retT {es : IEs} (O : XOk X T cA G k) (hk : X.env.scope.kind = .function) (hs : X.env.scope = sco) (hf : ∀ x, X.fn x = true) (hx : X.xe = fun _ _ => False) (h : cS T X.N (.retT es) sco st = true) : PS X st (SS ⟨X.K, cA, T.cF⟩ fun env => ex G env (.retT es)) := by
    simp only [cS] at h
    split at h <;> try (cases h; done)
    simp only [Bool.and_eq_true, decide_eq_true_eq] at h
    have e1 : (fun env => ex G env (.retT es)) = _ := funext fun env => by simp only [ex] <;> rfl
    rw [e1]
    exact ss_retT (sEs es X sco _ O hs h.2) fun env rs er => by rw [evs_len h.2 er]; exact h.1
theorem sS_retN  (O : XOk X T cA G k) (hk : X.env.scope.kind = .function) (hs : X.env.scope = sco) (hf : ∀ x, X.fn x = true) (hx : X.xe = fun _ _ => False) (h : cS T X.N (.retN) sco st = true) : PS X st (SS ⟨X.K, cA, T.cF⟩ fun env => ex G env (.retN)) := by
    simp only [cS] at h
    split at h <;> try (cases h; done)
    have e1 : (fun env => ex G env .retN) = _ := funext fun env => by simp only [ex] <;> rfl
    rw [e1]
    exact ss_retN
theorem sS_cont  (O : XOk X T cA G k) (hk : X.env.scope.kind = .function) (hs : X.env.scope = sco) (hf : ∀ x, X.fn x = true) (hx : X.xe = fun _ _ => False) (h : cS T X.N (.cont) sco st = true) : PS X st (SS ⟨X.K, cA, T.cF⟩ fun env => ex G env (.cont)) := by
    simp only [cS] at h
    split at h <;> try (cases h; done)
    have e1 : (fun env => ex G env .cont) = _ := funext fun env => by simp only [ex] <;> rfl
    rw [e1]
    exact ss_cont
theorem sS_brk  (O : XOk X T cA G k) (hk : X.env.scope.kind = .function) (hs : X.env.scope = sco) (hf : ∀ x, X.fn x = true) (hx : X.xe = fun _ _ => False) (h : cS T X.N (.brk) sco st = true) : PS X st (SS ⟨X.K, cA, T.cF⟩ fun env => ex G env (.brk)) := by
    simp only [cS] at h
    split at h <;> try (cases h; done)
    have e1 : (fun env => ex G env .brk) = _ := funext fun env => by simp only [ex] <;> rfl
    rw [e1]
    exact ss_brk
theorem sS_pass  (O : XOk X T cA G k) (hk : X.env.scope.kind = .function) (hs : X.env.scope = sco) (hf : ∀ x, X.fn x = true) (hx : X.xe = fun _ _ => False) (h : cS T X.N (.pass) sco st = true) : PS X st (SS ⟨X.K, cA, T.cF⟩ fun env => ex G env (.pass)) := by
    simp only [cS] at h
    split at h <;> try (cases h; done)
    have e1 : (fun env => ex G env .pass) = _ := funext fun env => by simp only [ex] <;> rfl
    rw [e1]
    exact ss_pass
theorem sS_never  (O : XOk X T cA G k) (hk : X.env.scope.kind = .function) (hs : X.env.scope = sco) (hf : ∀ x, X.fn x = true) (hx : X.xe = fun _ _ => False) (h : cS T X.N (.never) sco st = true) : PS X st (SS ⟨X.K, cA, T.cF⟩ fun env => ex G env (.never)) := by
    have e1 : (fun env => ex G env .never) = fun _ => none := funext fun env => by simp only [ex]
    rw [e1]
    exact ss_never
theorem sS_ifs {c : IE} {a b : ISs} (O : XOk X T cA G k) (hk : X.env.scope.kind = .function) (hs : X.env.scope = sco) (hf : ∀ x, X.fn x = true) (hx : X.xe = fun _ _ => False) (ha : ∀ l, cSs T X.N a sco l = true → PSs X l (SS ⟨X.K, cA, T.cF⟩ fun env => exs G env a)) (hb : ∀ l, cSs T X.N b sco l = true → PSs X l (SS ⟨X.K, cA, T.cF⟩ fun env => exs G env b)) (h : cS T X.N (.ifs c a b) sco st = true) : PS X st (SS ⟨X.K, cA, T.cF⟩ fun env => ex G env (.ifs c a b)) := by
    simp only [cS] at h
    split at h <;> try (cases h; done)
    simp only [Bool.and_eq_true] at h
    obtain ⟨⟨⟨h1, h2⟩, h3⟩, h4⟩ := h
    have e1 : (fun env => ex G env (.ifs c a b)) = _ := funext fun env => by simp only [ex, evT] <;> rfl
    rw [e1]
    exact ss_ifs ((sE c X sco _ O hs h1).2 h2) (ha _ h3) (hb _ h4)
theorem sS_for_ {tg : Tg} {it : II} {b : ISs} (O : XOk X T cA G k) (hk : X.env.scope.kind = .function) (hs : X.env.scope = sco) (hf : ∀ x, X.fn x = true) (hx : X.xe = fun _ _ => False) (hb : ∀ l, cSs T X.N b sco l = true → PSs X l (SS ⟨X.K, cA, T.cF⟩ fun env => exs G env b)) (h : cS T X.N (.for_ tg it b) sco st = true) : PS X st (SS ⟨X.K, cA, T.cF⟩ fun env => ex G env (.for_ tg it b)) := by
    simp only [cS] at h
    split at h <;> try (cases h; done)
    simp only [Bool.and_eq_true] at h
    obtain ⟨⟨h1, h2⟩, h3⟩ := h
    obtain ⟨i1, i2⟩ := sI it X sco _ _ O hs h1
    have e1 : (fun env => ex G env (.for_ tg it b)) = _ := funext fun env => by simp only [ex] <;> rfl
    rw [e1]
    exact ss_for (by rw [hx]; exact PassesOwn.never) O.calm i1 (cTg_ok hs (fun x _ => hf x) O.nd O.calm h2) (hb _ h3) i2
theorem sS_while_ {c : IE} {b : ISs} (O : XOk X T cA G k) (hk : X.env.scope.kind = .function) (hs : X.env.scope = sco) (hf : ∀ x, X.fn x = true) (hx : X.xe = fun _ _ => False) (hb : ∀ l, cSs T X.N b sco l = true → PSs X l (SS ⟨X.K, cA, T.cF⟩ fun env => exs G env b)) (h : cS T X.N (.while_ c b) sco st = true) : PS X st (SS ⟨X.K, cA, T.cF⟩ fun env => ex G env (.while_ c b)) := by
    simp only [cS] at h
    split at h <;> try (cases h; done)
    simp only [Bool.and_eq_true] at h
    obtain ⟨⟨h1, h2⟩, h3⟩ := h
    have e1 : (fun env => ex G env (.while_ c b)) = fun env => whileL (fun e => (ev G e c).bind blOf) (fun e => exs G e b) turns env := funext fun env => by simp only [ex, evT]
    rw [e1]
    exact ss_while (by rw [hx]; exact PassesOwn.never) ((sE c X sco _ O hs h1).2 h2) (hb _ h3)
end
theorem sSs_nil {X : Cx} {sco : Scope} {l : List Stmt} (h : cSs T X.N .nil sco l = true) : PSs X l (SS ⟨X.K, cA, T.cF⟩ fun env => exs G env .nil) := by
  simp only [cSs] at h
  split at h <;> try (cases h; done)
  have e1 : (fun env => exs G env .nil) = _ := funext fun env => by simp only [exs] <;> rfl
  rw [e1]
  exact ss_nil
theorem sSs_cons {X : Cx} {sco : Scope} {l : List Stmt} {s : IS} {r : ISs} (h1 : ∀ st, cS T X.N s sco st = true → PS X st (SS ⟨X.K, cA, T.cF⟩ fun env => ex G env s)) (h2 : ∀ l, cSs T X.N r sco l = true → PSs X l (SS ⟨X.K, cA, T.cF⟩ fun env => exs G env r)) (h : cSs T X.N (.cons s r) sco l = true) : PSs X l (SS ⟨X.K, cA, T.cF⟩ fun env => exs G env (.cons s r)) := by
  simp only [cSs] at h
  split at h <;> try (cases h; done)
  rw [Bool.and_eq_true] at h
  have e1 : (fun env => exs G env (.cons s r)) = _ := funext fun env => by simp only [exs] <;> rfl
  rw [e1]
  exact ss_cons (h1 _ h.1) (h2 _ h.2)
variable (T cA G k) in
def MS (s : IS) : Prop := ∀ (X : Cx) (sco : Scope) (st : Stmt), XOk X T cA G k → X.env.scope.kind = .function → X.env.scope = sco → (∀ x, X.fn x = true) → (X.xe = fun _ _ => False) → cS T X.N s sco st = true → PS X st (SS ⟨X.K, cA, T.cF⟩ fun env => ex G env s)
variable (T cA G k) in
def MSs (s : ISs) : Prop := ∀ (X : Cx) (sco : Scope) (l : List Stmt), XOk X T cA G k → X.env.scope.kind = .function → X.env.scope = sco → (∀ x, X.fn x = true) → (X.xe = fun _ _ => False) → cSs T X.N s sco l = true → PSs X l (SS ⟨X.K, cA, T.cF⟩ fun env => exs G env s)
theorem sSs : ∀ s : ISs, MSs T cA G k s := by
  intro s
  refine ISs.rec (motive_1 := MS T cA G k) (motive_2 := MSs T cA G k) ?_ ?_ ?_ ?_ ?_ ?_ ?_ ?_ ?_ ?_ ?_ ?_ ?_ ?_ ?_ ?_ ?_ ?_ ?_ ?_ ?_ s
  · exact fun i e X sco st O hk hs hf hx h => sS_set O hk hs hf hx h
  · exact fun is e X sco st O hk hs hf hx h => sS_setT O hk hs hf hx h
  · exact fun is es X sco st O hk hs hf hx h => absurd h (by simp [cS])
  · exact fun i kk e X sco st O hk hs hf hx h => sS_put O hk hs hf hx h
  · exact fun i e X sco st O hk hs hf hx h => sS_aug O hk hs hf hx h
  · exact fun i e X sco st O hk hs hf hx h => sS_app O hk hs hf hx h
  · exact fun i e X sco st O hk hs hf hx h => sS_ext O hk hs hf hx h
  · exact fun i X sco st O hk hs hf hx h => sS_clr O hk hs hf hx h
  · exact fun e X sco st O hk hs hf hx h => sS_expr O hk hs hf hx h
  · exact fun e X sco st O hk hs hf hx h => sS_ret O hk hs hf hx h
  · exact fun es X sco st O hk hs hf hx h => sS_retT O hk hs hf hx h
  · exact fun X sco st O hk hs hf hx h => sS_retN O hk hs hf hx h
  · exact fun c a b ha hb X sco st O hk hs hf hx h => sS_ifs O hk hs hf hx (fun l h => ha X sco l O hk hs hf hx h) (fun l h => hb X sco l O hk hs hf hx h) h
  · exact fun tg it b hb X sco st O hk hs hf hx h => sS_for_ O hk hs hf hx (fun l h => hb X sco l O hk hs hf hx h) h
  · exact fun c b hb X sco st O hk hs hf hx h => sS_while_ O hk hs hf hx (fun l h => hb X sco l O hk hs hf hx h) h
  · exact fun X sco st O hk hs hf hx h => sS_cont O hk hs hf hx h
  · exact fun X sco st O hk hs hf hx h => sS_brk O hk hs hf hx h
  · exact fun X sco st O hk hs hf hx h => sS_pass O hk hs hf hx h
  · exact fun X sco st O hk hs hf hx h => sS_never O hk hs hf hx h
  · exact fun X sco l O hk hs hf hx h => sSs_nil h
  · exact fun s r h1 h2 X sco l O hk hs hf hx h => sSs_cons (fun st h => h1 X sco st O hk hs hf hx h) (fun l h => h2 X sco l O hk hs hf hx h) h
end
end Ix
set_option Elab.async false
set_option linter.all false
set_option maxRecDepth 100000
set_option maxHeartbeats 8000000
namespace Ix
open PySem PySem.Spec PyProof.Rows L2

/-! ### defs -/
structure FD where
  nm : Str
  N : List Str
  ps : List Str
  body : ISs
noncomputable def runF (G : Orc) (F : FD) (ds : List D) : Option (D × Ow) := if ds.length = F.ps.length then
  (exs G (ds.map (fun d => some (d, .no)) ++ List.replicate (F.N.length - ds.length) none) F.body).bind fun o => match o with
    | .rt d o => some (d, o)
    | .nx _ => some (.non, .no)
    | _ => none
  else none
/-- the def's text st is F -/
def okF (T : Tab) (F : FD) (st : Stmt) : Bool := (match (defScope st).kind with | .function => true | _ => false) && !(defScope st).isCoroutine && !(defScope st).isGenerator && decide F.N.Nodup && decide (F.N.take F.ps.length = F.ps) && decide (F.ps.length ≤ F.N.length) &&
  (F.ps.all fun x => match (defScope st).names.lookup x with | some .local => true | some .cell => true | _ => false) && ((defScope st).names.all fun y => match y.2 with | .free => false | _ => true) && cSs T F.N F.body (defScope st) (defBody st)
/-- what is known of the world in which the defs run -/
structure WOk (P : Program) (w : World) (K : PySem.W.Frag) (mg : Str → Option Value) (base : Heap) (T : Tab) (cA : Nat → Addr) (G : Orc) (k : Nat) : Prop where
  call : ∀ f ds r, G.call f ds = some r → ∃ a fd ps, FnOk P w K mg base CX0 k a fd ps (spF ⟨K, cA, T.cF⟩ (G.call f)) ∧ mg (T.fn f) = some (.ref a) ∧ PySem.W.keepIn K (.ref a) = true ∧ Binds K fd ps []
  make : ∀ c ds r, G.make c ds = some r → ∃ a fd ps du dv dd g, Mk K (cA c) a ∧ FnOk P w K mg base CX0 k a fd ps (spI ⟨K, cA, T.cF⟩ c g) ∧ mg (T.cls c) = some (.ref (cA c)) ∧ Binds K fd ps du ∧ Vals dv du ∧ (∀ S, RepL ⟨K, cA, T.cF⟩ S dv dd) ∧ ∀ ds, G.make c ds = g (ds ++ dd)
  meth : ∀ m c ds r, G.meth c m ds = some r → ∃ f fd ps, Cls K (cA c) ∧ Meth K (cA c) (T.mth m) f ∧ (T.cF c).contains (T.mth m) = false ∧ Binds K fd ps [] ∧ FnOk P w K mg base CX0 k f fd ps (spF ⟨K, cA, T.cF⟩ (G.meth c m))
  sub : ∀ c c' b, G.sub c c' = some b → mg (T.cls c') = some (.ref (cA c')) ∧ (∀ X : Cx, X.K = K → ClsT X cA c) ∧ PySem.W.kitOne K (.ref (cA c)) (.ref (cA c')) = some b
  fld : ∀ c j x, (T.cF c)[j]? = some x → ∀ X : Cx, X.K = K → FOk X cA T.cF c j x
  blt : ∀ x, T.blt.contains x = true → mg x = none
  key : ∀ x j, T.key x = some j → ∃ f, mg x = some (.ref f) ∧ KFn K f j
  con : ∀ x n, T.con x = some n → ∃ t, mg x = some (.int n t)
theorem WOk.x {P : Program} {w : World} {K : PySem.W.Frag} {mg : Str → Option Value} {base : Heap} {T : Tab} {cA : Nat → Addr} {G : Orc} {k : Nat} (W : WOk P w K mg base T cA G k) {X : Cx} (h1 : X.prog = P) (h2 : X.w = w) (h3 : X.K = K) (h4 : X.mg = mg) (h5 : X.base = base) (hc : X.calm = true) (hN : X.N.Nodup) (hr : Room (k + 2) X.A) : XOk X T cA G k := by
  subst h1 h2 h3 h4 h5
  exact ⟨hc, hN, hr, W.call, W.make, fun m c ds r e => W.meth m c ds r e, fun c c' b e => let ⟨a1, a2, a3⟩ := W.sub c c' b e; ⟨a1, a2 X rfl, a3⟩, fun c j x e => W.fld c j x e X rfl, W.blt, W.key, W.con⟩

theorem sta_start {L : Lk} {S H : Hp} {vs : List V} {ds : List D} {N : List Str} (hS : Same S H) (r : RepL L S vs ds) (hl : vs.length ≤ N.length) :
    Sta L ⟨S, H, fun _ => none, fun _ => none, fun _ _ => False⟩ S (List.replicate N.length []) H (start N vs) (ds.map (fun d => some (d, .no)) ++ List.replicate (N.length - ds.length) none) := by
  have hlen := r.length
  have hF : ∀ i, (List.replicate N.length ([] : List Addr)).getD i [] = [] := fun i => by
    rw [List.getD_eq_getElem?_getD, List.getElem?_replicate]
    split <;> rfl
  have hfl : ∀ a, a ∉ (List.replicate N.length ([] : List Addr)).flatten := fun a h => by
    obtain ⟨i, hi⟩ := mem_flat h
    rw [hF] at hi
    simp at hi
  refine ⟨⟨hS, fun a h => absurd h (hfl a), fun a h => absurd h (hfl a)⟩, ⟨?_, fun i d o e => ?_⟩, Same.refl _, fun a o e => ?_, fun _ _ h => (nomatch h), fun i j a h => ?_, fun a h => absurd h (hfl a), fun _ _ h => (nomatch h), fun i d o e a h => ?_, ?_⟩
  · simp [L2.start, hlen]
  · rw [hF]
    by_cases hi : i < ds.length
    · rw [List.getElem?_append_left (by simpa using hi), List.getElem?_map] at e
      obtain ⟨d', e1, e2⟩ := Option.map_eq_some_iff.mp e
      cases e2
      obtain ⟨v, h1, h2⟩ := r.get e1
      refine ⟨v, ?_, List.nodup_nil, .no h2⟩
      unfold L2.start
      rw [List.getElem?_append_left (by simpa [hlen] using hi), List.getElem?_map, h1]
      rfl
    · rw [List.getElem?_append_right (by simpa using Nat.le_of_not_lt hi), List.getElem?_replicate] at e
      split at e <;> cases e
  · rw [grow_old (hfl a) (hS _ _ e)]
    exact e
  · rw [hF] at h; simp at h
  · rw [hF] at h; simp at h
  · simp [← hlen]; omega
section
variable {P : Program} {w : World} {K : PySem.W.Frag} {mg : Str → Option Value} {base : Heap} {T : Tab} {cA : Nat → Addr} {G : Orc} {k : Nat}
theorem okF_scope {F : FD} {st : Stmt} (h : okF T F st = true) : FnScope F.N F.ps (defScope st) ∧ F.ps.length ≤ F.N.length ∧ cSs T F.N F.body (defScope st) (defBody st) = true := by
  unfold okF at h
  simp only [Bool.and_eq_true, decide_eq_true_eq, Bool.not_eq_true', List.all_eq_true] at h
  obtain ⟨⟨⟨⟨⟨⟨⟨⟨h1, h2⟩, h3⟩, h4⟩, h5⟩, h6⟩, h7⟩, h8⟩, h9⟩ := h
  refine ⟨⟨?_, h2, h3, h4, h5, fun x hx => ?_, fun y hy => ?_⟩, h6, h9⟩
  · split at h1
    · assumption
    · cases h1
  · have := h7 x hx
    split at this
    · left; assumption
    · right; assumption
    · cases this
  · have := h8 y hy
    intro e
    rw [e] at this
    cases this
theorem fn_ok {F : FD} {st : Stmt} {x qual : Str} {f : Addr} {fd : FuncData} (W : WOk P w K mg base T cA G k) (U : Fun K x qual st f fd) (h : okF T F st = true) : FnOk P w K mg base CX0 (k + 3) f fd F.ps (spF ⟨K, cA, T.cF⟩ (runF G F)) := by
  obtain ⟨hsc, hle, hcs⟩ := okF_scope h
  refine U.ok hsc (fun vs H Q E hsp => ?_) fun cdv A outer s H vs Q E hr hsp => ?_
  · obtain ⟨S, ds, r, hS, rl, eg, q⟩ := hsp
    unfold runF at eg
    split at eg
    · rename_i hl; rw [rl.length]; exact hl
    · cases eg
  · obtain ⟨S, ds, r, hS, rl, eg, q⟩ := hsp
    unfold runF at eg
    split at eg
    · rename_i hl
      obtain ⟨o, eo, er⟩ := Option.bind_eq_some_iff.mp eg
      have O : XOk (cxOf CX0 P w K mg base F.N qual (defScope st) f cdv A outer s H E).nox T cA G k := W.x rfl rfl rfl rfl rfl rfl hsc.nd hr
      refine ⟨_, sSs F.body (cxOf CX0 P w K mg base F.N qual (defScope st) f cdv A outer s H E).nox (defScope st) (defBody st) O hsc.kind rfl (fun _ => rfl) rfl hcs, ?_⟩
      refine ⟨_, S, _, _, o, sta_start hS rl (by rw [rl.length, hl]; exact hle), eo, ?_⟩
      cases o with
      | rt d o => cases er; exact fun v H' F' h1 h2 h3 h4 => q v H' F' h1 h2 h3 h4
      | nx e => cases er; exact fun S' Fs' H' σ' Y => q .non H' [] Y.old List.nodup_nil (by simp) (.no .non)
      | ct e => cases er
      | bk e => cases er
    · cases eg

/-! ### levels -/
noncomputable def orcOf (fns : Nat → Option FD) : Nat → Orc
  | 0 => ⟨fun _ _ => none, fun _ _ => none, fun _ _ _ => none, fun _ _ => none⟩
  | n + 1 => ⟨fun f ds => (fns f).bind fun F => runF (orcOf fns n) F ds, fun _ _ => none, fun _ _ _ => none, fun _ _ => none⟩
/-- where a def of the text stands -/
def FunAt (K : PySem.W.Frag) (mg : Str → Option Value) (x qual : Str) (st : Stmt) (ps : List Str) : Prop := ∃ f fd, mg x = some (.ref f) ∧ Fun K x qual st f fd ∧ ∀ us : List Value, us.length = ps.length → bindArgs fd ⟨us, []⟩ = pure (ps.zip us)
theorem world {fns : Nat → Option FD} (hfn : ∀ f F, fns f = some F → ∃ st, T.fn f = F.nm ∧ FunAt K mg F.nm F.nm st F.ps ∧ okF T F st = true) (hF : T.cF = fun _ => []) (hblt : ∀ x, T.blt.contains x = true → mg x = none)
    (hkey : ∀ x j, T.key x = some j → ∃ f, mg x = some (.ref f) ∧ KFn K f j) (hcon : ∀ x n, T.con x = some n → ∃ t, mg x = some (.int n t)) : ∀ n, WOk P w K mg base T cA (orcOf fns n) (3 * n)
  | 0 => ⟨fun f ds r e => (nomatch e), fun c ds r e => (nomatch e), fun m c ds r e => (nomatch e), fun c c' b e => (nomatch e), fun c j x e => by rw [hF] at e; simp at e, hblt, hkey, hcon⟩
  | n + 1 => by
    have ih := world hfn hF hblt hkey hcon n
    refine ⟨fun f ds r e => ?_, fun c ds r e => (nomatch e), fun m c ds r e => (nomatch e), fun c c' b e => (nomatch e), fun c j x e => by rw [hF] at e; simp at e, hblt, hkey, hcon⟩
    obtain ⟨F, e1, e2⟩ := Option.bind_eq_some_iff.mp (show (fns f).bind (fun F => runF (orcOf fns n) F ds) = some r from e)
    obtain ⟨st, h1, ⟨a, fd, h2, h3, h4⟩, h5⟩ := hfn f F e1
    refine ⟨a, fd, F.ps, ?_, by rw [h1]; exact h2, h3.kp, .all h4⟩
    have e3 : (orcOf fns (n + 1)).call f = runF (orcOf fns n) F := by
      funext ds
      show (fns f).bind (fun F => runF (orcOf fns n) F ds) = _
      rw [e1]
      rfl
    rw [e3]
    exact fn_ok ih h3 h5
end
theorem fun_at {K : PySem.W.Frag} {h : Heap} {mg : Str → Option Value} (X : K.In h) (G : h.Ns mainGlobals mg) {x : Str} {st : Stmt} {ps : List Str} {f : Addr} {oc : Value} {od an : Option Addr} {osl : Array (Option Value)} {kV doc pm cdv ct : Value}
    (hb : ∀ (kV doc pm : Value) (an : Option Addr) (cdv ct : Value) (us : List Value), us.length = ps.length → bindArgs (PySem.W.fnOf x x (defArgs st) (defBody st) (defScope st) .none kV doc pm an cdv ct) ⟨us, []⟩ = pure (ps.zip us))
    (a : PySem.W.nsIn K mainGlobals x = some (some (.ref f))) (l : K.lookup f = some ⟨oc, od, .func (PySem.W.fnOf x x (defArgs st) (defBody st) (defScope st) .none kV doc pm an cdv ct), osl⟩) (c : PySem.W.codeIn K cdv x = true) (k : PySem.W.keepIn K (.ref f) = true) : FunAt K mg x x st ps :=
  let F := fun_mk (st := st) l c k
  ⟨f, _, PySem.W.mg_of X G a, F, hb _ _ _ _ _ _⟩

theorem key_at {K : PySem.W.Frag} {h : Heap} {mg : Str → Option Value} (X : K.In h) (G : h.Ns mainGlobals mg) {x y : Str} {st : Stmt} {f : Addr} {j jj : Nat} {p1 p2 p3 p4 : Pos} {oc : Value} {od an : Option Addr} {osl : Array (Option Value)} {kV doc pm cdv ct : Value}
    (hb : defBody st = [.Return (some (.Subscript (.Name y p1) (.Constant (.int (j : Int)) jj p2) p3)) p4]) (h1 : (defScope st).kind = .function) (h2 : (defScope st).isCoroutine = false) (h3 : (defScope st).isGenerator = false) (h4 : (defScope st).names.lookup y = some .local) (h5 : (y == ("__debug__" : Str)) = false)
    (hbind : ∀ (kV doc pm : Value) (an : Option Addr) (cdv ct : Value) (u : Value), bindArgs (PySem.W.fnOf x x (defArgs st) (defBody st) (defScope st) .none kV doc pm an cdv ct) ⟨[u], []⟩ = pure [(y, u)])
    (a : PySem.W.nsIn K mainGlobals x = some (some (.ref f))) (l : K.lookup f = some ⟨oc, od, .func (PySem.W.fnOf x x (defArgs st) (defBody st) (defScope st) .none kV doc pm an cdv ct), osl⟩) (c : PySem.W.codeIn K cdv x = true) : ∃ f, mg x = some (.ref f) ∧ KFn K f j := by
  refine ⟨f, PySem.W.mg_of X G a, x, x, y, defArgs st, defScope st, oc, kV, doc, pm, cdv, ct, od, an, osl, jj, p1, p2, p3, p4, ?_, c, h1, h2, h3, h4, h5, fun u => ?_⟩
  · rw [← hb]; exact l
  · rw [← hb]; exact hbind _ _ _ _ _ _ u

/-- the end -/
theorem law_end {l : PySem.W.OpenLaw} {q : Program} {loose : List Str} {XP : (Str → Option Value) → Heap → Prop} {YP : World → Heap → Prop} {d : DefRec} {K : Params → PySem.W.Frag} {T : Tab} {fns : Nat → Option FD} {n : Nat} {F : FD} {st : Stmt} {x : Str}
    (hn : l.most = some 63) (hdf : d.params.defaults = []) (hnm : d.name = "law") (hx : F.ps = [x]) (hF : T.cF = fun _ => []) (hr : Room (3 * n + 3) callerA) (hok : okF T F st = true) (hY : ∀ (w : World) (h : Heap), YP w h → (K w.params).In h)
    (hW : ∀ (w : World) (mg : Str → Option Value) (h : Heap), (K w.params).In h → h.Ns mainGlobals mg → (∀ f F, fns f = some F → ∃ st, T.fn f = F.nm ∧ FunAt (K w.params) mg F.nm F.nm st F.ps ∧ okF T F st = true) ∧ FunAt (K w.params) mg "law" "law" st F.ps ∧ (∀ x, T.blt.contains x = true → mg x = none) ∧
      (∀ x j, T.key x = some j → ∃ f, mg x = some (.ref f) ∧ KFn (K w.params) f j) ∧ (∀ x n, T.con x = some n → ∃ t, mg x = some (.int n t)))
    (hlaw : ∀ ns : List Int, ns.length ≤ 63 → ∃ o, runF (orcOf fns n) F [.scr ns] = some (.bl true, o)) :
    PySem.W.WalkO q loose XP YP l.row.toRowW d [] (fun f vs => PySem.call f vs) := by
  refine L2.walk_of (n := 63) (k := 3 * n + 3) (x := x) (CX := fun _ => CX0) (sp := fun w => spF ⟨K w.params, fun _ => 0, T.cF⟩ (runF (orcOf fns n) F)) hn (by decide) hdf hr hY (fun w mg fa h KX G hmg => ?_) (fun w H a ns hl hO hS => ?_) fun _ _ _ _ _ z => z
  · obtain ⟨h1, ⟨f, fd, h2, h3, h4⟩, h5, h6, h7⟩ := hW w mg h KX G
    rw [hnm] at hmg
    rw [hmg] at h2
    cases h2
    refine ⟨fd, fun s u => ?_, fun base hb1 hb2 => ?_⟩
    · have := h4 [u] (by rw [hx]; rfl)
      rw [hx] at this
      exact .of_eq this
    · have := fn_ok (P := l.prog) (w := w) (cA := fun _ => 0) (world (base := base) h1 hF h5 h6 h7 n) h3 hok
      rw [hx] at this
      exact this
  · obtain ⟨o, ho⟩ := hlaw ns hl
    refine ⟨H, [.scr ns], (.bl true, o), Same.refl _, .cons (.scr hS) .nil, ho, fun v H' F' _ _ _ r => ?_⟩
    cases r with
    | no r => cases r; rfl
end Ix
set_option Elab.async false
set_option linter.all false
set_option maxRecDepth 100000
namespace Ix
open PySem

/-- _law_cell_at -/
def F1 : FD := ⟨"_law_cell_at", ["_law_script", "_law_k"], ["_law_script", "_law_k"],
  (.cons (.ifs (.cmp .Lt (.var 1) (.b1 .len (.var 0))) (.cons (.ret (.idx (.var 0) (.var 1)))
  .nil) .nil)
  (.cons (.ret (.bin .Add (.bin .Mult (.int 7) (.var 1)) (.int 5)))
  .nil))⟩

/-- _law_mix -/
def F2 : FD := ⟨"_law_mix", ["_law_cell", "_law_k", "_law_number"], ["_law_cell", "_law_k"],
  (.cons (.set 2 (.bin .Mod (.bin .Mult (.bin .Add (.bin .Add (.bin .Mod (.var 0) (.int 1000003)) (.bin .Mult (.bin .Mult (.var 1) (.var 1)) (.int 7919))) (.var 1)) (.int 48271)) (.int 2147483629)))
  (.cons (.ret (.bin .FloorDiv (.bin .Mod (.bin .Mult (.var 2) (.var 2)) (.int 2147483587)) (.int 7)))
  .nil))⟩

/-- _law_big_net -/
def F3 : FD := ⟨"_law_big_net", ["_law_script", "_law_number", "_law_houses", "_law_paths", "_law_pairs", "_law_k", "_law_drawn", "_law_start", "_law_step", "_law_goal", "_law_most"], ["_law_script"],
  (.cons (.set 1 (.call 2 (.cons (.call 1 (.cons (.var 0) (.cons (.int 0) .nil))) (.cons (.int 1) .nil))))
  (.cons (.set 2 (.bin .Add (.int 1) (.bin .Mod (.var 1) (.int 8))))
  (.cons (.set 3 (.lst .nil))
  (.cons (.set 4 (.lst .nil))
  (.cons (.for_ (.one 5) (.rng2 (.int 1) (.b2 .min (.b1 .len (.var 0)) (.int 64))) (.cons (.set 6 (.call 2 (.cons (.idx (.var 0) (.var 5)) (.cons (.int 2) .nil))))
  (.cons (.set 7 (.bin .Mod (.var 6) (.var 2)))
  (.cons (.set 8 (.bin .Add (.int 1) (.bin .Mod (.bin .FloorDiv (.var 6) (.int 8)) (.b2 .max (.int 1) (.bin .Sub (.var 2) (.int 1))))))
  (.cons (.ifs (.cmp .Eq (.bin .Mod (.bin .FloorDiv (.var 1) (.int 8)) (.int 4)) (.int 0)) (.cons (.set 7 (.bin .Mod (.var 5) (.var 2)))
  (.cons (.set 8 (.int 1))
  .nil)) .nil)
  (.cons (.set 9 (.bin .Mod (.bin .Add (.var 7) (.var 8)) (.var 2)))
  (.cons (.set 10 (.idx (.lst (.cons .non (.cons (.bin .Add (.int 1) (.bin .Mod (.bin .FloorDiv (.var 6) (.int 512)) (.int 9))) (.cons (.bin .Add (.int 1) (.bin .Mod (.bin .FloorDiv (.var 6) (.int 512)) (.int 60))) (.cons (.bin .Add (.int 1) (.bin .Mod (.idx (.var 0) (.var 5)) (.bin .Sub (.bin .Pow (.int 10) (.int 60)) (.int 1)))) .nil))))) (.bin .Mod (.bin .FloorDiv (.var 6) (.int 64)) (.int 4))))
  (.cons (.ifs (.bop true (.cmp .NotEq (.var 7) (.var 9)) (.cons (.cmp .NotIn (.tup (.cons (.var 7) (.cons (.var 9) .nil))) (.var 4)) .nil)) (.cons (.app 4 (.tup (.cons (.var 7) (.cons (.var 9) .nil))))
  (.cons (.app 3 (.tup (.cons (.var 7) (.cons (.var 9) (.cons (.var 10) .nil)))))
  .nil)) .nil)
  .nil))))))))
  (.cons (.retT (.cons (.var 2) (.cons (.var 3) .nil)))
  .nil))))))⟩

/-- sure_times -/
def F6 : FD := ⟨"sure_times", ["net", "house", "times", "turn", "start", "goal", "most"], ["net", "house"],
  (.cons (.set 2 (.bin .Mult (.lst (.cons .non .nil)) (.idx (.var 0) (.int 0))))
  (.cons (.put 2 (.var 1) (.int 0))
  (.cons (.for_ (.one 3) (.rng1 (.idx (.var 0) (.int 0))) (.cons (.for_ (.many [4, 5, 6]) (.ofE (.idx (.var 0) (.int 1))) (.cons (.ifs (.bop false (.cmp .Is (.var 6) .non) (.cons (.cmp .Is (.idx (.var 2) (.var 4)) .non) .nil)) (.cons .cont
  .nil) .nil)
  (.cons (.ifs (.bop false (.cmp .Is (.idx (.var 2) (.var 5)) .non) (.cons (.cmp .Lt (.bin .Add (.idx (.var 2) (.var 4)) (.var 6)) (.idx (.var 2) (.var 5))) .nil)) (.cons (.put 2 (.var 5) (.bin .Add (.idx (.var 2) (.var 4)) (.var 6)))
  .nil) .nil)
  .nil)))
  .nil))
  (.cons (.ret (.var 2))
  .nil))))⟩

/-- _law_mix -/
def F7 : FD := ⟨"_law_mix", ["_law_cell", "_law_k", "_law_turn", "_law_number"], ["_law_cell", "_law_k"],
  (.cons (.ifs (.cmp .GtE (.var 0) (.bin .Pow (.int 10) (.int 12))) (.cons (.set 0 (.bin .Sub (.bin .FloorDiv (.var 0) (.bin .Pow (.int 10) (.int 12))) (.int 1)))
  (.cons (.for_ (.one 2) (.rng1 (.bin .Mod (.var 1) (.int 61))) (.cons (.set 0 (.bin .FloorDiv (.var 0) (.int 2147483648)))
  .nil))
  (.cons (.ret (.bin .Mod (.var 0) (.int 2147483648)))
  .nil))) .nil)
  (.cons (.set 3 (.bin .Mod (.bin .Mult (.bin .Add (.bin .Add (.bin .Mod (.var 0) (.int 1000003)) (.bin .Mult (.bin .Mult (.var 1) (.var 1)) (.int 7919))) (.var 1)) (.int 48271)) (.int 2147483629)))
  (.cons (.set 3 (.bin .Mod (.bin .Mult (.var 3) (.var 3)) (.int 2147483587)))
  (.cons (.ret (.bin .FloorDiv (.bin .Mod (.bin .Mult (.var 3) (.bin .Add (.var 3) (.int 2))) (.int 2147483579)) (.int 7)))
  .nil))))⟩

/-- _law_whole -/
def F9 : FD := ⟨"_law_whole", ["_law_found"], ["_law_found"],
  (.cons (.ret (.bop true (.isi (.var 0) (.ty "int")) (.cons (.not_ (.isi (.var 0) (.ty "bool"))) .nil)))
  .nil)⟩

/-- _law_kinds -/
def F10 : FD := ⟨"_law_kinds", ["_law_found", "_law_houses", "_law_number"], ["_law_found", "_law_houses"],
  (.cons (.ifs (.bop false (.not_ (.isi (.var 0) (.ty "list"))) (.cons (.cmp .NotEq (.b1 .len (.var 0)) (.var 1)) .nil)) (.cons (.ret (.bl false))
  .nil) .nil)
  (.cons (.for_ (.one 2) (.ofE (.var 0)) (.cons (.ifs (.bop true (.cmp .IsNot (.var 2) .non) (.cons (.not_ (.call 9 (.cons (.var 2) .nil))) .nil)) (.cons (.ret (.bl false))
  .nil) .nil)
  .nil))
  (.cons (.ret (.bl true))
  .nil)))⟩

/-- fewest -/
def F18 : FD := ⟨"fewest", ["net", "house", "counts", "come", "at", "start", "goal", "most"], ["net", "house"],
  (.cons (.set 2 (.bin .Mult (.lst (.cons .non .nil)) (.idx (.var 0) (.int 0))))
  (.cons (.put 2 (.var 1) (.int 0))
  (.cons (.set 3 (.lst (.cons (.var 1) .nil)))
  (.cons (.set 4 (.int 0))
  (.cons (.while_ (.cmp .Lt (.var 4) (.b1 .len (.var 3))) (.cons (.for_ (.many [5, 6, 7]) (.ofE (.idx (.var 0) (.int 1))) (.cons (.ifs (.bop true (.cmp .Eq (.var 5) (.idx (.var 3) (.var 4))) (.cons (.cmp .Is (.idx (.var 2) (.var 6)) .non) .nil)) (.cons (.put 2 (.var 6) (.bin .Add (.idx (.var 2) (.var 5)) (.int 1)))
  (.cons (.app 3 (.var 6))
  .nil)) .nil)
  .nil))
  (.cons (.aug 4 (.int 1))
  .nil)))
  (.cons (.ret (.var 2))
  .nil))))))⟩

/-- _law_cell_at -/
def F26 : FD := ⟨"_law_cell_at", ["_law_script", "_law_k"], ["_law_script", "_law_k"],
  (.cons (.ifs (.cmp .Lt (.var 1) (.b1 .len (.var 0))) (.cons (.ret (.idx (.var 0) (.var 1)))
  .nil) .nil)
  (.cons (.ret (.int 0))
  .nil))⟩

/-- _law_net -/
def F27 : FD := ⟨"_law_net", ["_law_script", "_law_number", "_law_houses", "_law_paths", "_law_start", "_law_goal", "_law_drawn", "_law_far", "_law_most"], ["_law_script"],
  (.cons (.set 1 (.call 2 (.cons (.call 26 (.cons (.var 0) (.cons (.int 0) .nil))) (.cons (.int 1) .nil))))
  (.cons (.set 2 (.bin .Add (.int 1) (.bin .Mod (.call 26 (.cons (.var 0) (.cons (.int 0) .nil))) (.int 4))))
  (.cons (.ifs (.cmp .Eq (.bin .Mod (.bin .FloorDiv (.var 1) (.int 8)) (.int 8)) (.int 1)) (.cons (.set 2 (.bin .Add (.int 5) (.bin .Mod (.bin .FloorDiv (.var 1) (.int 64)) (.int 4))))
  .nil) .nil)
  (.cons (.ifs (.cmp .Eq (.bin .Mod (.bin .FloorDiv (.var 1) (.int 8)) (.int 8)) (.int 2)) (.cons (.set 2 (.int 2))
  .nil) .nil)
  (.cons (.set 3 (.lst .nil))
  (.cons (.for_ (.one 4) (.rng1 (.var 2)) (.cons (.for_ (.one 5) (.rng1 (.var 2)) (.cons (.set 6 (.call 2 (.cons (.call 26 (.cons (.var 0) (.cons (.int 1) .nil))) (.cons (.bin .Add (.bin .Mult (.int 10) (.var 4)) (.var 5)) .nil))))
  (.cons (.set 7 (.bop true (.cmp .Gt (.b1 .abs (.bin .Sub (.var 5) (.var 4))) (.int 1)) (.cons (.bop false (.cmp .Eq (.bin .Mod (.var 1) (.int 4)) (.int 1)) (.cons (.cmp .Gt (.var 2) (.int 4)) .nil)) .nil)))
  (.cons (.ifs (.bop false (.cmp .Eq (.var 4) (.var 5)) (.cons (.var 7) (.cons (.cmp .Eq (.bin .Mod (.var 6) (.int 6)) (.int 0)) .nil))) (.cons .cont
  .nil) .nil)
  (.cons (.set 8 (.idx (.lst (.cons .non (.cons (.int 1) (.cons (.int 2) (.cons (.bin .Add (.int 1) (.bin .Mod (.bin .FloorDiv (.var 6) (.int 6)) (.int 6))) (.cons (.bin .Add (.bin .Pow (.int 10) (.int 50)) (.var 6)) .nil)))))) (.bin .Sub (.bin .Mod (.var 6) (.int 6)) (.int 1))))
  (.cons (.app 3 (.tup (.cons (.var 4) (.cons (.var 5) (.cons (.var 8) .nil)))))
  .nil))))))
  .nil))
  (.cons (.ifs (.cmp .Eq (.bin .Mod (.bin .FloorDiv (.var 1) (.int 4)) (.int 2)) (.int 1)) (.cons (.set 3 (.rev (.var 3)))
  .nil) .nil)
  (.cons (.retT (.cons (.var 2) (.cons (.var 3) .nil)))
  .nil))))))))⟩

/-- _law_signs -/
def F28 : FD := ⟨"_law_signs", ["_law_script", "_law_net_here", "_law_last", "_law_signs_here", "_law_at", "_law_names", "_law_k", "_law_number", "_law_sign"], ["_law_script", "_law_net_here", "_law_last"],
  (.cons (.set 3 (.lst .nil))
  (.cons (.set 4 (.bin .Mod (.bin .FloorDiv (.call 26 (.cons (.var 0) (.cons (.int 2) .nil))) (.int 25)) (.int 12)))
  (.cons (.set 5 (.lst (.cons (.str "a") (.cons (.str "ab") (.cons (.str "ba") (.cons (.str "zzzzzzzzzzzz") .nil))))))
  (.cons (.ifs (.cmp .Eq (.bin .Mod (.bin .FloorDiv (.call 26 (.cons (.var 0) (.cons (.int 2) .nil))) (.int 300)) (.int 2)) (.int 1)) (.cons (.set 5 (.lst (.cons (.str "aaaaaaaaaaaa") (.cons (.bin .Add (.bin .Add (.bin .Mult (.str "a") (.var 4)) (.str "b")) (.bin .Mult (.str "a") (.bin .Sub (.int 11) (.var 4)))) (.cons (.bin .Add (.bin .Add (.bin .Mult (.str "a") (.var 4)) (.str "c")) (.bin .Mult (.str "a") (.bin .Sub (.int 11) (.var 4)))) (.cons (.bin .Mult (.str "a") (.int 11)) .nil))))))
  .nil) .nil)
  (.cons (.for_ (.one 6) (.rng1 (.bin .Mod (.call 2 (.cons (.call 26 (.cons (.var 0) (.cons (.int 2) .nil))) (.cons (.int 2) .nil))) (.int 5))) (.cons (.set 7 (.call 2 (.cons (.call 26 (.cons (.var 0) (.cons (.bin .Add (.int 3) (.var 6)) .nil))) (.cons (.bin .Add (.int 500) (.var 6)) .nil))))
  (.cons (.set 8 (.tup (.cons (.bin .Mod (.var 7) (.idx (.var 1) (.int 0))) (.cons (.bin .Mod (.bin .FloorDiv (.var 7) (.int 5)) (.bin .Add (.var 2) (.int 1))) (.cons (.idx (.var 5) (.bin .Mod (.bin .FloorDiv (.var 7) (.int 300)) (.int 4))) .nil)))))
  (.cons (.ifs (.cmp .NotIn (.var 8) (.var 3)) (.cons (.app 3 (.var 8))
  .nil) .nil)
  .nil))))
  (.cons (.ret (.var 3))
  .nil))))))⟩

/-- _law_tale -/
def F29 : FD := ⟨"_law_tale", ["_law_script", "_law_net_here", "_law_last", "_law_runs", "_law_k", "_law_start", "_law_goal", "_law_most", "_law_left", "_law_number", "_law_come"], ["_law_script", "_law_net_here"],
  (.cons (.set 2 (.bin .Mod (.call 26 (.cons (.var 0) (.cons (.int 2) .nil))) (.int 9)))
  (.cons (.ifs (.cmp .Eq (.bin .Mod (.bin .FloorDiv (.call 2 (.cons (.call 26 (.cons (.var 0) (.cons (.int 0) .nil))) (.cons (.int 1) .nil))) (.int 8)) (.int 8)) (.int 2)) (.cons (.set 2 (.bin .Mod (.call 26 (.cons (.var 0) (.cons (.int 2) .nil))) (.int 25)))
  .nil) .nil)
  (.cons (.set 3 (.lst .nil))
  (.cons (.set 4 (.int 0))
  (.cons (.for_ (.many [5, 6, 7]) (.ofE (.idx (.var 1) (.int 1))) (.cons (.for_ (.one 8) (.rng1 (.var 2)) (.cons (.set 4 (.bin .Add (.var 4) (.int 1)))
  (.cons (.set 9 (.call 2 (.cons (.call 26 (.cons (.var 0) (.cons (.bin .Add (.int 3) (.bin .Mod (.var 4) (.int 60))) .nil))) (.cons (.var 4) .nil))))
  (.cons (.set 10 (.bin .Add (.bin .Add (.var 8) (.int 1)) (.bin .Mod (.bin .FloorDiv (.var 9) (.int 3)) (.int 4))))
  (.cons (.ifs (.bop true (.cmp .Is (.var 7) .non) (.cons (.cmp .Eq (.bin .Mod (.var 9) (.int 3)) (.int 0)) .nil)) (.cons .cont
  .nil) .nil)
  (.cons (.ifs (.cmp .IsNot (.var 7) .non) (.cons (.set 10 (.bin .Add (.bin .Add (.var 8) (.int 1)) (.bin .Mod (.bin .FloorDiv (.var 9) (.int 3)) (.b2 .min (.var 7) (.int 4)))))
  .nil) .nil)
  (.cons (.ifs (.bop true (.cmp .IsNot (.var 7) .non) (.cons (.cmp .Eq (.bin .Mod (.var 9) (.int 3)) (.int 0)) .nil)) (.cons (.set 10 (.bin .Add (.var 8) (.var 7)))
  .nil) .nil)
  (.cons (.ifs (.cmp .LtE (.var 10) (.var 2)) (.cons (.app 3 (.tup (.cons (.var 5) (.cons (.var 6) (.cons (.var 8) (.cons (.var 10) .nil))))))
  .nil) .nil)
  .nil))))))))
  .nil))
  (.cons (.ifs (.cmp .Eq (.bin .Mod (.var 2) (.int 2)) (.int 1)) (.cons (.set 3 (.rev (.var 3)))
  .nil) .nil)
  (.cons (.retT (.cons (.var 2) (.cons (.var 3) (.cons (.call 28 (.cons (.var 0) (.cons (.var 1) (.cons (.var 2) .nil)))) .nil))))
  .nil)))))))⟩

/-- ends_of -/
def F42 : FD := ⟨"ends_of", ["net", "tale", "spot", "ends", "runs", "run"], ["net", "tale", "spot"],
  (.cons (.set 3 (.bin .Mult (.lst (.cons (.neg (.int 1)) .nil)) (.idx (.var 0) (.int 0))))
  (.cons (.put 3 (.idx (.var 2) (.int 0)) (.idx (.var 2) (.int 1)))
  (.cons (.set 4 (.bin .Mult (.lst (.cons .non .nil)) (.idx (.var 0) (.int 0))))
  (.cons (.for_ (.one 5) (.ofE (.srk 3 (.idx (.var 1) (.int 1)))) (.cons (.ifs (.bop true (.cmp .LtE (.idx (.var 5) (.int 3)) (.idx (.var 3) (.idx (.var 5) (.int 1)))) (.cons (.cmp .Gt (.idx (.var 5) (.int 2)) (.idx (.var 3) (.idx (.var 5) (.int 0)))) .nil)) (.cons (.put 3 (.idx (.var 5) (.int 0)) (.idx (.var 5) (.int 2)))
  (.cons (.put 4 (.idx (.var 5) (.int 0)) (.var 5))
  .nil)) .nil)
  .nil))
  (.cons (.retT (.cons (.var 3) (.cons (.var 4) .nil)))
  .nil)))))⟩

/-- heard_by -/
def F43 : FD := ⟨"heard_by", ["net", "tale", "spot"], ["net", "tale", "spot"],
  (.cons (.ret (.idx (.call 42 (.cons (.var 0) (.cons (.var 1) (.cons (.var 2) .nil)))) (.int 0)))
  .nil)⟩

/-- law -/
def F51 : FD := ⟨"law", ["_law_script", "_law_net_here", "_law_tale_here", "_law_start", "_law_sure", "_law_goal", "_law_turn"], ["_law_script"],
  (.cons (.set 1 (.call 27 (.cons (.var 0) .nil)))
  (.cons (.set 2 (.call 29 (.cons (.var 0) (.cons (.var 1) .nil))))
  (.cons (.for_ (.one 3) (.rng1 (.idx (.var 1) (.int 0))) (.cons (.set 4 (.call 6 (.cons (.var 1) (.cons (.var 3) .nil))))
  (.cons (.ifs (.bop false (.cmp .NotEq (.idx (.var 4) (.var 3)) (.int 0)) (.cons (.cmp .NotEq (.b1 .len (.var 4)) (.idx (.var 1) (.int 0))) .nil)) (.cons (.ret (.bl false))
  .nil) .nil)
  (.cons (.for_ (.one 5) (.rng1 (.idx (.var 1) (.int 0))) (.cons (.ifs (.cmp .Is (.idx (.var 4) (.var 5)) .non) (.cons .cont
  .nil) .nil)
  (.cons (.for_ (.one 6) (.rng1 (.bin .Add (.bin .Sub (.idx (.var 2) (.int 0)) (.idx (.var 4) (.var 5))) (.int 1))) (.cons (.ifs (.cmp .Lt (.idx (.call 43 (.cons (.var 1) (.cons (.var 2) (.cons (.tup (.cons (.var 5) (.cons (.bin .Add (.var 6) (.idx (.var 4) (.var 5))) .nil))) .nil)))) (.var 3)) (.var 6)) (.cons (.ret (.bl false))
  .nil) .nil)
  .nil))
  .nil)))
  .nil))))
  (.cons (.ret (.bl true))
  .nil))))⟩


end Ix
set_option Elab.async false
set_option linter.all false
set_option maxRecDepth 100000
set_option maxHeartbeats 4000000
namespace Ix
open PySem PySem.Spec PyProof.Rows L2

/-! ### plain data: equal if and only if the same -/
mutual
/-- no truths, no dicts, no objects; texts are short ASCII -/
def D.pu : D → Bool
  | .non => true | .int _ => true | .str x => PyData.canLay0 (.str x)
  | .tup ds => D.pus ds | .lst ds => D.pus ds
  | _ => false
def D.pus : List D → Bool
  | [] => true
  | d :: ds => d.pu && D.pus ds
end
mutual
def D.dep : D → Nat
  | .tup ds => D.deps ds + 1 | .lst ds => D.deps ds + 1
  | _ => 0
def D.deps : List D → Nat
  | [] => 0
  | d :: ds => max d.dep (D.deps ds)
end
mutual
theorem D.pu_py : ∀ d : D, d.pu = true → ∃ p, d.py = some p ∧ p.canLay0 = true ∧ p.depth = d.dep
  | .non, _ => ⟨_, rfl, rfl, rfl⟩
  | .int i, _ => ⟨_, rfl, rfl, rfl⟩
  | .str x, h => ⟨_, rfl, h, rfl⟩
  | .tup ds, h => by
    obtain ⟨ps, h1, h2, h3⟩ := D.pus_py ds h
    exact ⟨.tuple ps, by simp only [D.py, h1]; rfl, h2, by simp only [PyData.depth, D.dep, h3]⟩
  | .lst ds, h => by
    obtain ⟨ps, h1, h2, h3⟩ := D.pus_py ds h
    exact ⟨.list ps, by simp only [D.py, h1]; rfl, h2, by simp only [PyData.depth, D.dep, h3]⟩
  | .bl _, h => by simp [D.pu] at h
  | .scr _, h => by simp [D.pu] at h
  | .dK _, h => by simp [D.pu] at h
  | .dT _, h => by simp [D.pu] at h
  | .ins _ _, h => by simp [D.pu] at h
theorem D.pus_py : ∀ ds : List D, D.pus ds = true → ∃ ps, D.pys ds = some ps ∧ PyData.canLayAll0 ps = true ∧ PyData.depthAll ps = D.deps ds
  | [], _ => ⟨[], rfl, rfl, rfl⟩
  | d :: ds, h => by
    simp only [D.pus, Bool.and_eq_true] at h
    obtain ⟨p, h1, h2, h3⟩ := D.pu_py d h.1
    obtain ⟨ps, k1, k2, k3⟩ := D.pus_py ds h.2
    exact ⟨p :: ps, by simp only [D.pys, h1, k1], by simp only [PyData.canLayAll0, h2, k2]; rfl, by simp only [PyData.depthAll, D.deps, h3, k3]⟩
end
mutual
theorem D.pu_eqv : ∀ (d e : D) {p q : PyData}, d.pu = true → e.pu = true → d.py = some p → e.py = some q → (PyData.eqv p q = true ↔ d = e)
  | .non, e, p, q, h1, h2, h3, h4 => by
    cases h3
    cases e <;> simp [D.pu] at h2 <;> simp [D.py] at h4 <;> first | (subst h4; simp [PyData.eqv]) | (obtain ⟨ps, _, rfl⟩ := h4; simp [PyData.eqv])
  | .int i, e, p, q, h1, h2, h3, h4 => by
    cases h3
    cases e <;> simp [D.pu] at h2 <;> simp [D.py] at h4 <;> first | (subst h4; simp [PyData.eqv]) | (obtain ⟨ps, _, rfl⟩ := h4; simp [PyData.eqv])
  | .str x, e, p, q, h1, h2, h3, h4 => by
    cases h3
    cases e <;> simp [D.pu] at h2 <;> simp [D.py] at h4 <;> first | (subst h4; simp [PyData.eqv]) | (obtain ⟨ps, _, rfl⟩ := h4; simp [PyData.eqv])
  | .tup ds, e, p, q, h1, h2, h3, h4 => by
    simp only [D.py, Option.map_eq_some_iff] at h3
    obtain ⟨ps, k1, rfl⟩ := h3
    cases e <;> simp [D.pu] at h2 <;> simp [D.py] at h4 <;> try (subst h4; simp [PyData.eqv]; done)
    · obtain ⟨qs, k2, rfl⟩ := h4
      rw [PyData.eqv, D.pus_eqv ds _ (by simpa [D.pu] using h1) h2 k1 k2]
      simp
    · obtain ⟨qs, k2, rfl⟩ := h4
      simp [PyData.eqv]
  | .lst ds, e, p, q, h1, h2, h3, h4 => by
    simp only [D.py, Option.map_eq_some_iff] at h3
    obtain ⟨ps, k1, rfl⟩ := h3
    cases e <;> simp [D.pu] at h2 <;> simp [D.py] at h4 <;> try (subst h4; simp [PyData.eqv]; done)
    · obtain ⟨qs, k2, rfl⟩ := h4
      simp [PyData.eqv]
    · obtain ⟨qs, k2, rfl⟩ := h4
      rw [PyData.eqv, D.pus_eqv ds _ (by simpa [D.pu] using h1) h2 k1 k2]
      simp
  | .bl _, e, p, q, h1, h2, h3, h4 => by simp [D.pu] at h1
  | .scr _, e, p, q, h1, h2, h3, h4 => by simp [D.pu] at h1
  | .dK _, e, p, q, h1, h2, h3, h4 => by simp [D.pu] at h1
  | .dT _, e, p, q, h1, h2, h3, h4 => by simp [D.pu] at h1
  | .ins _ _, e, p, q, h1, h2, h3, h4 => by simp [D.pu] at h1
theorem D.pus_eqv : ∀ (ds es : List D) {ps qs : List PyData}, D.pus ds = true → D.pus es = true → D.pys ds = some ps → D.pys es = some qs → (PyData.eqvAll ps qs = true ↔ ds = es)
  | [], [], ps, qs, _, _, h3, h4 => by cases h3; cases h4; simp [PyData.eqvAll]
  | [], e :: es, ps, qs, _, _, h3, h4 => by
    cases h3
    simp only [D.pys] at h4
    split at h4
    · cases h4; simp [PyData.eqvAll]
    · cases h4
  | d :: ds, [], ps, qs, _, _, h3, h4 => by
    cases h4
    simp only [D.pys] at h3
    split at h3
    · cases h3; simp [PyData.eqvAll]
    · cases h3
  | d :: ds, e :: es, ps, qs, h1, h2, h3, h4 => by
    simp only [D.pys] at h3 h4
    split at h3
    · rename_i a b e1 e2
      cases h3
      split at h4
      · rename_i a' b' e3 e4
        cases h4
        simp only [D.pus, Bool.and_eq_true] at h1 h2
        rw [PyData.eqvAll, Bool.and_eq_true, D.pu_eqv d e h1.1 h2.1 e1 e3, D.pus_eqv ds es h1.2 h2.2 e2 e4]
        simp
      · cases h4
    · cases h3
end
theorem deq_pu {d e : D} (h1 : d.pu = true) (h2 : e.pu = true) (k1 : d.dep ≤ 64) (k2 : e.dep ≤ 64) [Decidable (d = e)] : deq d e = some (decide (d = e)) := by
  obtain ⟨p, a1, a2, a3⟩ := d.pu_py h1
  obtain ⟨q, b1, b2, b3⟩ := e.pu_py h2
  have s1 : SeqAt.shaped p = true := by unfold SeqAt.shaped; rw [a2, a3]; simpa using k1
  have s2 : SeqAt.shaped q = true := by unfold SeqAt.shaped; rw [b2, b3]; simpa using k2
  unfold deq
  rw [a1, b1]
  simp only [s1, s2, Bool.and_self, if_true, Option.some.injEq]
  have := D.pu_eqv d e h1 h2 a1 b1
  by_cases hd : d = e
  · rw [decide_eq_true hd]; exact this.mpr hd
  · rw [decide_eq_false hd]
    cases hh : PyData.eqv p q with
    | false => rfl
    | true => exact absurd (this.mp hh) hd
theorem deq_int (a b : Int) : deq (.int a) (.int b) = some (decide (a = b)) := by
  haveI : Decidable (D.int a = D.int b) := decidable_of_iff (a = b) (by simp)
  rw [deq_pu (d := .int a) (e := .int b) rfl rfl (by decide : (0 : Nat) ≤ 64) (by decide : (0 : Nat) ≤ 64)]
  congr 1
  by_cases h : a = b <;> simp [h]
theorem deq_self {d : D} (h1 : d.pu = true) (k1 : d.dep ≤ 64) : deq d d = some true := by
  classical
  rw [deq_pu h1 h1 k1 k1]
  simp
theorem din_pu {x : D} {ds : List D} (h1 : x.pu = true) (h2 : D.pus ds = true) (k1 : x.dep ≤ 64) (k2 : D.deps ds ≤ 63) [Decidable (x ∈ ds)] : din x ds = some (decide (x ∈ ds)) := by
  obtain ⟨p, a1, a2, a3⟩ := x.pu_py h1
  obtain ⟨ps, b1, b2, b3⟩ := D.pus_py ds h2
  have s1 : SeqAt.shaped p = true := by unfold SeqAt.shaped; rw [a2, a3]; simpa using k1
  have s2 : SeqAt.shaped (.list ps) = true := by
    unfold SeqAt.shaped
    rw [PyData.canLay0, b2, PyData.depth, b3]
    simp; omega
  unfold din
  rw [a1, b1]
  simp only [s1, s2, Bool.and_self, if_true, Option.some.injEq]
  clear s2 b2 b3 k2
  have key : ∀ (ds : List D) (ps : List PyData), D.pus ds = true → D.pys ds = some ps → ((ps.any fun z => PyData.eqv z p) = true ↔ x ∈ ds) := by
    intro ds
    induction ds with
    | nil => intro ps _ h; cases h; simp
    | cons d ds ih =>
      intro ps h h'
      simp only [D.pys] at h'
      split at h'
      · rename_i a b e1 e2
        cases h'
        simp only [D.pus, Bool.and_eq_true] at h
        rw [List.any_cons, Bool.or_eq_true, ih b h.2 e2, D.pu_eqv d x h.1 h1 e1 a1, List.mem_cons]
        exact ⟨fun z => z.elim (fun z => .inl z.symm) .inr, fun z => z.elim (fun z => .inl z.symm) .inr⟩
      · cases h'
  have := key ds ps h2 b1
  by_cases hd : x ∈ ds
  · rw [decide_eq_true hd]; exact this.mpr hd
  · rw [decide_eq_false hd]
    cases hh : (ps.any fun z => PyData.eqv z p) with
    | false => rfl
    | true => exact absurd (this.mp hh) hd

/-! ### loops -/
theorem forL_inv {f : D → Env → Option Out} {tg : Tg} (Inv : Nat → Env → Prop) : ∀ {ds : List D} {env : Env} (i : Nat), Inv i env →
    (∀ j d e, ds[j]? = some d → Inv (i + j) e → ∃ e1 e2, bindT tg d e = some e1 ∧ (f d e1 = some (.nx e2) ∨ f d e1 = some (.ct e2)) ∧ Inv (i + j + 1) e2) →
    ∃ e', forL f tg ds env = some (.nx e') ∧ Inv (i + ds.length) e'
  | [], env, i, h0, _ => ⟨env, rfl, h0⟩
  | d :: ds, env, i, h0, step => by
    obtain ⟨e1, e2, h1, h2, h3⟩ := step 0 d env rfl h0
    obtain ⟨e', h4, h5⟩ := forL_inv (f := f) (tg := tg) Inv (ds := ds) (env := e2) (i + 1) h3 fun j d' e hj hI => by
      have := step (j + 1) d' e (by simpa using hj) (by rw [show i + (j + 1) = i + 1 + j by omega]; exact hI)
      rw [show i + (j + 1) = i + 1 + j by omega] at this
      exact this
    refine ⟨e', ?_, by rw [show i + (d :: ds).length = i + 1 + ds.length by simp; omega]; exact h5⟩
    unfold forL
    rw [h1, Option.bind_some]
    rcases h2 with h2 | h2 <;> rw [h2, Option.bind_some] <;> exact h4
/-- with a way out by return -/
theorem forL_ret {f : D → Env → Option Out} {tg : Tg} (Inv : Nat → Env → Prop) (Rt : D → Ow → Prop) : ∀ {ds : List D} {env : Env} (i : Nat), Inv i env →
    (∀ j d e, ds[j]? = some d → Inv (i + j) e → ∃ e1, bindT tg d e = some e1 ∧ ((∃ e2, (f d e1 = some (.nx e2) ∨ f d e1 = some (.ct e2)) ∧ Inv (i + j + 1) e2) ∨ ∃ v o, f d e1 = some (.rt v o) ∧ Rt v o)) →
    (∃ e', forL f tg ds env = some (.nx e') ∧ Inv (i + ds.length) e') ∨ ∃ v o, forL f tg ds env = some (.rt v o) ∧ Rt v o
  | [], env, i, h0, _ => .inl ⟨env, rfl, h0⟩
  | d :: ds, env, i, h0, step => by
    obtain ⟨e1, h1, h2⟩ := step 0 d env rfl h0
    rcases h2 with ⟨e2, h2, h3⟩ | ⟨v, o, h2, h3⟩
    · rcases forL_ret (f := f) (tg := tg) Inv Rt (ds := ds) (env := e2) (i + 1) h3 fun j d' e hj hI => by
        have := step (j + 1) d' e (by simpa using hj) (by rw [show i + (j + 1) = i + 1 + j by omega]; exact hI)
        rw [show i + (j + 1) = i + 1 + j by omega] at this
        exact this
        with ⟨e', h4, h5⟩ | ⟨v, o, h4, h5⟩
      · refine .inl ⟨e', ?_, by rw [show i + (d :: ds).length = i + 1 + ds.length by simp; omega]; exact h5⟩
        unfold forL
        rw [h1, Option.bind_some]
        rcases h2 with h2 | h2 <;> rw [h2, Option.bind_some] <;> exact h4
      · refine .inr ⟨v, o, ?_, h5⟩
        unfold forL
        rw [h1, Option.bind_some]
        rcases h2 with h2 | h2 <;> rw [h2, Option.bind_some] <;> exact h4
    · refine .inr ⟨v, o, ?_, h3⟩
      unfold forL
      rw [h1, Option.bind_some, h2, Option.bind_some]
theorem whileL_inv {c : Env → Option Bool} {f : Env → Option Out} (Inv : Env → Prop) (Rt : D → Ow → Prop) (μ : Env → Nat) (step : ∀ e, Inv e → (c e = some false) ∨ (c e = some true ∧ ((∃ e2, (f e = some (.nx e2) ∨ f e = some (.ct e2)) ∧ Inv e2 ∧ μ e2 < μ e) ∨ ∃ v o, f e = some (.rt v o) ∧ Rt v o))) :
    ∀ (n : Nat) (env : Env), Inv env → μ env < n → (∃ e', whileL c f n env = some (.nx e') ∧ Inv e' ∧ c e' = some false) ∨ ∃ v o, whileL c f n env = some (.rt v o) ∧ Rt v o
  | 0, env, h0, hn => absurd hn (Nat.not_lt_zero _)
  | n + 1, env, h0, hn => by
    rcases step env h0 with hc | ⟨hc, h⟩
    · refine .inl ⟨env, ?_, h0, hc⟩
      unfold whileL
      rw [hc, Option.bind_some, if_neg Bool.false_ne_true]
    · rcases h with ⟨e2, h1, h2, h3⟩ | ⟨v, o, h1, h2⟩
      · have ih := whileL_inv Inv Rt μ step n e2 h2 (by omega)
        have e : whileL c f (n + 1) env = whileL c f n e2 := by
          rw [whileL, hc, Option.bind_some, if_pos rfl]
          rcases h1 with h1 | h1 <;> rw [h1, Option.bind_some]
        rw [e]
        exact ih
      · refine .inr ⟨v, o, ?_, h2⟩
        unfold whileL
        rw [hc, Option.bind_some, if_pos rfl, h1, Option.bind_some]
end Ix
set_option Elab.async false
set_option linter.all false
set_option maxRecDepth 100000
set_option maxHeartbeats 4000000
namespace Ix
open PySem PySem.Spec PyProof.Rows L2

/-! ### operations -/
section
variable {a b : Int} {f g : Fl} {k : Nat}
theorem b_add : binop .Add (.int a, f) (.int b, g) = some (.int (a + b), .own .no []) := rfl
theorem b_sub : binop .Sub (.int a, f) (.int b, g) = some (.int (a - b), .own .no []) := rfl
theorem log_lt {n m : Nat} (h : n < 2 ^ m) (hm : 0 < m) : n.log2 < m := by
  by_cases hn : n = 0
  · subst hn; simpa using hm
  · exact (Nat.log2_lt hn).mpr h
theorem natAbs_lt {m : Nat} (h1 : -(2 ^ 62) ≤ a) (h2 : a ≤ 2 ^ 62) : a.natAbs < 2 ^ 63 := by omega
theorem b_mul (h1 : -(2 ^ 62) ≤ a) (h2 : a ≤ 2 ^ 62) (h3 : -(2 ^ 62) ≤ b) (h4 : b ≤ 2 ^ 62) : binop .Mult (.int a, f) (.int b, g) = some (.int (a * b), .own .no []) := by
  have k1 := log_lt (natAbs_lt (m := 0) h1 h2) (by decide)
  have k2 := log_lt (natAbs_lt (m := 0) h3 h4) (by decide)
  show (if a.natAbs.log2 + b.natAbs.log2 < 1000000 then sc (.int (a * b)) else none) = _
  rw [if_pos (by omega)]
  rfl
theorem b_div (h1 : 0 < b) (h2 : b ≤ 2 ^ 62) : binop .FloorDiv (.int a, f) (.int b, g) = some (.int (a / b), .own .no []) := by
  have k2 := log_lt (natAbs_lt (m := 0) (by omega) h2) (by decide)
  show (if 0 < b ∧ b.natAbs.log2 < 9000 then sc (.int (a / b)) else none) = _
  rw [if_pos ⟨h1, by omega⟩]
  rfl
theorem b_mod (h1 : 0 < b) : binop .Mod (.int a, f) (.int b, g) = some (.int (a % b), .own .no []) := by
  show (if 0 < b then sc (.int (a % b)) else none) = _
  rw [if_pos h1]
  rfl
theorem b_pow10 (n : Nat) (hn : n ≤ 100) : binop .Pow (.int 10, f) (.int (n : Int), g) = some (.int (10 ^ n), .own .no []) := by
  show (if 0 ≤ (n : Int) ∧ (n : Int) ≤ 1000000 ∧ (10 : Int).natAbs < 2 ^ 64 then sc (.int (10 ^ (n : Int).toNat)) else none) = _
  rw [if_pos ⟨by omega, by omega, by decide⟩]
  rfl
theorem b_catL {ds es : List D} (h : ds.length + es.length ≤ szb) : binop .Add (.lst ds, f) (.lst es, g) = some (.lst (ds ++ es), .own .top (f.el ++ g.el)) := by
  show (if ds.length + es.length ≤ szb then _ else none) = _
  rw [if_pos h]
theorem rep_one {d : D} : ∀ n : Nat, (List.replicate n [d]).flatten = List.replicate n d
  | 0 => rfl
  | n + 1 => by rw [List.replicate_succ, List.replicate_succ, List.flatten_cons, rep_one n]; rfl
theorem b_rep {d : D} {n : Nat} (h : n ≤ 1000000) : binop .Mult (.lst [d], f) (.int (n : Int), g) = some (.lst (List.replicate n d), .own .top f.el) := by
  show (if -1000000 ≤ (n : Int) ∧ (n : Int) ≤ 1000000 ∧ [d].length * (n : Int).toNat ≤ szb then some (D.lst (List.replicate (n : Int).toNat [d]).flatten, Fl.own .top f.el) else none) = _
  rw [if_pos ⟨by omega, by omega, by simp [szb]; omega⟩]
  rw [Int.toNat_natCast, rep_one]
theorem c_lt : cmpop .Lt (.int a) (.int b) = some (decide (a < b)) := rfl
theorem c_le : cmpop .LtE (.int a) (.int b) = some (decide (a ≤ b)) := rfl
theorem c_gt : cmpop .Gt (.int a) (.int b) = some (decide (b < a)) := rfl
theorem c_ge : cmpop .GtE (.int a) (.int b) = some (decide (b ≤ a)) := rfl
theorem c_eqI : cmpop .Eq (.int a) (.int b) = some (decide (a = b)) := deq_int a b
theorem c_neI : cmpop .NotEq (.int a) (.int b) = some (!decide (a = b)) := by
  show (deq (.int a) (.int b)).map not = _
  rw [deq_int]
  rfl
theorem c_isNN : cmpop .Is .non .non = some true := rfl
theorem c_isIN : cmpop .Is (.int a) .non = some false := rfl
theorem c_noNN : cmpop .IsNot .non .non = some false := rfl
theorem c_noIN : cmpop .IsNot (.int a) .non = some true := rfl
theorem o_lenL {ds : List D} : b1op .len (.lst ds, f) = some (.int ds.length, .own .no []) := rfl
theorem o_lenT {ds : List D} : b1op .len (.tup ds, f) = some (.int ds.length, .own .no []) := rfl
theorem o_lenS {ns : List Int} : b1op .len (.scr ns, f) = some (.int ns.length, .own .no []) := rfl
theorem o_abs : b1op .abs (.int a, f) = some (.int (if a < 0 then -a else a), .own .no []) := rfl
theorem o_listL {ds : List D} : b1op .list (.lst ds, f) = some (.lst ds, .own .top f.el) := rfl
theorem o_listT {ds : List D} : b1op .list (.tup ds, f) = some (.lst ds, .own .top f.al) := rfl
theorem o_intI : b1op .int (.int a, f) = some (.int a, .own .no []) := rfl
theorem o_intB {t : Bool} : b1op .int (.bl t, f) = some (.int (if t then 1 else 0), .own .no []) := rfl
theorem o_max2 : b2op .max (.int a) (.int b) = some (.int (if b > a then b else a), .own .no []) := rfl
theorem o_min2 : b2op .min (.int a) (.int b) = some (.int (if b < a then b else a), .own .no []) := rfl
theorem neg_I : (match (D.int a, f).1 with | .int i => sc (.int (-i)) | _ => none : Option R) = some (.int (-a), .own .no []) := rfl
theorem okR_of {i : Int} (h1 : -1000000000000 ≤ i) (h2 : i ≤ 1000000000000) : okR i = true := okR_iff.mpr (by omega)
theorem atI_nat' {α : Type} {xs : List α} {k : Nat} {x : α} (h : xs[k]? = some x) : atI xs (k : Int) = some x := by
  have hl : k < xs.length := (List.getElem?_eq_some_iff.mp h).1
  unfold atI ixN
  have h0 : (0 : Int) ≤ k := by omega
  have h1 : (k : Int) < xs.length := by omega
  simp [h, h1]
  try omega
theorem i_lst {ds : List D} {d : D} (h : ds[k]? = some d) : idxop (.lst ds, f) (.int (k : Int)) = some (d, .own .no f.el) := by
  show (atI ds (k : Int)).map _ = _
  rw [atI_nat' h]
  rfl
theorem i_scr {ns : List Int} {n : Int} (h : ns[k]? = some n) : idxop (.scr ns, f) (.int (k : Int)) = some (.int n, .own .no []) := by
  show (atI ns (k : Int)).map _ = _
  rw [atI_nat' h]
  rfl
end
/-- a test of an if -/
theorem rt_no {is : List Nat} : (Fl.own .no is).rt = Ow.no := rfl
end Ix
set_option Elab.async false
set_option linter.all false
set_option maxRecDepth 100000
set_option maxHeartbeats 4000000
namespace Ix
open PySem PySem.Spec PyProof.Rows L2

theorem cell_at1 (G : Orc) (ns : List Int) (k : Nat) (hk : k ≤ 1000000) : ∃ c, runF G F1 [.scr ns, .int k] = some (.int c, .no) := by
  by_cases h : (k : Int) < ns.length
  · have h' : k < ns.length := by omega
    have e := fun f => i_scr (f := f) (List.getElem?_eq_getElem h')
    exact ⟨ns[k], by simp only [F1, h, e, runF, exs, ex, evT, ev, evs, evB, evP, evC, evI, blOf, sc, Option.bind_some, Option.bind_none, Option.map_some, Option.map_none, bindT, Fl.al, Fl.el, Fl.ow, Fl.rt, Fl.at, tpAt, movOw, als, retF, D.cl, D.cl1, D.hasL, D.hasLs, retO, retOs, cnt, Env.drp, Env.lock, Env.unlock, Out.unlock, setAll, List.getElem?_cons_zero, List.getElem?_cons_succ, List.set_cons_zero, List.set_cons_succ, List.length_cons, List.length_nil, List.map_cons, List.map_nil, List.cons_append, List.nil_append, List.append_nil, List.flatten_cons, List.flatten_nil, List.replicate_succ, List.replicate_zero, List.getElem?_nil, List.set_nil, List.all_cons, List.all_nil, List.filter_cons, List.filter_nil, List.length_set, List.isEmpty_nil, List.isEmpty_cons, List.foldl_cons, List.foldl_nil, List.append_assoc, List.contains_cons, List.zip_cons_cons, List.zip_nil_left, List.zip_nil_right, if_true, if_false, if_pos rfl, ite_true, ite_false, Bool.true_or, Bool.or_true, Bool.false_or, Bool.or_false, Bool.and_true, Bool.true_and, Bool.false_and, Bool.and_false, Bool.not_true, Bool.not_false, decide_true, decide_false, Bool.true_eq_false, Bool.false_eq_true, reduceIte, reduceCtorEq, Nat.reduceAdd, Nat.reduceSub, Nat.reduceLT, Nat.reduceLeDiff, Nat.reduceEqDiff, Nat.zero_lt_succ, Nat.reduceBEq, BEq.rfl, beq_self_eq_true, Nat.lt_add_one, and_self, and_true, true_and, Nat.zero_add, Nat.add_zero, Nat.add_one_sub_one, Nat.sub_self, Nat.sub_zero, decide_eq_true_eq, Nat.zero_le, Nat.add_zero, Nat.le_refl, b_add, b_sub, c_lt, c_le, c_gt, c_ge, c_eqI, c_neI, c_isNN, c_isIN, c_noNN, c_noIN, o_lenL, o_lenS, o_lenT, o_abs, o_listL, o_listT, o_intI, o_intB, o_max2, o_min2, neg_I]⟩
  · have m := fun f g => b_mul (a := 7) (b := k) (f := f) (g := g) (by omega) (by omega) (by omega) (by omega)
    exact ⟨7 * k + 5, by simp only [F1, h, m, runF, exs, ex, evT, ev, evs, evB, evP, evC, evI, blOf, sc, Option.bind_some, Option.bind_none, Option.map_some, Option.map_none, bindT, Fl.al, Fl.el, Fl.ow, Fl.rt, Fl.at, tpAt, movOw, als, retF, D.cl, D.cl1, D.hasL, D.hasLs, retO, retOs, cnt, Env.drp, Env.lock, Env.unlock, Out.unlock, setAll, List.getElem?_cons_zero, List.getElem?_cons_succ, List.set_cons_zero, List.set_cons_succ, List.length_cons, List.length_nil, List.map_cons, List.map_nil, List.cons_append, List.nil_append, List.append_nil, List.flatten_cons, List.flatten_nil, List.replicate_succ, List.replicate_zero, List.getElem?_nil, List.set_nil, List.all_cons, List.all_nil, List.filter_cons, List.filter_nil, List.length_set, List.isEmpty_nil, List.isEmpty_cons, List.foldl_cons, List.foldl_nil, List.append_assoc, List.contains_cons, List.zip_cons_cons, List.zip_nil_left, List.zip_nil_right, if_true, if_false, if_pos rfl, ite_true, ite_false, Bool.true_or, Bool.or_true, Bool.false_or, Bool.or_false, Bool.and_true, Bool.true_and, Bool.false_and, Bool.and_false, Bool.not_true, Bool.not_false, decide_true, decide_false, Bool.true_eq_false, Bool.false_eq_true, reduceIte, reduceCtorEq, Nat.reduceAdd, Nat.reduceSub, Nat.reduceLT, Nat.reduceLeDiff, Nat.reduceEqDiff, Nat.zero_lt_succ, Nat.reduceBEq, BEq.rfl, beq_self_eq_true, Nat.lt_add_one, and_self, and_true, true_and, Nat.zero_add, Nat.add_zero, Nat.add_one_sub_one, Nat.sub_self, Nat.sub_zero, decide_eq_true_eq, Nat.zero_le, Nat.add_zero, Nat.le_refl, b_add, b_sub, c_lt, c_le, c_gt, c_ge, c_eqI, c_neI, c_isNN, c_isIN, c_noNN, c_noIN, o_lenL, o_lenS, o_lenT, o_abs, o_listL, o_listT, o_intI, o_intB, o_max2, o_min2, neg_I]⟩
theorem mix2 (G : Orc) (c k : Int) (h0 : 0 ≤ k) (hk : k ≤ 1000000) : ∃ m, runF G F2 [.int c, .int k] = some (.int m, .no) ∧ 0 ≤ m := by
  have hkk : k * k ≤ 1000000 * 1000000 := Int.mul_le_mul hk hk h0 (by omega)
  have hk0 : 0 ≤ k * k := Int.mul_nonneg h0 h0
  have m1 := fun f g => b_mul (a := k) (b := k) (f := f) (g := g) (by omega) (by omega) (by omega) (by omega)
  have m2 := fun f g => b_mul (a := k * k) (b := 7919) (f := f) (g := g) (by omega) (by omega) (by omega) (by omega)
  have m3 := fun f g => b_mul (a := c % 1000003 + k * k * 7919 + k) (b := 48271) (f := f) (g := g) (by omega) (by omega) (by omega) (by omega)
  have d1 := fun f g => b_mod (a := c) (b := 1000003) (f := f) (g := g) (by decide)
  have d2 := fun a f g => b_mod (a := a) (b := 2147483629) (f := f) (g := g) (by decide)
  have d3 := fun a f g => b_mod (a := a) (b := 2147483587) (f := f) (g := g) (by decide)
  have d4 := fun a f g => b_div (a := a) (b := 7) (f := f) (g := g) (by decide) (by decide)
  have hn : ∀ x : Int, 0 ≤ x % 2147483629 ∧ x % 2147483629 < 2147483629 := fun x => by omega
  obtain ⟨n1, n2⟩ := hn ((c % 1000003 + k * k * 7919 + k) * 48271)
  have m4 := fun f g => b_mul (a := (c % 1000003 + k * k * 7919 + k) * 48271 % 2147483629) (b := (c % 1000003 + k * k * 7919 + k) * 48271 % 2147483629) (f := f) (g := g) (by omega) (by omega) (by omega) (by omega)
  refine ⟨_, by simp only [F2, m1, m2, m3, m4, d1, d2, d3, d4, runF, exs, ex, evT, ev, evs, evB, evP, evC, evI, blOf, sc, Option.bind_some, Option.bind_none, Option.map_some, Option.map_none, bindT, Fl.al, Fl.el, Fl.ow, Fl.rt, Fl.at, tpAt, movOw, als, retF, D.cl, D.cl1, D.hasL, D.hasLs, retO, retOs, cnt, Env.drp, Env.lock, Env.unlock, Out.unlock, setAll, List.getElem?_cons_zero, List.getElem?_cons_succ, List.set_cons_zero, List.set_cons_succ, List.length_cons, List.length_nil, List.map_cons, List.map_nil, List.cons_append, List.nil_append, List.append_nil, List.flatten_cons, List.flatten_nil, List.replicate_succ, List.replicate_zero, List.getElem?_nil, List.set_nil, List.all_cons, List.all_nil, List.filter_cons, List.filter_nil, List.length_set, List.isEmpty_nil, List.isEmpty_cons, List.foldl_cons, List.foldl_nil, List.append_assoc, List.contains_cons, List.zip_cons_cons, List.zip_nil_left, List.zip_nil_right, if_true, if_false, if_pos rfl, ite_true, ite_false, Bool.true_or, Bool.or_true, Bool.false_or, Bool.or_false, Bool.and_true, Bool.true_and, Bool.false_and, Bool.and_false, Bool.not_true, Bool.not_false, decide_true, decide_false, Bool.true_eq_false, Bool.false_eq_true, reduceIte, reduceCtorEq, Nat.reduceAdd, Nat.reduceSub, Nat.reduceLT, Nat.reduceLeDiff, Nat.reduceEqDiff, Nat.zero_lt_succ, Nat.reduceBEq, BEq.rfl, beq_self_eq_true, Nat.lt_add_one, and_self, and_true, true_and, Nat.zero_add, Nat.add_zero, Nat.add_one_sub_one, Nat.sub_self, Nat.sub_zero, decide_eq_true_eq, Nat.zero_le, Nat.add_zero, Nat.le_refl, b_add, b_sub, c_lt, c_le, c_gt, c_ge, c_eqI, c_neI, c_isNN, c_isIN, c_noNN, c_noIN, o_lenL, o_lenS, o_lenT, o_abs, o_listL, o_listT, o_intI, o_intB, o_max2, o_min2, neg_I] <;> rfl, ?_⟩
  omega
end Ix
set_option Elab.async false
set_option linter.all false
set_option maxRecDepth 100000
set_option maxHeartbeats 4000000
namespace Ix
open PySem PySem.Spec PyProof.Rows L2

section
variable {G : Orc} {env e e1 : Env} {s : IS} {r a b : ISs} {c : IE} {d : D} {o : Ow} {tg : Tg} {it : II} {p : List D × List Nat × List Nat}
theorem exs_nx (h : ex G env s = some (.nx e)) : exs G env (.cons s r) = exs G e r := by
  simp only [exs, h, Option.bind_some]
theorem exs_rt (h : ex G env s = some (.rt d o)) : exs G env (.cons s r) = some (.rt d o) := by
  simp only [exs, h, Option.bind_some]
theorem exs_ct (h : ex G env s = some (.ct e)) : exs G env (.cons s r) = some (.ct e) := by
  simp only [exs, h, Option.bind_some]
theorem ex_t (h : evT G env c = some true) : ex G env (.ifs c a b) = exs G env a := by
  simp only [ex, h, Option.bind_some, if_true]
theorem ex_f (h : evT G env c = some false) : ex G env (.ifs c a b) = exs G env b := by
  simp only [ex, h, Option.bind_some, Bool.false_eq_true, if_false]
theorem exs_t (h : evT G env c = some true) (h2 : exs G env a = some (.nx e)) : exs G env (.cons (.ifs c a b) r) = exs G e r := exs_nx ((ex_t h).trans h2)
theorem exs_f (h : evT G env c = some false) (h2 : exs G env b = some (.nx e)) : exs G env (.cons (.ifs c a b) r) = exs G e r := exs_nx ((ex_f h).trans h2)
theorem exs_tr (h : evT G env c = some true) (h2 : exs G env a = some (.rt d o)) : exs G env (.cons (.ifs c a b) r) = some (.rt d o) := exs_rt ((ex_t h).trans h2)
theorem exs_tc (h : evT G env c = some true) (h2 : exs G env a = some (.ct e)) : exs G env (.cons (.ifs c a b) r) = some (.ct e) := exs_ct ((ex_t h).trans h2)
theorem exs_for (h : evI G env it = some p) (h1 : ((env.drp p.2.1).lock p.2.2).1 = e1) (h2 : forL (fun _ e => exs G e b) tg p.1 e1 = some (.nx e)) : exs G env (.cons (.for_ tg it b) r) = exs G (e.unlock ((env.drp p.2.1).lock p.2.2).2) r := by
  refine exs_nx ?_
  simp only [ex, h, Option.bind_some, h1, h2, Option.map_some, Out.unlock]
theorem exs_forR (h : evI G env it = some p) (h1 : ((env.drp p.2.1).lock p.2.2).1 = e1) (h2 : forL (fun _ e => exs G e b) tg p.1 e1 = some (.rt d o)) : exs G env (.cons (.for_ tg it b) r) = some (.rt d o) := by
  refine exs_rt ?_
  simp only [ex, h, Option.bind_some, h1, h2, Option.map_some, Out.unlock]
theorem exs_whl (h2 : whileL (fun e => evT G e c) (fun e => exs G e b) turns env = some (.nx e)) : exs G env (.cons (.while_ c b) r) = exs G e r := by
  refine exs_nx ?_
  simp only [ex, h2]
theorem exs_whlR (h2 : whileL (fun e => evT G e c) (fun e => exs G e b) turns env = some (.rt d o)) : exs G env (.cons (.while_ c b) r) = some (.rt d o) := by
  refine exs_rt ?_
  simp only [ex, h2]
theorem runF_rt {F : FD} {ds : List D} (env : Env) (h : ds.length = F.ps.length) (he : ds.map (fun d => some (d, .no)) ++ List.replicate (F.N.length - ds.length) none = env) (h2 : exs G env F.body = some (.rt d o)) : runF G F ds = some (d, o) := by
  unfold runF
  rw [if_pos h, he, h2]
  rfl
end
theorem mix7 (G : Orc) (c k : Int) (h0 : 0 ≤ k) (hk : k ≤ 1000000) : ∃ m, runF G F7 [.int c, .int k] = some (.int m, .no) ∧ 0 ≤ m := by
  have p10 : ∀ f g, binop .Pow (.int 10, f) (.int 12, g) = some (.int 1000000000000, .own .no []) := fun f g => b_pow10 (f := f) (g := g) 12 (by decide)
  by_cases hc : 1000000000000 ≤ c
  · have d1 := fun a f g => b_div (a := a) (b := 1000000000000) (f := f) (g := g) (by decide) (by decide)
    have d2 := fun a f g => b_mod (a := a) (b := 61) (f := f) (g := g) (by decide)
    have d3 := fun a f g => b_div (a := a) (b := 2147483648) (f := f) (g := g) (by decide) (by decide)
    have d4 := fun a f g => b_mod (a := a) (b := 2147483648) (f := f) (g := g) (by decide)
    obtain ⟨e', h1, c', t, h2⟩ := forL_inv (f := fun _ e => exs G e (.cons (.set 0 (.bin .FloorDiv (.var 0) (.int 2147483648))) .nil)) (tg := .one 2) (fun _ e => ∃ c' t, e = [some (.int c', .no), some (.int k, .no), t, none])
      (ds := (List.range (k % 61).toNat).map fun n : Nat => D.int n) (env := [some (.int (c / 1000000000000 - 1), .no), some (.int k, .no), none, none]) 0 ⟨_, _, rfl⟩ (by
        rintro j d e hd ⟨c', t, rfl⟩
        exact ⟨_, _, by simp only [runF, exs, ex, evT, ev, evs, evB, evP, evC, evI, blOf, sc, Option.bind_some, Option.bind_none, Option.map_some, Option.map_none, bindT, Fl.al, Fl.el, Fl.ow, Fl.rt, Fl.at, tpAt, movOw, als, retF, D.cl, D.cl1, D.hasL, D.hasLs, retO, retOs, cnt, Env.drp, Env.lock, Env.unlock, Out.unlock, setAll, List.getElem?_cons_zero, List.getElem?_cons_succ, List.set_cons_zero, List.set_cons_succ, List.length_cons, List.length_nil, List.map_cons, List.map_nil, List.cons_append, List.nil_append, List.append_nil, List.flatten_cons, List.flatten_nil, List.replicate_succ, List.replicate_zero, List.getElem?_nil, List.set_nil, List.all_cons, List.all_nil, List.filter_cons, List.filter_nil, List.length_set, List.isEmpty_nil, List.isEmpty_cons, List.foldl_cons, List.foldl_nil, List.append_assoc, List.contains_cons, List.zip_cons_cons, List.zip_nil_left, List.zip_nil_right, if_true, if_false, if_pos rfl, ite_true, ite_false, Bool.true_or, Bool.or_true, Bool.false_or, Bool.or_false, Bool.and_true, Bool.true_and, Bool.false_and, Bool.and_false, Bool.not_true, Bool.not_false, decide_true, decide_false, Bool.true_eq_false, Bool.false_eq_true, reduceIte, reduceCtorEq, Nat.reduceAdd, Nat.reduceSub, Nat.reduceLT, Nat.reduceLeDiff, Nat.reduceEqDiff, Nat.zero_lt_succ, Nat.reduceBEq, BEq.rfl, beq_self_eq_true, Nat.lt_add_one, and_self, and_true, true_and, Nat.zero_add, Nat.add_zero, Nat.add_one_sub_one, Nat.sub_self, Nat.sub_zero, decide_eq_true_eq, Nat.zero_le, Nat.add_zero, Nat.le_refl, b_add, b_sub, c_lt, c_le, c_gt, c_ge, c_eqI, c_neI, c_isNN, c_isIN, c_noNN, c_noIN, o_lenL, o_lenS, o_lenT, o_abs, o_listL, o_listT, o_intI, o_intB, o_max2, o_min2, neg_I] <;> rfl, .inl (by simp only [d3, runF, exs, ex, evT, ev, evs, evB, evP, evC, evI, blOf, sc, Option.bind_some, Option.bind_none, Option.map_some, Option.map_none, bindT, Fl.al, Fl.el, Fl.ow, Fl.rt, Fl.at, tpAt, movOw, als, retF, D.cl, D.cl1, D.hasL, D.hasLs, retO, retOs, cnt, Env.drp, Env.lock, Env.unlock, Out.unlock, setAll, List.getElem?_cons_zero, List.getElem?_cons_succ, List.set_cons_zero, List.set_cons_succ, List.length_cons, List.length_nil, List.map_cons, List.map_nil, List.cons_append, List.nil_append, List.append_nil, List.flatten_cons, List.flatten_nil, List.replicate_succ, List.replicate_zero, List.getElem?_nil, List.set_nil, List.all_cons, List.all_nil, List.filter_cons, List.filter_nil, List.length_set, List.isEmpty_nil, List.isEmpty_cons, List.foldl_cons, List.foldl_nil, List.append_assoc, List.contains_cons, List.zip_cons_cons, List.zip_nil_left, List.zip_nil_right, if_true, if_false, if_pos rfl, ite_true, ite_false, Bool.true_or, Bool.or_true, Bool.false_or, Bool.or_false, Bool.and_true, Bool.true_and, Bool.false_and, Bool.and_false, Bool.not_true, Bool.not_false, decide_true, decide_false, Bool.true_eq_false, Bool.false_eq_true, reduceIte, reduceCtorEq, Nat.reduceAdd, Nat.reduceSub, Nat.reduceLT, Nat.reduceLeDiff, Nat.reduceEqDiff, Nat.zero_lt_succ, Nat.reduceBEq, BEq.rfl, beq_self_eq_true, Nat.lt_add_one, and_self, and_true, true_and, Nat.zero_add, Nat.add_zero, Nat.add_one_sub_one, Nat.sub_self, Nat.sub_zero, decide_eq_true_eq, Nat.zero_le, Nat.add_zero, Nat.le_refl, b_add, b_sub, c_lt, c_le, c_gt, c_ge, c_eqI, c_neI, c_isNN, c_isIN, c_noNN, c_noIN, o_lenL, o_lenS, o_lenT, o_abs, o_listL, o_listT, o_intI, o_intB, o_max2, o_min2, neg_I] <;> rfl), _, _, rfl⟩)
    have hr := okR_of (i := k % 61) (by omega) (by omega)
    subst h2
    refine ⟨c' % 2147483648, runF_rt [some (.int c, .no), some (.int k, .no), none, none] rfl rfl (exs_tr (by simp only [hc, p10, runF, exs, ex, evT, ev, evs, evB, evP, evC, evI, blOf, sc, Option.bind_some, Option.bind_none, Option.map_some, Option.map_none, bindT, Fl.al, Fl.el, Fl.ow, Fl.rt, Fl.at, tpAt, movOw, als, retF, D.cl, D.cl1, D.hasL, D.hasLs, retO, retOs, cnt, Env.drp, Env.lock, Env.unlock, Out.unlock, setAll, List.getElem?_cons_zero, List.getElem?_cons_succ, List.set_cons_zero, List.set_cons_succ, List.length_cons, List.length_nil, List.map_cons, List.map_nil, List.cons_append, List.nil_append, List.append_nil, List.flatten_cons, List.flatten_nil, List.replicate_succ, List.replicate_zero, List.getElem?_nil, List.set_nil, List.all_cons, List.all_nil, List.filter_cons, List.filter_nil, List.length_set, List.isEmpty_nil, List.isEmpty_cons, List.foldl_cons, List.foldl_nil, List.append_assoc, List.contains_cons, List.zip_cons_cons, List.zip_nil_left, List.zip_nil_right, if_true, if_false, if_pos rfl, ite_true, ite_false, Bool.true_or, Bool.or_true, Bool.false_or, Bool.or_false, Bool.and_true, Bool.true_and, Bool.false_and, Bool.and_false, Bool.not_true, Bool.not_false, decide_true, decide_false, Bool.true_eq_false, Bool.false_eq_true, reduceIte, reduceCtorEq, Nat.reduceAdd, Nat.reduceSub, Nat.reduceLT, Nat.reduceLeDiff, Nat.reduceEqDiff, Nat.zero_lt_succ, Nat.reduceBEq, BEq.rfl, beq_self_eq_true, Nat.lt_add_one, and_self, and_true, true_and, Nat.zero_add, Nat.add_zero, Nat.add_one_sub_one, Nat.sub_self, Nat.sub_zero, decide_eq_true_eq, Nat.zero_le, Nat.add_zero, Nat.le_refl, b_add, b_sub, c_lt, c_le, c_gt, c_ge, c_eqI, c_neI, c_isNN, c_isIN, c_noNN, c_noIN, o_lenL, o_lenS, o_lenT, o_abs, o_listL, o_listT, o_intI, o_intB, o_max2, o_min2, neg_I] <;> rfl) ?_), by omega⟩
    refine (exs_nx (by simp only [p10, d1, runF, exs, ex, evT, ev, evs, evB, evP, evC, evI, blOf, sc, Option.bind_some, Option.bind_none, Option.map_some, Option.map_none, bindT, Fl.al, Fl.el, Fl.ow, Fl.rt, Fl.at, tpAt, movOw, als, retF, D.cl, D.cl1, D.hasL, D.hasLs, retO, retOs, cnt, Env.drp, Env.lock, Env.unlock, Out.unlock, setAll, List.getElem?_cons_zero, List.getElem?_cons_succ, List.set_cons_zero, List.set_cons_succ, List.length_cons, List.length_nil, List.map_cons, List.map_nil, List.cons_append, List.nil_append, List.append_nil, List.flatten_cons, List.flatten_nil, List.replicate_succ, List.replicate_zero, List.getElem?_nil, List.set_nil, List.all_cons, List.all_nil, List.filter_cons, List.filter_nil, List.length_set, List.isEmpty_nil, List.isEmpty_cons, List.foldl_cons, List.foldl_nil, List.append_assoc, List.contains_cons, List.zip_cons_cons, List.zip_nil_left, List.zip_nil_right, if_true, if_false, if_pos rfl, ite_true, ite_false, Bool.true_or, Bool.or_true, Bool.false_or, Bool.or_false, Bool.and_true, Bool.true_and, Bool.false_and, Bool.and_false, Bool.not_true, Bool.not_false, decide_true, decide_false, Bool.true_eq_false, Bool.false_eq_true, reduceIte, reduceCtorEq, Nat.reduceAdd, Nat.reduceSub, Nat.reduceLT, Nat.reduceLeDiff, Nat.reduceEqDiff, Nat.zero_lt_succ, Nat.reduceBEq, BEq.rfl, beq_self_eq_true, Nat.lt_add_one, and_self, and_true, true_and, Nat.zero_add, Nat.add_zero, Nat.add_one_sub_one, Nat.sub_self, Nat.sub_zero, decide_eq_true_eq, Nat.zero_le, Nat.add_zero, Nat.le_refl, b_add, b_sub, c_lt, c_le, c_gt, c_ge, c_eqI, c_neI, c_isNN, c_isIN, c_noNN, c_noIN, o_lenL, o_lenS, o_lenT, o_abs, o_listL, o_listT, o_intI, o_intB, o_max2, o_min2, neg_I] <;> rfl)).trans ?_
    refine (exs_for (by simp only [d2, hr, runF, exs, ex, evT, ev, evs, evB, evP, evC, evI, blOf, sc, Option.bind_some, Option.bind_none, Option.map_some, Option.map_none, bindT, Fl.al, Fl.el, Fl.ow, Fl.rt, Fl.at, tpAt, movOw, als, retF, D.cl, D.cl1, D.hasL, D.hasLs, retO, retOs, cnt, Env.drp, Env.lock, Env.unlock, Out.unlock, setAll, List.getElem?_cons_zero, List.getElem?_cons_succ, List.set_cons_zero, List.set_cons_succ, List.length_cons, List.length_nil, List.map_cons, List.map_nil, List.cons_append, List.nil_append, List.append_nil, List.flatten_cons, List.flatten_nil, List.replicate_succ, List.replicate_zero, List.getElem?_nil, List.set_nil, List.all_cons, List.all_nil, List.filter_cons, List.filter_nil, List.length_set, List.isEmpty_nil, List.isEmpty_cons, List.foldl_cons, List.foldl_nil, List.append_assoc, List.contains_cons, List.zip_cons_cons, List.zip_nil_left, List.zip_nil_right, if_true, if_false, if_pos rfl, ite_true, ite_false, Bool.true_or, Bool.or_true, Bool.false_or, Bool.or_false, Bool.and_true, Bool.true_and, Bool.false_and, Bool.and_false, Bool.not_true, Bool.not_false, decide_true, decide_false, Bool.true_eq_false, Bool.false_eq_true, reduceIte, reduceCtorEq, Nat.reduceAdd, Nat.reduceSub, Nat.reduceLT, Nat.reduceLeDiff, Nat.reduceEqDiff, Nat.zero_lt_succ, Nat.reduceBEq, BEq.rfl, beq_self_eq_true, Nat.lt_add_one, and_self, and_true, true_and, Nat.zero_add, Nat.add_zero, Nat.add_one_sub_one, Nat.sub_self, Nat.sub_zero, decide_eq_true_eq, Nat.zero_le, Nat.add_zero, Nat.le_refl, b_add, b_sub, c_lt, c_le, c_gt, c_ge, c_eqI, c_neI, c_isNN, c_isIN, c_noNN, c_noIN, o_lenL, o_lenS, o_lenT, o_abs, o_listL, o_listT, o_intI, o_intB, o_max2, o_min2, neg_I] <;> rfl) rfl h1).trans ?_
    refine exs_rt (by simp only [d4, runF, exs, ex, evT, ev, evs, evB, evP, evC, evI, blOf, sc, Option.bind_some, Option.bind_none, Option.map_some, Option.map_none, bindT, Fl.al, Fl.el, Fl.ow, Fl.rt, Fl.at, tpAt, movOw, als, retF, D.cl, D.cl1, D.hasL, D.hasLs, retO, retOs, cnt, Env.drp, Env.lock, Env.unlock, Out.unlock, setAll, List.getElem?_cons_zero, List.getElem?_cons_succ, List.set_cons_zero, List.set_cons_succ, List.length_cons, List.length_nil, List.map_cons, List.map_nil, List.cons_append, List.nil_append, List.append_nil, List.flatten_cons, List.flatten_nil, List.replicate_succ, List.replicate_zero, List.getElem?_nil, List.set_nil, List.all_cons, List.all_nil, List.filter_cons, List.filter_nil, List.length_set, List.isEmpty_nil, List.isEmpty_cons, List.foldl_cons, List.foldl_nil, List.append_assoc, List.contains_cons, List.zip_cons_cons, List.zip_nil_left, List.zip_nil_right, if_true, if_false, if_pos rfl, ite_true, ite_false, Bool.true_or, Bool.or_true, Bool.false_or, Bool.or_false, Bool.and_true, Bool.true_and, Bool.false_and, Bool.and_false, Bool.not_true, Bool.not_false, decide_true, decide_false, Bool.true_eq_false, Bool.false_eq_true, reduceIte, reduceCtorEq, Nat.reduceAdd, Nat.reduceSub, Nat.reduceLT, Nat.reduceLeDiff, Nat.reduceEqDiff, Nat.zero_lt_succ, Nat.reduceBEq, BEq.rfl, beq_self_eq_true, Nat.lt_add_one, and_self, and_true, true_and, Nat.zero_add, Nat.add_zero, Nat.add_one_sub_one, Nat.sub_self, Nat.sub_zero, decide_eq_true_eq, Nat.zero_le, Nat.add_zero, Nat.le_refl, b_add, b_sub, c_lt, c_le, c_gt, c_ge, c_eqI, c_neI, c_isNN, c_isIN, c_noNN, c_noIN, o_lenL, o_lenS, o_lenT, o_abs, o_listL, o_listT, o_intI, o_intB, o_max2, o_min2, neg_I] <;> rfl)
  · have hkk : k * k ≤ 1000000 * 1000000 := Int.mul_le_mul hk hk h0 (by omega)
    have hk0 : 0 ≤ k * k := Int.mul_nonneg h0 h0
    have m1 := fun f g => b_mul (a := k) (b := k) (f := f) (g := g) (by omega) (by omega) (by omega) (by omega)
    have m2 := fun f g => b_mul (a := k * k) (b := 7919) (f := f) (g := g) (by omega) (by omega) (by omega) (by omega)
    have m3 := fun f g => b_mul (a := c % 1000003 + k * k * 7919 + k) (b := 48271) (f := f) (g := g) (by omega) (by omega) (by omega) (by omega)
    have d1 := fun f g => b_mod (a := c) (b := 1000003) (f := f) (g := g) (by decide)
    have d2 := fun a f g => b_mod (a := a) (b := 2147483629) (f := f) (g := g) (by decide)
    have d3 := fun a f g => b_mod (a := a) (b := 2147483587) (f := f) (g := g) (by decide)
    have d5 := fun a f g => b_mod (a := a) (b := 2147483579) (f := f) (g := g) (by decide)
    have d4 := fun a f g => b_div (a := a) (b := 7) (f := f) (g := g) (by decide) (by decide)
    generalize hx : (c % 1000003 + k * k * 7919 + k) * 48271 % 2147483629 = x at *
    have n1 : 0 ≤ x ∧ x < 2147483629 := by omega
    have m4 := fun f g => b_mul (a := x) (b := x) (f := f) (g := g) (by omega) (by omega) (by omega) (by omega)
    generalize hy : x * x % 2147483587 = y at *
    have n2 : 0 ≤ y ∧ y < 2147483587 := by omega
    have m5 := fun f g => b_mul (a := y) (b := y + 2) (f := f) (g := g) (by omega) (by omega) (by omega) (by omega)
    refine ⟨y * (y + 2) % 2147483579 / 7, runF_rt [some (.int c, .no), some (.int k, .no), none, none] rfl rfl ?_, by omega⟩
    refine (exs_f (by simp only [hc, p10, runF, exs, ex, evT, ev, evs, evB, evP, evC, evI, blOf, sc, Option.bind_some, Option.bind_none, Option.map_some, Option.map_none, bindT, Fl.al, Fl.el, Fl.ow, Fl.rt, Fl.at, tpAt, movOw, als, retF, D.cl, D.cl1, D.hasL, D.hasLs, retO, retOs, cnt, Env.drp, Env.lock, Env.unlock, Out.unlock, setAll, List.getElem?_cons_zero, List.getElem?_cons_succ, List.set_cons_zero, List.set_cons_succ, List.length_cons, List.length_nil, List.map_cons, List.map_nil, List.cons_append, List.nil_append, List.append_nil, List.flatten_cons, List.flatten_nil, List.replicate_succ, List.replicate_zero, List.getElem?_nil, List.set_nil, List.all_cons, List.all_nil, List.filter_cons, List.filter_nil, List.length_set, List.isEmpty_nil, List.isEmpty_cons, List.foldl_cons, List.foldl_nil, List.append_assoc, List.contains_cons, List.zip_cons_cons, List.zip_nil_left, List.zip_nil_right, if_true, if_false, if_pos rfl, ite_true, ite_false, Bool.true_or, Bool.or_true, Bool.false_or, Bool.or_false, Bool.and_true, Bool.true_and, Bool.false_and, Bool.and_false, Bool.not_true, Bool.not_false, decide_true, decide_false, Bool.true_eq_false, Bool.false_eq_true, reduceIte, reduceCtorEq, Nat.reduceAdd, Nat.reduceSub, Nat.reduceLT, Nat.reduceLeDiff, Nat.reduceEqDiff, Nat.zero_lt_succ, Nat.reduceBEq, BEq.rfl, beq_self_eq_true, Nat.lt_add_one, and_self, and_true, true_and, Nat.zero_add, Nat.add_zero, Nat.add_one_sub_one, Nat.sub_self, Nat.sub_zero, decide_eq_true_eq, Nat.zero_le, Nat.add_zero, Nat.le_refl, b_add, b_sub, c_lt, c_le, c_gt, c_ge, c_eqI, c_neI, c_isNN, c_isIN, c_noNN, c_noIN, o_lenL, o_lenS, o_lenT, o_abs, o_listL, o_listT, o_intI, o_intB, o_max2, o_min2, neg_I] <;> rfl) (by simp only [runF, exs, ex, evT, ev, evs, evB, evP, evC, evI, blOf, sc, Option.bind_some, Option.bind_none, Option.map_some, Option.map_none, bindT, Fl.al, Fl.el, Fl.ow, Fl.rt, Fl.at, tpAt, movOw, als, retF, D.cl, D.cl1, D.hasL, D.hasLs, retO, retOs, cnt, Env.drp, Env.lock, Env.unlock, Out.unlock, setAll, List.getElem?_cons_zero, List.getElem?_cons_succ, List.set_cons_zero, List.set_cons_succ, List.length_cons, List.length_nil, List.map_cons, List.map_nil, List.cons_append, List.nil_append, List.append_nil, List.flatten_cons, List.flatten_nil, List.replicate_succ, List.replicate_zero, List.getElem?_nil, List.set_nil, List.all_cons, List.all_nil, List.filter_cons, List.filter_nil, List.length_set, List.isEmpty_nil, List.isEmpty_cons, List.foldl_cons, List.foldl_nil, List.append_assoc, List.contains_cons, List.zip_cons_cons, List.zip_nil_left, List.zip_nil_right, if_true, if_false, if_pos rfl, ite_true, ite_false, Bool.true_or, Bool.or_true, Bool.false_or, Bool.or_false, Bool.and_true, Bool.true_and, Bool.false_and, Bool.and_false, Bool.not_true, Bool.not_false, decide_true, decide_false, Bool.true_eq_false, Bool.false_eq_true, reduceIte, reduceCtorEq, Nat.reduceAdd, Nat.reduceSub, Nat.reduceLT, Nat.reduceLeDiff, Nat.reduceEqDiff, Nat.zero_lt_succ, Nat.reduceBEq, BEq.rfl, beq_self_eq_true, Nat.lt_add_one, and_self, and_true, true_and, Nat.zero_add, Nat.add_zero, Nat.add_one_sub_one, Nat.sub_self, Nat.sub_zero, decide_eq_true_eq, Nat.zero_le, Nat.add_zero, Nat.le_refl, b_add, b_sub, c_lt, c_le, c_gt, c_ge, c_eqI, c_neI, c_isNN, c_isIN, c_noNN, c_noIN, o_lenL, o_lenS, o_lenT, o_abs, o_listL, o_listT, o_intI, o_intB, o_max2, o_min2, neg_I] <;> rfl)).trans ?_
    refine (exs_nx (by simp only [m1, m2, m3, d1, d2, hx, runF, exs, ex, evT, ev, evs, evB, evP, evC, evI, blOf, sc, Option.bind_some, Option.bind_none, Option.map_some, Option.map_none, bindT, Fl.al, Fl.el, Fl.ow, Fl.rt, Fl.at, tpAt, movOw, als, retF, D.cl, D.cl1, D.hasL, D.hasLs, retO, retOs, cnt, Env.drp, Env.lock, Env.unlock, Out.unlock, setAll, List.getElem?_cons_zero, List.getElem?_cons_succ, List.set_cons_zero, List.set_cons_succ, List.length_cons, List.length_nil, List.map_cons, List.map_nil, List.cons_append, List.nil_append, List.append_nil, List.flatten_cons, List.flatten_nil, List.replicate_succ, List.replicate_zero, List.getElem?_nil, List.set_nil, List.all_cons, List.all_nil, List.filter_cons, List.filter_nil, List.length_set, List.isEmpty_nil, List.isEmpty_cons, List.foldl_cons, List.foldl_nil, List.append_assoc, List.contains_cons, List.zip_cons_cons, List.zip_nil_left, List.zip_nil_right, if_true, if_false, if_pos rfl, ite_true, ite_false, Bool.true_or, Bool.or_true, Bool.false_or, Bool.or_false, Bool.and_true, Bool.true_and, Bool.false_and, Bool.and_false, Bool.not_true, Bool.not_false, decide_true, decide_false, Bool.true_eq_false, Bool.false_eq_true, reduceIte, reduceCtorEq, Nat.reduceAdd, Nat.reduceSub, Nat.reduceLT, Nat.reduceLeDiff, Nat.reduceEqDiff, Nat.zero_lt_succ, Nat.reduceBEq, BEq.rfl, beq_self_eq_true, Nat.lt_add_one, and_self, and_true, true_and, Nat.zero_add, Nat.add_zero, Nat.add_one_sub_one, Nat.sub_self, Nat.sub_zero, decide_eq_true_eq, Nat.zero_le, Nat.add_zero, Nat.le_refl, b_add, b_sub, c_lt, c_le, c_gt, c_ge, c_eqI, c_neI, c_isNN, c_isIN, c_noNN, c_noIN, o_lenL, o_lenS, o_lenT, o_abs, o_listL, o_listT, o_intI, o_intB, o_max2, o_min2, neg_I] <;> rfl)).trans ?_
    refine (exs_nx (by simp only [m4, d3, hy, runF, exs, ex, evT, ev, evs, evB, evP, evC, evI, blOf, sc, Option.bind_some, Option.bind_none, Option.map_some, Option.map_none, bindT, Fl.al, Fl.el, Fl.ow, Fl.rt, Fl.at, tpAt, movOw, als, retF, D.cl, D.cl1, D.hasL, D.hasLs, retO, retOs, cnt, Env.drp, Env.lock, Env.unlock, Out.unlock, setAll, List.getElem?_cons_zero, List.getElem?_cons_succ, List.set_cons_zero, List.set_cons_succ, List.length_cons, List.length_nil, List.map_cons, List.map_nil, List.cons_append, List.nil_append, List.append_nil, List.flatten_cons, List.flatten_nil, List.replicate_succ, List.replicate_zero, List.getElem?_nil, List.set_nil, List.all_cons, List.all_nil, List.filter_cons, List.filter_nil, List.length_set, List.isEmpty_nil, List.isEmpty_cons, List.foldl_cons, List.foldl_nil, List.append_assoc, List.contains_cons, List.zip_cons_cons, List.zip_nil_left, List.zip_nil_right, if_true, if_false, if_pos rfl, ite_true, ite_false, Bool.true_or, Bool.or_true, Bool.false_or, Bool.or_false, Bool.and_true, Bool.true_and, Bool.false_and, Bool.and_false, Bool.not_true, Bool.not_false, decide_true, decide_false, Bool.true_eq_false, Bool.false_eq_true, reduceIte, reduceCtorEq, Nat.reduceAdd, Nat.reduceSub, Nat.reduceLT, Nat.reduceLeDiff, Nat.reduceEqDiff, Nat.zero_lt_succ, Nat.reduceBEq, BEq.rfl, beq_self_eq_true, Nat.lt_add_one, and_self, and_true, true_and, Nat.zero_add, Nat.add_zero, Nat.add_one_sub_one, Nat.sub_self, Nat.sub_zero, decide_eq_true_eq, Nat.zero_le, Nat.add_zero, Nat.le_refl, b_add, b_sub, c_lt, c_le, c_gt, c_ge, c_eqI, c_neI, c_isNN, c_isIN, c_noNN, c_noIN, o_lenL, o_lenS, o_lenT, o_abs, o_listL, o_listT, o_intI, o_intB, o_max2, o_min2, neg_I] <;> rfl)).trans ?_
    refine exs_rt (by simp only [m5, d5, d4, runF, exs, ex, evT, ev, evs, evB, evP, evC, evI, blOf, sc, Option.bind_some, Option.bind_none, Option.map_some, Option.map_none, bindT, Fl.al, Fl.el, Fl.ow, Fl.rt, Fl.at, tpAt, movOw, als, retF, D.cl, D.cl1, D.hasL, D.hasLs, retO, retOs, cnt, Env.drp, Env.lock, Env.unlock, Out.unlock, setAll, List.getElem?_cons_zero, List.getElem?_cons_succ, List.set_cons_zero, List.set_cons_succ, List.length_cons, List.length_nil, List.map_cons, List.map_nil, List.cons_append, List.nil_append, List.append_nil, List.flatten_cons, List.flatten_nil, List.replicate_succ, List.replicate_zero, List.getElem?_nil, List.set_nil, List.all_cons, List.all_nil, List.filter_cons, List.filter_nil, List.length_set, List.isEmpty_nil, List.isEmpty_cons, List.foldl_cons, List.foldl_nil, List.append_assoc, List.contains_cons, List.zip_cons_cons, List.zip_nil_left, List.zip_nil_right, if_true, if_false, if_pos rfl, ite_true, ite_false, Bool.true_or, Bool.or_true, Bool.false_or, Bool.or_false, Bool.and_true, Bool.true_and, Bool.false_and, Bool.and_false, Bool.not_true, Bool.not_false, decide_true, decide_false, Bool.true_eq_false, Bool.false_eq_true, reduceIte, reduceCtorEq, Nat.reduceAdd, Nat.reduceSub, Nat.reduceLT, Nat.reduceLeDiff, Nat.reduceEqDiff, Nat.zero_lt_succ, Nat.reduceBEq, BEq.rfl, beq_self_eq_true, Nat.lt_add_one, and_self, and_true, true_and, Nat.zero_add, Nat.add_zero, Nat.add_one_sub_one, Nat.sub_self, Nat.sub_zero, decide_eq_true_eq, Nat.zero_le, Nat.add_zero, Nat.le_refl, b_add, b_sub, c_lt, c_le, c_gt, c_ge, c_eqI, c_neI, c_isNN, c_isIN, c_noNN, c_noIN, o_lenL, o_lenS, o_lenT, o_abs, o_listL, o_listT, o_intI, o_intB, o_max2, o_min2, neg_I] <;> rfl)

/-! ### nets -/
def encO : Option Int → D
  | none => .non
  | some i => .int i
abbrev Path := Nat × Nat × Option Int
def encP (p : Path) : D := .tup [.int p.1, .int p.2.1, encO p.2.2]
structure NetOk (n : Nat) (ps : List Path) : Prop where
  lo : 1 ≤ n
  hi : n ≤ 8
  at_ : ∀ p ∈ ps, p.1 < n ∧ p.2.1 < n ∧ p.1 ≠ p.2.1 ∧ ∀ m, p.2.2 = some m → 1 ≤ m
  nd : (ps.map fun p => (p.1, p.2.1)).Nodup
  len : ps.length ≤ 63
def encNet (n : Nat) (ps : List Path) : D := .tup [.int n, .lst (ps.map encP)]
def encPair (p : Nat × Nat) : D := .tup [.int p.1, .int p.2]
theorem encPair_inj {p q : Nat × Nat} (h : encPair p = encPair q) : p = q := by
  unfold encPair at h
  simp only [D.tup.injEq, List.cons.injEq, D.int.injEq, and_true] at h
  obtain ⟨h1, h2⟩ := h
  exact Prod.ext (by omega) (by omega)
theorem pairs_pu : ∀ ps : List (Nat × Nat), D.pus (ps.map encPair) = true ∧ D.deps (ps.map encPair) ≤ 1
  | [] => ⟨rfl, by simp [D.deps]⟩
  | p :: ps => by
    obtain ⟨h1, h2⟩ := pairs_pu ps
    refine ⟨by simp only [List.map_cons, D.pus, h1, encPair, D.pu]; rfl, ?_⟩
    simp only [List.map_cons, D.deps]
    simp only [encPair, D.dep, D.deps]
    simp; omega
theorem notin_pairs (s g : Nat) (ps : List (Nat × Nat)) : cmpop .NotIn (.tup [.int s, .int g]) (.lst (ps.map encPair)) = some (!decide ((s, g) ∈ ps)) := by
  classical
  show (dhas (encPair (s, g)) (.lst (ps.map encPair))).map not = _
  show (din (encPair (s, g)) (ps.map encPair)).map not = _
  obtain ⟨h1, h2⟩ := pairs_pu ps
  rw [din_pu (by rfl) h1 (by simp [encPair, D.dep, D.deps]) (by omega)]
  have : (encPair (s, g) ∈ ps.map encPair) ↔ (s, g) ∈ ps := by
    rw [List.mem_map]
    exact ⟨fun ⟨q, hq, e⟩ => encPair_inj e ▸ hq, fun h => ⟨_, h, rfl⟩⟩
  simp only [Option.map_some, this]
theorem pick4 (a b c x : Int) (ha : 1 ≤ a) (hb : 1 ≤ b) (hc : 1 ≤ c) : ∃ mo : Option Int, (∀ f, idxop (.lst [.non, .int a, .int b, .int c], f) (.int (x % 4)) = some (encO mo, .own .no f.el)) ∧ ∀ m, mo = some m → 1 ≤ m := by
  have hx : x % 4 = 0 ∨ x % 4 = 1 ∨ x % 4 = 2 ∨ x % 4 = 3 := by omega
  rcases hx with h | h | h | h <;> rw [h]
  · exact ⟨none, fun f => rfl, by simp⟩
  · exact ⟨some a, fun f => rfl, by simpa using ha⟩
  · exact ⟨some b, fun f => rfl, by simpa using hb⟩
  · exact ⟨some c, fun f => rfl, by simpa using hc⟩
end Ix
set_option Elab.async false
set_option linter.all false
set_option maxRecDepth 100000
set_option maxHeartbeats 4000000
namespace Ix
open PySem PySem.Spec PyProof.Rows L2

abbrev F3b : ISs :=
  (.cons (.set 6 (.call 2 (.cons (.idx (.var 0) (.var 5)) (.cons (.int 2) .nil))))
  (.cons (.set 7 (.bin .Mod (.var 6) (.var 2)))
  (.cons (.set 8 (.bin .Add (.int 1) (.bin .Mod (.bin .FloorDiv (.var 6) (.int 8)) (.b2 .max (.int 1) (.bin .Sub (.var 2) (.int 1))))))
  (.cons (.ifs (.cmp .Eq (.bin .Mod (.bin .FloorDiv (.var 1) (.int 8)) (.int 4)) (.int 0)) (.cons (.set 7 (.bin .Mod (.var 5) (.var 2)))
  (.cons (.set 8 (.int 1))
  .nil)) .nil)
  (.cons (.set 9 (.bin .Mod (.bin .Add (.var 7) (.var 8)) (.var 2)))
  (.cons (.set 10 (.idx (.lst (.cons .non (.cons (.bin .Add (.int 1) (.bin .Mod (.bin .FloorDiv (.var 6) (.int 512)) (.int 9))) (.cons (.bin .Add (.int 1) (.bin .Mod (.bin .FloorDiv (.var 6) (.int 512)) (.int 60))) (.cons (.bin .Add (.int 1) (.bin .Mod (.idx (.var 0) (.var 5)) (.bin .Sub (.bin .Pow (.int 10) (.int 60)) (.int 1)))) .nil))))) (.bin .Mod (.bin .FloorDiv (.var 6) (.int 64)) (.int 4))))
  (.cons (.ifs (.bop true (.cmp .NotEq (.var 7) (.var 9)) (.cons (.cmp .NotIn (.tup (.cons (.var 7) (.cons (.var 9) .nil))) (.var 4)) .nil)) (.cons (.app 4 (.tup (.cons (.var 7) (.cons (.var 9) .nil))))
  (.cons (.app 3 (.tup (.cons (.var 7) (.cons (.var 9) (.cons (.var 10) .nil)))))
  .nil)) .nil)
  .nil)))))))
theorem nat_of {x : Int} {n : Nat} (h0 : 0 ≤ x) (h : x < n) : ∃ s : Nat, x = s ∧ s < n := ⟨x.toNat, by omega, by omega⟩
theorem big60 : ∃ B : Int, (∀ f g, binop .Pow (.int 10, f) (.int 60, g) = some (.int (B + 1), .own .no [])) ∧ 0 < B := by
  refine ⟨10 ^ 60 - 1, fun f g => ?_, by decide⟩
  have := b_pow10 (f := f) (g := g) 60 (by decide)
  rw [Int.sub_add_cancel]
  exact this
theorem encP_def {s g : Nat} {m : Option Int} : D.tup [.int s, .int g, encO m] = encP (s, g, m) := rfl
theorem big_net3 (G : Orc) (ns : List Int) (hl : ns.length ≤ 63) (hc : ∀ k : Nat, k ≤ 1000000 → ∃ c, G.call 1 [.scr ns, .int k] = some (.int c, .no)) (hm : ∀ c k : Int, 0 ≤ k → k ≤ 1000000 → ∃ m, G.call 2 [.int c, .int k] = some (.int m, .no) ∧ 0 ≤ m) :
    ∃ n ps, runF G F3 [.scr ns] = some (encNet n ps, .tp [.no, .top]) ∧ NetOk n ps := by
  obtain ⟨c0, hc0⟩ := hc 0 (by omega)
  have hc0 : G.call 1 [.scr ns, .int 0] = some (.int c0, .no) := hc0
  obtain ⟨m0, hm0, p0⟩ := hm c0 1 (by omega) (by omega)
  obtain ⟨h8, e8, l8⟩ := nat_of (x := m0 % 8) (n := 8) (by omega) (by omega)
  obtain ⟨n, hn, hn1, hn8⟩ : ∃ n : Nat, (1 + m0 % 8 : Int) = (n : Nat) ∧ 1 ≤ n ∧ n ≤ 8 := ⟨1 + h8, by omega, by omega, by omega⟩
  have dm8 := fun f g => b_mod (a := m0) (b := 8) (f := f) (g := g) (by decide)
  have hmin : (if (64 : Int) < ns.length then (64 : Int) else ns.length) = ns.length := by rw [if_neg (by omega)]
  have hr := okR_of (i := 1) (by omega) (by omega)
  have hr2 := okR_of (i := ns.length) (by omega) (by omega)
  obtain ⟨e', hfor, ps, x5, x6, x7, x8, x9, x10, he, hok1, hok2, hok3⟩ := forL_inv (f := fun _ e => exs G e F3b) (tg := .one 5)
    (fun i e => ∃ (ps : List Path) (x5 x6 x7 x8 x9 x10 : Option (D × Ow)), e = [some (.scr ns, .no), some (.int m0, .no), some (.int n, .no), some (.lst (ps.map encP), .top), some (.lst ((ps.map fun p => (p.1, p.2.1)).map encPair), .top), x5, x6, x7, x8, x9, x10] ∧
      (∀ p ∈ ps, p.1 < n ∧ p.2.1 < n ∧ p.1 ≠ p.2.1 ∧ ∀ m, p.2.2 = some m → 1 ≤ m) ∧ (ps.map fun p => (p.1, p.2.1)).Nodup ∧ ps.length ≤ i)
    (ds := (List.range ((ns.length : Int) - 1).toNat).map fun k : Nat => D.int (1 + k)) (env := [some (.scr ns, .no), some (.int m0, .no), some (.int n, .no), some (.lst [], .top), some (.lst [], .top), none, none, none, none, none, none]) 0 ⟨[], _, _, _, _, _, _, rfl, by simp, List.nodup_nil, by simp⟩ (by
      rintro j d e hd ⟨ps, x5, x6, x7, x8, x9, x10, rfl, q1, q2, q3⟩
      rw [List.getElem?_map] at hd
      obtain ⟨k, hk, rfl⟩ := Option.map_eq_some_iff.mp hd
      obtain ⟨hk1, hk2⟩ := List.getElem?_eq_some_iff.mp hk
      rw [List.getElem_range] at hk2
      rw [List.length_range] at hk1
      subst hk2
      have hlt : 1 + j < ns.length := by omega
      have e1 : ((1 : Int) + (j : Nat)) = ((1 + j : Nat) : Int) := by omega
      rw [e1]
      generalize hx : ns[1 + j] = x
      have hix := fun f => i_scr (f := f) (show ns[1 + j]? = some x by rw [List.getElem?_eq_getElem hlt, hx])
      obtain ⟨dr, hdr, pdr⟩ := hm x 2 (by omega) (by omega)
      obtain ⟨s1, es1, ls1⟩ := nat_of (x := dr % n) (n := n) (Int.emod_nonneg _ (by omega)) (Int.emod_lt_of_pos _ (by omega))
      obtain ⟨s2, es2, ls2⟩ := nat_of (x := ((1 + j : Nat) : Int) % n) (n := n) (Int.emod_nonneg _ (by omega)) (Int.emod_lt_of_pos _ (by omega))
      have dn := fun a f g => b_mod (a := a) (b := (n : Nat)) (f := f) (g := g) (by omega)
      have d8 := fun a f g => b_div (a := a) (b := 8) (f := f) (g := g) (by decide) (by decide)
      have d64 := fun a f g => b_div (a := a) (b := 64) (f := f) (g := g) (by decide) (by decide)
      have d512 := fun a f g => b_div (a := a) (b := 512) (f := f) (g := g) (by decide) (by decide)
      have r4 := fun a f g => b_mod (a := a) (b := 4) (f := f) (g := g) (by decide)
      have r9 := fun a f g => b_mod (a := a) (b := 9) (f := f) (g := g) (by decide)
      have r60 := fun a f g => b_mod (a := a) (b := 60) (f := f) (g := g) (by decide)
      obtain ⟨B, p60, pB⟩ := big60
      have r1060 := fun a f g => b_mod (a := a) (b := B + 1 - 1) (f := f) (g := g) (by omega)
      have hmx : (0 : Int) < (if (n : Int) - 1 > 1 then (n : Int) - 1 else 1) := by split <;> omega
      have dmx := fun a f g => b_mod (a := a) (b := (if (n : Int) - 1 > 1 then (n : Int) - 1 else 1)) (f := f) (g := g) hmx
      obtain ⟨mo, hmo, pmo⟩ := pick4 (1 + dr / 512 % 9) (1 + dr / 512 % 60) (1 + x % (B + 1 - 1)) (dr / 64) (by omega) (by omega) (by have := Int.emod_nonneg x (show B + 1 - 1 ≠ 0 by omega); omega)
      -- the start and the step
      have mid : ∃ (s : Nat) (st : Int), s < n ∧ ∀ (r : ISs) (y9 y10 : Option (D × Ow)), exs G [some (.scr ns, .no), some (.int m0, .no), some (.int n, .no), some (.lst (ps.map encP), .top), some (.lst ((ps.map fun p => (p.1, p.2.1)).map encPair), .top), some (.int (1 + j : Nat), .no), some (.int dr, .no), some (.int (dr % n), .no), some (.int (1 + dr / 8 % (if (n : Int) - 1 > 1 then (n : Int) - 1 else 1)), .no), y9, y10]
          (.cons (.ifs (.cmp .Eq (.bin .Mod (.bin .FloorDiv (.var 1) (.int 8)) (.int 4)) (.int 0)) (.cons (.set 7 (.bin .Mod (.var 5) (.var 2))) (.cons (.set 8 (.int 1)) .nil)) .nil) r) =
          exs G [some (.scr ns, .no), some (.int m0, .no), some (.int n, .no), some (.lst (ps.map encP), .top), some (.lst ((ps.map fun p => (p.1, p.2.1)).map encPair), .top), some (.int (1 + j : Nat), .no), some (.int dr, .no), some (.int s, .no), some (.int st, .no), y9, y10] r := by
        by_cases hz : m0 / 8 % 4 = 0
        · refine ⟨s2, 1, ls2, fun r y9 y10 => ?_⟩
          refine exs_t (by simp only [d8, r4, hz, runF, exs, ex, evT, ev, evs, evB, evP, evC, evI, blOf, sc, Option.bind_some, Option.bind_none, Option.map_some, Option.map_none, bindT, Fl.al, Fl.el, Fl.ow, Fl.rt, Fl.at, tpAt, movOw, als, retF, D.cl, D.cl1, D.hasL, D.hasLs, retO, retOs, cnt, Env.drp, Env.lock, Env.unlock, Out.unlock, setAll, List.getElem?_cons_zero, List.getElem?_cons_succ, List.set_cons_zero, List.set_cons_succ, List.length_cons, List.length_nil, List.map_cons, List.map_nil, List.cons_append, List.nil_append, List.append_nil, List.flatten_cons, List.flatten_nil, List.replicate_succ, List.replicate_zero, List.getElem?_nil, List.set_nil, List.all_cons, List.all_nil, List.filter_cons, List.filter_nil, List.length_set, List.isEmpty_nil, List.isEmpty_cons, List.foldl_cons, List.foldl_nil, List.append_assoc, List.contains_cons, List.zip_cons_cons, List.zip_nil_left, List.zip_nil_right, if_true, if_false, if_pos rfl, ite_true, ite_false, Bool.true_or, Bool.or_true, Bool.false_or, Bool.or_false, Bool.and_true, Bool.true_and, Bool.false_and, Bool.and_false, Bool.not_true, Bool.not_false, decide_true, decide_false, Bool.true_eq_false, Bool.false_eq_true, reduceIte, reduceCtorEq, Nat.reduceAdd, Nat.reduceSub, Nat.reduceLT, Nat.reduceLeDiff, Nat.reduceEqDiff, Nat.zero_lt_succ, Nat.reduceBEq, BEq.rfl, beq_self_eq_true, Nat.lt_add_one, and_self, and_true, true_and, Nat.zero_add, Nat.add_zero, Nat.add_one_sub_one, Nat.sub_self, Nat.sub_zero, decide_eq_true_eq, Nat.zero_le, Nat.add_zero, Nat.le_refl, b_add, b_sub, c_lt, c_le, c_gt, c_ge, c_eqI, c_neI, c_isNN, c_isIN, c_noNN, c_noIN, o_lenL, o_lenS, o_lenT, o_abs, o_listL, o_listT, o_intI, o_intB, o_max2, o_min2, neg_I] <;> rfl) (by simp only [dn, es2, runF, exs, ex, evT, ev, evs, evB, evP, evC, evI, blOf, sc, Option.bind_some, Option.bind_none, Option.map_some, Option.map_none, bindT, Fl.al, Fl.el, Fl.ow, Fl.rt, Fl.at, tpAt, movOw, als, retF, D.cl, D.cl1, D.hasL, D.hasLs, retO, retOs, cnt, Env.drp, Env.lock, Env.unlock, Out.unlock, setAll, List.getElem?_cons_zero, List.getElem?_cons_succ, List.set_cons_zero, List.set_cons_succ, List.length_cons, List.length_nil, List.map_cons, List.map_nil, List.cons_append, List.nil_append, List.append_nil, List.flatten_cons, List.flatten_nil, List.replicate_succ, List.replicate_zero, List.getElem?_nil, List.set_nil, List.all_cons, List.all_nil, List.filter_cons, List.filter_nil, List.length_set, List.isEmpty_nil, List.isEmpty_cons, List.foldl_cons, List.foldl_nil, List.append_assoc, List.contains_cons, List.zip_cons_cons, List.zip_nil_left, List.zip_nil_right, if_true, if_false, if_pos rfl, ite_true, ite_false, Bool.true_or, Bool.or_true, Bool.false_or, Bool.or_false, Bool.and_true, Bool.true_and, Bool.false_and, Bool.and_false, Bool.not_true, Bool.not_false, decide_true, decide_false, Bool.true_eq_false, Bool.false_eq_true, reduceIte, reduceCtorEq, Nat.reduceAdd, Nat.reduceSub, Nat.reduceLT, Nat.reduceLeDiff, Nat.reduceEqDiff, Nat.zero_lt_succ, Nat.reduceBEq, BEq.rfl, beq_self_eq_true, Nat.lt_add_one, and_self, and_true, true_and, Nat.zero_add, Nat.add_zero, Nat.add_one_sub_one, Nat.sub_self, Nat.sub_zero, decide_eq_true_eq, Nat.zero_le, Nat.add_zero, Nat.le_refl, b_add, b_sub, c_lt, c_le, c_gt, c_ge, c_eqI, c_neI, c_isNN, c_isIN, c_noNN, c_noIN, o_lenL, o_lenS, o_lenT, o_abs, o_listL, o_listT, o_intI, o_intB, o_max2, o_min2, neg_I])
        · refine ⟨s1, 1 + dr / 8 % (if (n : Int) - 1 > 1 then (n : Int) - 1 else 1), ls1, fun r y9 y10 => ?_⟩
          rw [es1]
          refine exs_f (by simp only [d8, r4, hz, runF, exs, ex, evT, ev, evs, evB, evP, evC, evI, blOf, sc, Option.bind_some, Option.bind_none, Option.map_some, Option.map_none, bindT, Fl.al, Fl.el, Fl.ow, Fl.rt, Fl.at, tpAt, movOw, als, retF, D.cl, D.cl1, D.hasL, D.hasLs, retO, retOs, cnt, Env.drp, Env.lock, Env.unlock, Out.unlock, setAll, List.getElem?_cons_zero, List.getElem?_cons_succ, List.set_cons_zero, List.set_cons_succ, List.length_cons, List.length_nil, List.map_cons, List.map_nil, List.cons_append, List.nil_append, List.append_nil, List.flatten_cons, List.flatten_nil, List.replicate_succ, List.replicate_zero, List.getElem?_nil, List.set_nil, List.all_cons, List.all_nil, List.filter_cons, List.filter_nil, List.length_set, List.isEmpty_nil, List.isEmpty_cons, List.foldl_cons, List.foldl_nil, List.append_assoc, List.contains_cons, List.zip_cons_cons, List.zip_nil_left, List.zip_nil_right, if_true, if_false, if_pos rfl, ite_true, ite_false, Bool.true_or, Bool.or_true, Bool.false_or, Bool.or_false, Bool.and_true, Bool.true_and, Bool.false_and, Bool.and_false, Bool.not_true, Bool.not_false, decide_true, decide_false, Bool.true_eq_false, Bool.false_eq_true, reduceIte, reduceCtorEq, Nat.reduceAdd, Nat.reduceSub, Nat.reduceLT, Nat.reduceLeDiff, Nat.reduceEqDiff, Nat.zero_lt_succ, Nat.reduceBEq, BEq.rfl, beq_self_eq_true, Nat.lt_add_one, and_self, and_true, true_and, Nat.zero_add, Nat.add_zero, Nat.add_one_sub_one, Nat.sub_self, Nat.sub_zero, decide_eq_true_eq, Nat.zero_le, Nat.add_zero, Nat.le_refl, b_add, b_sub, c_lt, c_le, c_gt, c_ge, c_eqI, c_neI, c_isNN, c_isIN, c_noNN, c_noIN, o_lenL, o_lenS, o_lenT, o_abs, o_listL, o_listT, o_intI, o_intB, o_max2, o_min2, neg_I] <;> rfl) (by simp only [runF, exs, ex, evT, ev, evs, evB, evP, evC, evI, blOf, sc, Option.bind_some, Option.bind_none, Option.map_some, Option.map_none, bindT, Fl.al, Fl.el, Fl.ow, Fl.rt, Fl.at, tpAt, movOw, als, retF, D.cl, D.cl1, D.hasL, D.hasLs, retO, retOs, cnt, Env.drp, Env.lock, Env.unlock, Out.unlock, setAll, List.getElem?_cons_zero, List.getElem?_cons_succ, List.set_cons_zero, List.set_cons_succ, List.length_cons, List.length_nil, List.map_cons, List.map_nil, List.cons_append, List.nil_append, List.append_nil, List.flatten_cons, List.flatten_nil, List.replicate_succ, List.replicate_zero, List.getElem?_nil, List.set_nil, List.all_cons, List.all_nil, List.filter_cons, List.filter_nil, List.length_set, List.isEmpty_nil, List.isEmpty_cons, List.foldl_cons, List.foldl_nil, List.append_assoc, List.contains_cons, List.zip_cons_cons, List.zip_nil_left, List.zip_nil_right, if_true, if_false, if_pos rfl, ite_true, ite_false, Bool.true_or, Bool.or_true, Bool.false_or, Bool.or_false, Bool.and_true, Bool.true_and, Bool.false_and, Bool.and_false, Bool.not_true, Bool.not_false, decide_true, decide_false, Bool.true_eq_false, Bool.false_eq_true, reduceIte, reduceCtorEq, Nat.reduceAdd, Nat.reduceSub, Nat.reduceLT, Nat.reduceLeDiff, Nat.reduceEqDiff, Nat.zero_lt_succ, Nat.reduceBEq, BEq.rfl, beq_self_eq_true, Nat.lt_add_one, and_self, and_true, true_and, Nat.zero_add, Nat.add_zero, Nat.add_one_sub_one, Nat.sub_self, Nat.sub_zero, decide_eq_true_eq, Nat.zero_le, Nat.add_zero, Nat.le_refl, b_add, b_sub, c_lt, c_le, c_gt, c_ge, c_eqI, c_neI, c_isNN, c_isIN, c_noNN, c_noIN, o_lenL, o_lenS, o_lenT, o_abs, o_listL, o_listT, o_intI, o_intB, o_max2, o_min2, neg_I])
      obtain ⟨s, st, hs, hmid⟩ := mid
      obtain ⟨g, eg, lg⟩ := nat_of (x := ((s : Int) + st) % n) (n := n) (Int.emod_nonneg _ (by omega)) (Int.emod_lt_of_pos _ (by omega))
      have hnp := notin_pairs s g (ps.map fun p => (p.1, p.2.1))
      have hne : ((s : Int) = g) ↔ s = g := by omega
      have hsz : ps.length < szb := by simp only [szb]; omega
      have start : ∀ e2, exs G [some (.scr ns, .no), some (.int m0, .no), some (.int n, .no), some (.lst (ps.map encP), .top), some (.lst ((ps.map fun p => (p.1, p.2.1)).map encPair), .top), some (.int (1 + j : Nat), .no), some (.int dr, .no), some (.int s, .no), some (.int st, .no), some (.int g, .no), some (encO mo, .no)]
          (.cons (.ifs (.bop true (.cmp .NotEq (.var 7) (.var 9)) (.cons (.cmp .NotIn (.tup (.cons (.var 7) (.cons (.var 9) .nil))) (.var 4)) .nil)) (.cons (.app 4 (.tup (.cons (.var 7) (.cons (.var 9) .nil)))) (.cons (.app 3 (.tup (.cons (.var 7) (.cons (.var 9) (.cons (.var 10) .nil))))) .nil)) .nil) .nil) = some (.nx e2) →
          exs G [some (.scr ns, .no), some (.int m0, .no), some (.int n, .no), some (.lst (ps.map encP), .top), some (.lst ((ps.map fun p => (p.1, p.2.1)).map encPair), .top), some (.int (1 + j : Nat), .no), x6, x7, x8, x9, x10] F3b = some (.nx e2) := fun e2 h2 => by
        refine (exs_nx (by simp only [hix, hdr, runF, exs, ex, evT, ev, evs, evB, evP, evC, evI, blOf, sc, Option.bind_some, Option.bind_none, Option.map_some, Option.map_none, bindT, Fl.al, Fl.el, Fl.ow, Fl.rt, Fl.at, tpAt, movOw, als, retF, D.cl, D.cl1, D.hasL, D.hasLs, retO, retOs, cnt, Env.drp, Env.lock, Env.unlock, Out.unlock, setAll, List.getElem?_cons_zero, List.getElem?_cons_succ, List.set_cons_zero, List.set_cons_succ, List.length_cons, List.length_nil, List.map_cons, List.map_nil, List.cons_append, List.nil_append, List.append_nil, List.flatten_cons, List.flatten_nil, List.replicate_succ, List.replicate_zero, List.getElem?_nil, List.set_nil, List.all_cons, List.all_nil, List.filter_cons, List.filter_nil, List.length_set, List.isEmpty_nil, List.isEmpty_cons, List.foldl_cons, List.foldl_nil, List.append_assoc, List.contains_cons, List.zip_cons_cons, List.zip_nil_left, List.zip_nil_right, if_true, if_false, if_pos rfl, ite_true, ite_false, Bool.true_or, Bool.or_true, Bool.false_or, Bool.or_false, Bool.and_true, Bool.true_and, Bool.false_and, Bool.and_false, Bool.not_true, Bool.not_false, decide_true, decide_false, Bool.true_eq_false, Bool.false_eq_true, reduceIte, reduceCtorEq, Nat.reduceAdd, Nat.reduceSub, Nat.reduceLT, Nat.reduceLeDiff, Nat.reduceEqDiff, Nat.zero_lt_succ, Nat.reduceBEq, BEq.rfl, beq_self_eq_true, Nat.lt_add_one, and_self, and_true, true_and, Nat.zero_add, Nat.add_zero, Nat.add_one_sub_one, Nat.sub_self, Nat.sub_zero, decide_eq_true_eq, Nat.zero_le, Nat.add_zero, Nat.le_refl, b_add, b_sub, c_lt, c_le, c_gt, c_ge, c_eqI, c_neI, c_isNN, c_isIN, c_noNN, c_noIN, o_lenL, o_lenS, o_lenT, o_abs, o_listL, o_listT, o_intI, o_intB, o_max2, o_min2, neg_I] <;> rfl)).trans ?_
        refine (exs_nx (by simp only [dn, runF, exs, ex, evT, ev, evs, evB, evP, evC, evI, blOf, sc, Option.bind_some, Option.bind_none, Option.map_some, Option.map_none, bindT, Fl.al, Fl.el, Fl.ow, Fl.rt, Fl.at, tpAt, movOw, als, retF, D.cl, D.cl1, D.hasL, D.hasLs, retO, retOs, cnt, Env.drp, Env.lock, Env.unlock, Out.unlock, setAll, List.getElem?_cons_zero, List.getElem?_cons_succ, List.set_cons_zero, List.set_cons_succ, List.length_cons, List.length_nil, List.map_cons, List.map_nil, List.cons_append, List.nil_append, List.append_nil, List.flatten_cons, List.flatten_nil, List.replicate_succ, List.replicate_zero, List.getElem?_nil, List.set_nil, List.all_cons, List.all_nil, List.filter_cons, List.filter_nil, List.length_set, List.isEmpty_nil, List.isEmpty_cons, List.foldl_cons, List.foldl_nil, List.append_assoc, List.contains_cons, List.zip_cons_cons, List.zip_nil_left, List.zip_nil_right, if_true, if_false, if_pos rfl, ite_true, ite_false, Bool.true_or, Bool.or_true, Bool.false_or, Bool.or_false, Bool.and_true, Bool.true_and, Bool.false_and, Bool.and_false, Bool.not_true, Bool.not_false, decide_true, decide_false, Bool.true_eq_false, Bool.false_eq_true, reduceIte, reduceCtorEq, Nat.reduceAdd, Nat.reduceSub, Nat.reduceLT, Nat.reduceLeDiff, Nat.reduceEqDiff, Nat.zero_lt_succ, Nat.reduceBEq, BEq.rfl, beq_self_eq_true, Nat.lt_add_one, and_self, and_true, true_and, Nat.zero_add, Nat.add_zero, Nat.add_one_sub_one, Nat.sub_self, Nat.sub_zero, decide_eq_true_eq, Nat.zero_le, Nat.add_zero, Nat.le_refl, b_add, b_sub, c_lt, c_le, c_gt, c_ge, c_eqI, c_neI, c_isNN, c_isIN, c_noNN, c_noIN, o_lenL, o_lenS, o_lenT, o_abs, o_listL, o_listT, o_intI, o_intB, o_max2, o_min2, neg_I] <;> rfl)).trans ?_
        refine (exs_nx (by simp only [d8, dmx, runF, exs, ex, evT, ev, evs, evB, evP, evC, evI, blOf, sc, Option.bind_some, Option.bind_none, Option.map_some, Option.map_none, bindT, Fl.al, Fl.el, Fl.ow, Fl.rt, Fl.at, tpAt, movOw, als, retF, D.cl, D.cl1, D.hasL, D.hasLs, retO, retOs, cnt, Env.drp, Env.lock, Env.unlock, Out.unlock, setAll, List.getElem?_cons_zero, List.getElem?_cons_succ, List.set_cons_zero, List.set_cons_succ, List.length_cons, List.length_nil, List.map_cons, List.map_nil, List.cons_append, List.nil_append, List.append_nil, List.flatten_cons, List.flatten_nil, List.replicate_succ, List.replicate_zero, List.getElem?_nil, List.set_nil, List.all_cons, List.all_nil, List.filter_cons, List.filter_nil, List.length_set, List.isEmpty_nil, List.isEmpty_cons, List.foldl_cons, List.foldl_nil, List.append_assoc, List.contains_cons, List.zip_cons_cons, List.zip_nil_left, List.zip_nil_right, if_true, if_false, if_pos rfl, ite_true, ite_false, Bool.true_or, Bool.or_true, Bool.false_or, Bool.or_false, Bool.and_true, Bool.true_and, Bool.false_and, Bool.and_false, Bool.not_true, Bool.not_false, decide_true, decide_false, Bool.true_eq_false, Bool.false_eq_true, reduceIte, reduceCtorEq, Nat.reduceAdd, Nat.reduceSub, Nat.reduceLT, Nat.reduceLeDiff, Nat.reduceEqDiff, Nat.zero_lt_succ, Nat.reduceBEq, BEq.rfl, beq_self_eq_true, Nat.lt_add_one, and_self, and_true, true_and, Nat.zero_add, Nat.add_zero, Nat.add_one_sub_one, Nat.sub_self, Nat.sub_zero, decide_eq_true_eq, Nat.zero_le, Nat.add_zero, Nat.le_refl, b_add, b_sub, c_lt, c_le, c_gt, c_ge, c_eqI, c_neI, c_isNN, c_isIN, c_noNN, c_noIN, o_lenL, o_lenS, o_lenT, o_abs, o_listL, o_listT, o_intI, o_intB, o_max2, o_min2, neg_I] <;> rfl)).trans ?_
        refine (hmid _ x9 x10).trans ?_
        refine (exs_nx (by simp only [dn, eg, runF, exs, ex, evT, ev, evs, evB, evP, evC, evI, blOf, sc, Option.bind_some, Option.bind_none, Option.map_some, Option.map_none, bindT, Fl.al, Fl.el, Fl.ow, Fl.rt, Fl.at, tpAt, movOw, als, retF, D.cl, D.cl1, D.hasL, D.hasLs, retO, retOs, cnt, Env.drp, Env.lock, Env.unlock, Out.unlock, setAll, List.getElem?_cons_zero, List.getElem?_cons_succ, List.set_cons_zero, List.set_cons_succ, List.length_cons, List.length_nil, List.map_cons, List.map_nil, List.cons_append, List.nil_append, List.append_nil, List.flatten_cons, List.flatten_nil, List.replicate_succ, List.replicate_zero, List.getElem?_nil, List.set_nil, List.all_cons, List.all_nil, List.filter_cons, List.filter_nil, List.length_set, List.isEmpty_nil, List.isEmpty_cons, List.foldl_cons, List.foldl_nil, List.append_assoc, List.contains_cons, List.zip_cons_cons, List.zip_nil_left, List.zip_nil_right, if_true, if_false, if_pos rfl, ite_true, ite_false, Bool.true_or, Bool.or_true, Bool.false_or, Bool.or_false, Bool.and_true, Bool.true_and, Bool.false_and, Bool.and_false, Bool.not_true, Bool.not_false, decide_true, decide_false, Bool.true_eq_false, Bool.false_eq_true, reduceIte, reduceCtorEq, Nat.reduceAdd, Nat.reduceSub, Nat.reduceLT, Nat.reduceLeDiff, Nat.reduceEqDiff, Nat.zero_lt_succ, Nat.reduceBEq, BEq.rfl, beq_self_eq_true, Nat.lt_add_one, and_self, and_true, true_and, Nat.zero_add, Nat.add_zero, Nat.add_one_sub_one, Nat.sub_self, Nat.sub_zero, decide_eq_true_eq, Nat.zero_le, Nat.add_zero, Nat.le_refl, b_add, b_sub, c_lt, c_le, c_gt, c_ge, c_eqI, c_neI, c_isNN, c_isIN, c_noNN, c_noIN, o_lenL, o_lenS, o_lenT, o_abs, o_listL, o_listT, o_intI, o_intB, o_max2, o_min2, neg_I] <;> rfl)).trans ?_
        refine (exs_nx (by simp only [d512, r9, r60, p60, r1060, d64, r4, hix, hmo, runF, exs, ex, evT, ev, evs, evB, evP, evC, evI, blOf, sc, Option.bind_some, Option.bind_none, Option.map_some, Option.map_none, bindT, Fl.al, Fl.el, Fl.ow, Fl.rt, Fl.at, tpAt, movOw, als, retF, D.cl, D.cl1, D.hasL, D.hasLs, retO, retOs, cnt, Env.drp, Env.lock, Env.unlock, Out.unlock, setAll, List.getElem?_cons_zero, List.getElem?_cons_succ, List.set_cons_zero, List.set_cons_succ, List.length_cons, List.length_nil, List.map_cons, List.map_nil, List.cons_append, List.nil_append, List.append_nil, List.flatten_cons, List.flatten_nil, List.replicate_succ, List.replicate_zero, List.getElem?_nil, List.set_nil, List.all_cons, List.all_nil, List.filter_cons, List.filter_nil, List.length_set, List.isEmpty_nil, List.isEmpty_cons, List.foldl_cons, List.foldl_nil, List.append_assoc, List.contains_cons, List.zip_cons_cons, List.zip_nil_left, List.zip_nil_right, if_true, if_false, if_pos rfl, ite_true, ite_false, Bool.true_or, Bool.or_true, Bool.false_or, Bool.or_false, Bool.and_true, Bool.true_and, Bool.false_and, Bool.and_false, Bool.not_true, Bool.not_false, decide_true, decide_false, Bool.true_eq_false, Bool.false_eq_true, reduceIte, reduceCtorEq, Nat.reduceAdd, Nat.reduceSub, Nat.reduceLT, Nat.reduceLeDiff, Nat.reduceEqDiff, Nat.zero_lt_succ, Nat.reduceBEq, BEq.rfl, beq_self_eq_true, Nat.lt_add_one, and_self, and_true, true_and, Nat.zero_add, Nat.add_zero, Nat.add_one_sub_one, Nat.sub_self, Nat.sub_zero, decide_eq_true_eq, Nat.zero_le, Nat.add_zero, Nat.le_refl, b_add, b_sub, c_lt, c_le, c_gt, c_ge, c_eqI, c_neI, c_isNN, c_isIN, c_noNN, c_noIN, o_lenL, o_lenS, o_lenT, o_abs, o_listL, o_listT, o_intI, o_intB, o_max2, o_min2, neg_I] <;> rfl)).trans ?_
        exact h2
      by_cases hsg : s = g
      · refine ⟨_, _, by simp only [runF, exs, ex, evT, ev, evs, evB, evP, evC, evI, blOf, sc, Option.bind_some, Option.bind_none, Option.map_some, Option.map_none, bindT, Fl.al, Fl.el, Fl.ow, Fl.rt, Fl.at, tpAt, movOw, als, retF, D.cl, D.cl1, D.hasL, D.hasLs, retO, retOs, cnt, Env.drp, Env.lock, Env.unlock, Out.unlock, setAll, List.getElem?_cons_zero, List.getElem?_cons_succ, List.set_cons_zero, List.set_cons_succ, List.length_cons, List.length_nil, List.map_cons, List.map_nil, List.cons_append, List.nil_append, List.append_nil, List.flatten_cons, List.flatten_nil, List.replicate_succ, List.replicate_zero, List.getElem?_nil, List.set_nil, List.all_cons, List.all_nil, List.filter_cons, List.filter_nil, List.length_set, List.isEmpty_nil, List.isEmpty_cons, List.foldl_cons, List.foldl_nil, List.append_assoc, List.contains_cons, List.zip_cons_cons, List.zip_nil_left, List.zip_nil_right, if_true, if_false, if_pos rfl, ite_true, ite_false, Bool.true_or, Bool.or_true, Bool.false_or, Bool.or_false, Bool.and_true, Bool.true_and, Bool.false_and, Bool.and_false, Bool.not_true, Bool.not_false, decide_true, decide_false, Bool.true_eq_false, Bool.false_eq_true, reduceIte, reduceCtorEq, Nat.reduceAdd, Nat.reduceSub, Nat.reduceLT, Nat.reduceLeDiff, Nat.reduceEqDiff, Nat.zero_lt_succ, Nat.reduceBEq, BEq.rfl, beq_self_eq_true, Nat.lt_add_one, and_self, and_true, true_and, Nat.zero_add, Nat.add_zero, Nat.add_one_sub_one, Nat.sub_self, Nat.sub_zero, decide_eq_true_eq, Nat.zero_le, Nat.add_zero, Nat.le_refl, b_add, b_sub, c_lt, c_le, c_gt, c_ge, c_eqI, c_neI, c_isNN, c_isIN, c_noNN, c_noIN, o_lenL, o_lenS, o_lenT, o_abs, o_listL, o_listT, o_intI, o_intB, o_max2, o_min2, neg_I] <;> rfl, .inl (start _ ?_), ps, some (.int (1 + j : Nat), .no), some (.int dr, .no), some (.int s, .no), some (.int st, .no), some (.int g, .no), some (encO mo, .no), rfl, q1, q2, by omega⟩
        refine exs_f ?_ rfl
        subst hsg
        simp only [runF, exs, ex, evT, ev, evs, evB, evP, evC, evI, blOf, sc, Option.bind_some, Option.bind_none, Option.map_some, Option.map_none, bindT, Fl.al, Fl.el, Fl.ow, Fl.rt, Fl.at, tpAt, movOw, als, retF, D.cl, D.cl1, D.hasL, D.hasLs, retO, retOs, cnt, Env.drp, Env.lock, Env.unlock, Out.unlock, setAll, List.getElem?_cons_zero, List.getElem?_cons_succ, List.set_cons_zero, List.set_cons_succ, List.length_cons, List.length_nil, List.map_cons, List.map_nil, List.cons_append, List.nil_append, List.append_nil, List.flatten_cons, List.flatten_nil, List.replicate_succ, List.replicate_zero, List.getElem?_nil, List.set_nil, List.all_cons, List.all_nil, List.filter_cons, List.filter_nil, List.length_set, List.isEmpty_nil, List.isEmpty_cons, List.foldl_cons, List.foldl_nil, List.append_assoc, List.contains_cons, List.zip_cons_cons, List.zip_nil_left, List.zip_nil_right, if_true, if_false, if_pos rfl, ite_true, ite_false, Bool.true_or, Bool.or_true, Bool.false_or, Bool.or_false, Bool.and_true, Bool.true_and, Bool.false_and, Bool.and_false, Bool.not_true, Bool.not_false, decide_true, decide_false, Bool.true_eq_false, Bool.false_eq_true, reduceIte, reduceCtorEq, Nat.reduceAdd, Nat.reduceSub, Nat.reduceLT, Nat.reduceLeDiff, Nat.reduceEqDiff, Nat.zero_lt_succ, Nat.reduceBEq, BEq.rfl, beq_self_eq_true, Nat.lt_add_one, and_self, and_true, true_and, Nat.zero_add, Nat.add_zero, Nat.add_one_sub_one, Nat.sub_self, Nat.sub_zero, decide_eq_true_eq, Nat.zero_le, Nat.add_zero, Nat.le_refl, b_add, b_sub, c_lt, c_le, c_gt, c_ge, c_eqI, c_neI, c_isNN, c_isIN, c_noNN, c_noIN, o_lenL, o_lenS, o_lenT, o_abs, o_listL, o_listT, o_intI, o_intB, o_max2, o_min2, neg_I]
      · by_cases hin : (s, g) ∈ ps.map fun p => (p.1, p.2.1)
        · refine ⟨_, _, by simp only [runF, exs, ex, evT, ev, evs, evB, evP, evC, evI, blOf, sc, Option.bind_some, Option.bind_none, Option.map_some, Option.map_none, bindT, Fl.al, Fl.el, Fl.ow, Fl.rt, Fl.at, tpAt, movOw, als, retF, D.cl, D.cl1, D.hasL, D.hasLs, retO, retOs, cnt, Env.drp, Env.lock, Env.unlock, Out.unlock, setAll, List.getElem?_cons_zero, List.getElem?_cons_succ, List.set_cons_zero, List.set_cons_succ, List.length_cons, List.length_nil, List.map_cons, List.map_nil, List.cons_append, List.nil_append, List.append_nil, List.flatten_cons, List.flatten_nil, List.replicate_succ, List.replicate_zero, List.getElem?_nil, List.set_nil, List.all_cons, List.all_nil, List.filter_cons, List.filter_nil, List.length_set, List.isEmpty_nil, List.isEmpty_cons, List.foldl_cons, List.foldl_nil, List.append_assoc, List.contains_cons, List.zip_cons_cons, List.zip_nil_left, List.zip_nil_right, if_true, if_false, if_pos rfl, ite_true, ite_false, Bool.true_or, Bool.or_true, Bool.false_or, Bool.or_false, Bool.and_true, Bool.true_and, Bool.false_and, Bool.and_false, Bool.not_true, Bool.not_false, decide_true, decide_false, Bool.true_eq_false, Bool.false_eq_true, reduceIte, reduceCtorEq, Nat.reduceAdd, Nat.reduceSub, Nat.reduceLT, Nat.reduceLeDiff, Nat.reduceEqDiff, Nat.zero_lt_succ, Nat.reduceBEq, BEq.rfl, beq_self_eq_true, Nat.lt_add_one, and_self, and_true, true_and, Nat.zero_add, Nat.add_zero, Nat.add_one_sub_one, Nat.sub_self, Nat.sub_zero, decide_eq_true_eq, Nat.zero_le, Nat.add_zero, Nat.le_refl, b_add, b_sub, c_lt, c_le, c_gt, c_ge, c_eqI, c_neI, c_isNN, c_isIN, c_noNN, c_noIN, o_lenL, o_lenS, o_lenT, o_abs, o_listL, o_listT, o_intI, o_intB, o_max2, o_min2, neg_I] <;> rfl, .inl (start _ ?_), ps, some (.int (1 + j : Nat), .no), some (.int dr, .no), some (.int s, .no), some (.int st, .no), some (.int g, .no), some (encO mo, .no), rfl, q1, q2, by omega⟩
          refine exs_f ?_ rfl
          simp only [hne, hsg, hnp, hin, not_false_eq_true, runF, exs, ex, evT, ev, evs, evB, evP, evC, evI, blOf, sc, Option.bind_some, Option.bind_none, Option.map_some, Option.map_none, bindT, Fl.al, Fl.el, Fl.ow, Fl.rt, Fl.at, tpAt, movOw, als, retF, D.cl, D.cl1, D.hasL, D.hasLs, retO, retOs, cnt, Env.drp, Env.lock, Env.unlock, Out.unlock, setAll, List.getElem?_cons_zero, List.getElem?_cons_succ, List.set_cons_zero, List.set_cons_succ, List.length_cons, List.length_nil, List.map_cons, List.map_nil, List.cons_append, List.nil_append, List.append_nil, List.flatten_cons, List.flatten_nil, List.replicate_succ, List.replicate_zero, List.getElem?_nil, List.set_nil, List.all_cons, List.all_nil, List.filter_cons, List.filter_nil, List.length_set, List.isEmpty_nil, List.isEmpty_cons, List.foldl_cons, List.foldl_nil, List.append_assoc, List.contains_cons, List.zip_cons_cons, List.zip_nil_left, List.zip_nil_right, if_true, if_false, if_pos rfl, ite_true, ite_false, Bool.true_or, Bool.or_true, Bool.false_or, Bool.or_false, Bool.and_true, Bool.true_and, Bool.false_and, Bool.and_false, Bool.not_true, Bool.not_false, decide_true, decide_false, Bool.true_eq_false, Bool.false_eq_true, reduceIte, reduceCtorEq, Nat.reduceAdd, Nat.reduceSub, Nat.reduceLT, Nat.reduceLeDiff, Nat.reduceEqDiff, Nat.zero_lt_succ, Nat.reduceBEq, BEq.rfl, beq_self_eq_true, Nat.lt_add_one, and_self, and_true, true_and, Nat.zero_add, Nat.add_zero, Nat.add_one_sub_one, Nat.sub_self, Nat.sub_zero, decide_eq_true_eq, Nat.zero_le, Nat.add_zero, Nat.le_refl, b_add, b_sub, c_lt, c_le, c_gt, c_ge, c_eqI, c_neI, c_isNN, c_isIN, c_noNN, c_noIN, o_lenL, o_lenS, o_lenT, o_abs, o_listL, o_listT, o_intI, o_intB, o_max2, o_min2, neg_I]
        · refine ⟨_, _, by simp only [runF, exs, ex, evT, ev, evs, evB, evP, evC, evI, blOf, sc, Option.bind_some, Option.bind_none, Option.map_some, Option.map_none, bindT, Fl.al, Fl.el, Fl.ow, Fl.rt, Fl.at, tpAt, movOw, als, retF, D.cl, D.cl1, D.hasL, D.hasLs, retO, retOs, cnt, Env.drp, Env.lock, Env.unlock, Out.unlock, setAll, List.getElem?_cons_zero, List.getElem?_cons_succ, List.set_cons_zero, List.set_cons_succ, List.length_cons, List.length_nil, List.map_cons, List.map_nil, List.cons_append, List.nil_append, List.append_nil, List.flatten_cons, List.flatten_nil, List.replicate_succ, List.replicate_zero, List.getElem?_nil, List.set_nil, List.all_cons, List.all_nil, List.filter_cons, List.filter_nil, List.length_set, List.isEmpty_nil, List.isEmpty_cons, List.foldl_cons, List.foldl_nil, List.append_assoc, List.contains_cons, List.zip_cons_cons, List.zip_nil_left, List.zip_nil_right, if_true, if_false, if_pos rfl, ite_true, ite_false, Bool.true_or, Bool.or_true, Bool.false_or, Bool.or_false, Bool.and_true, Bool.true_and, Bool.false_and, Bool.and_false, Bool.not_true, Bool.not_false, decide_true, decide_false, Bool.true_eq_false, Bool.false_eq_true, reduceIte, reduceCtorEq, Nat.reduceAdd, Nat.reduceSub, Nat.reduceLT, Nat.reduceLeDiff, Nat.reduceEqDiff, Nat.zero_lt_succ, Nat.reduceBEq, BEq.rfl, beq_self_eq_true, Nat.lt_add_one, and_self, and_true, true_and, Nat.zero_add, Nat.add_zero, Nat.add_one_sub_one, Nat.sub_self, Nat.sub_zero, decide_eq_true_eq, Nat.zero_le, Nat.add_zero, Nat.le_refl, b_add, b_sub, c_lt, c_le, c_gt, c_ge, c_eqI, c_neI, c_isNN, c_isIN, c_noNN, c_noIN, o_lenL, o_lenS, o_lenT, o_abs, o_listL, o_listT, o_intI, o_intB, o_max2, o_min2, neg_I] <;> rfl, .inl (start _ ?_), ps ++ [(s, g, mo)], some (.int (1 + j : Nat), .no), some (.int dr, .no), some (.int s, .no), some (.int st, .no), some (.int g, .no), some (encO mo, .no), rfl, ?_, ?_, by simp; omega⟩
          · refine exs_t ?_ ?_
            · simp only [hne, hsg, hnp, hin, not_false_eq_true, runF, exs, ex, evT, ev, evs, evB, evP, evC, evI, blOf, sc, Option.bind_some, Option.bind_none, Option.map_some, Option.map_none, bindT, Fl.al, Fl.el, Fl.ow, Fl.rt, Fl.at, tpAt, movOw, als, retF, D.cl, D.cl1, D.hasL, D.hasLs, retO, retOs, cnt, Env.drp, Env.lock, Env.unlock, Out.unlock, setAll, List.getElem?_cons_zero, List.getElem?_cons_succ, List.set_cons_zero, List.set_cons_succ, List.length_cons, List.length_nil, List.map_cons, List.map_nil, List.cons_append, List.nil_append, List.append_nil, List.flatten_cons, List.flatten_nil, List.replicate_succ, List.replicate_zero, List.getElem?_nil, List.set_nil, List.all_cons, List.all_nil, List.filter_cons, List.filter_nil, List.length_set, List.isEmpty_nil, List.isEmpty_cons, List.foldl_cons, List.foldl_nil, List.append_assoc, List.contains_cons, List.zip_cons_cons, List.zip_nil_left, List.zip_nil_right, if_true, if_false, if_pos rfl, ite_true, ite_false, Bool.true_or, Bool.or_true, Bool.false_or, Bool.or_false, Bool.and_true, Bool.true_and, Bool.false_and, Bool.and_false, Bool.not_true, Bool.not_false, decide_true, decide_false, Bool.true_eq_false, Bool.false_eq_true, reduceIte, reduceCtorEq, Nat.reduceAdd, Nat.reduceSub, Nat.reduceLT, Nat.reduceLeDiff, Nat.reduceEqDiff, Nat.zero_lt_succ, Nat.reduceBEq, BEq.rfl, beq_self_eq_true, Nat.lt_add_one, and_self, and_true, true_and, Nat.zero_add, Nat.add_zero, Nat.add_one_sub_one, Nat.sub_self, Nat.sub_zero, decide_eq_true_eq, Nat.zero_le, Nat.add_zero, Nat.le_refl, b_add, b_sub, c_lt, c_le, c_gt, c_ge, c_eqI, c_neI, c_isNN, c_isIN, c_noNN, c_noIN, o_lenL, o_lenS, o_lenT, o_abs, o_listL, o_listT, o_intI, o_intB, o_max2, o_min2, neg_I]
            · simp only [List.length_map, hsz, List.map_append, runF, exs, ex, evT, ev, evs, evB, evP, evC, evI, blOf, sc, Option.bind_some, Option.bind_none, Option.map_some, Option.map_none, bindT, Fl.al, Fl.el, Fl.ow, Fl.rt, Fl.at, tpAt, movOw, als, retF, D.cl, D.cl1, D.hasL, D.hasLs, retO, retOs, cnt, Env.drp, Env.lock, Env.unlock, Out.unlock, setAll, List.getElem?_cons_zero, List.getElem?_cons_succ, List.set_cons_zero, List.set_cons_succ, List.length_cons, List.length_nil, List.map_cons, List.map_nil, List.cons_append, List.nil_append, List.append_nil, List.flatten_cons, List.flatten_nil, List.replicate_succ, List.replicate_zero, List.getElem?_nil, List.set_nil, List.all_cons, List.all_nil, List.filter_cons, List.filter_nil, List.length_set, List.isEmpty_nil, List.isEmpty_cons, List.foldl_cons, List.foldl_nil, List.append_assoc, List.contains_cons, List.zip_cons_cons, List.zip_nil_left, List.zip_nil_right, if_true, if_false, if_pos rfl, ite_true, ite_false, Bool.true_or, Bool.or_true, Bool.false_or, Bool.or_false, Bool.and_true, Bool.true_and, Bool.false_and, Bool.and_false, Bool.not_true, Bool.not_false, decide_true, decide_false, Bool.true_eq_false, Bool.false_eq_true, reduceIte, reduceCtorEq, Nat.reduceAdd, Nat.reduceSub, Nat.reduceLT, Nat.reduceLeDiff, Nat.reduceEqDiff, Nat.zero_lt_succ, Nat.reduceBEq, BEq.rfl, beq_self_eq_true, Nat.lt_add_one, and_self, and_true, true_and, Nat.zero_add, Nat.add_zero, Nat.add_one_sub_one, Nat.sub_self, Nat.sub_zero, decide_eq_true_eq, Nat.zero_le, Nat.add_zero, Nat.le_refl, b_add, b_sub, c_lt, c_le, c_gt, c_ge, c_eqI, c_neI, c_isNN, c_isIN, c_noNN, c_noIN, o_lenL, o_lenS, o_lenT, o_abs, o_listL, o_listT, o_intI, o_intB, o_max2, o_min2, neg_I]
              rfl
          · intro p hp
            rcases List.mem_append.mp hp with hp | hp
            · exact q1 p hp
            · rw [List.mem_singleton] at hp
              subst hp
              exact ⟨hs, lg, hsg, pmo⟩
          · rw [List.map_append, List.map_cons, List.map_nil]
            refine List.nodup_append.mpr ⟨q2, by simp, ?_⟩
            intro a ha b hb
            rw [List.mem_singleton] at hb
            subst hb
            rintro rfl
            exact hin ha)
  subst he
  refine ⟨n, ps, runF_rt [some (.scr ns, .no), none, none, none, none, none, none, none, none, none, none] rfl rfl ?_, by omega, by omega, hok1, hok2, ?_⟩
  · refine (exs_nx (by simp only [hc0, hm0, runF, exs, ex, evT, ev, evs, evB, evP, evC, evI, blOf, sc, Option.bind_some, Option.bind_none, Option.map_some, Option.map_none, bindT, Fl.al, Fl.el, Fl.ow, Fl.rt, Fl.at, tpAt, movOw, als, retF, D.cl, D.cl1, D.hasL, D.hasLs, retO, retOs, cnt, Env.drp, Env.lock, Env.unlock, Out.unlock, setAll, List.getElem?_cons_zero, List.getElem?_cons_succ, List.set_cons_zero, List.set_cons_succ, List.length_cons, List.length_nil, List.map_cons, List.map_nil, List.cons_append, List.nil_append, List.append_nil, List.flatten_cons, List.flatten_nil, List.replicate_succ, List.replicate_zero, List.getElem?_nil, List.set_nil, List.all_cons, List.all_nil, List.filter_cons, List.filter_nil, List.length_set, List.isEmpty_nil, List.isEmpty_cons, List.foldl_cons, List.foldl_nil, List.append_assoc, List.contains_cons, List.zip_cons_cons, List.zip_nil_left, List.zip_nil_right, if_true, if_false, if_pos rfl, ite_true, ite_false, Bool.true_or, Bool.or_true, Bool.false_or, Bool.or_false, Bool.and_true, Bool.true_and, Bool.false_and, Bool.and_false, Bool.not_true, Bool.not_false, decide_true, decide_false, Bool.true_eq_false, Bool.false_eq_true, reduceIte, reduceCtorEq, Nat.reduceAdd, Nat.reduceSub, Nat.reduceLT, Nat.reduceLeDiff, Nat.reduceEqDiff, Nat.zero_lt_succ, Nat.reduceBEq, BEq.rfl, beq_self_eq_true, Nat.lt_add_one, and_self, and_true, true_and, Nat.zero_add, Nat.add_zero, Nat.add_one_sub_one, Nat.sub_self, Nat.sub_zero, decide_eq_true_eq, Nat.zero_le, Nat.add_zero, Nat.le_refl, b_add, b_sub, c_lt, c_le, c_gt, c_ge, c_eqI, c_neI, c_isNN, c_isIN, c_noNN, c_noIN, o_lenL, o_lenS, o_lenT, o_abs, o_listL, o_listT, o_intI, o_intB, o_max2, o_min2, neg_I] <;> rfl)).trans ?_
    refine (exs_nx (by simp only [dm8, hn, runF, exs, ex, evT, ev, evs, evB, evP, evC, evI, blOf, sc, Option.bind_some, Option.bind_none, Option.map_some, Option.map_none, bindT, Fl.al, Fl.el, Fl.ow, Fl.rt, Fl.at, tpAt, movOw, als, retF, D.cl, D.cl1, D.hasL, D.hasLs, retO, retOs, cnt, Env.drp, Env.lock, Env.unlock, Out.unlock, setAll, List.getElem?_cons_zero, List.getElem?_cons_succ, List.set_cons_zero, List.set_cons_succ, List.length_cons, List.length_nil, List.map_cons, List.map_nil, List.cons_append, List.nil_append, List.append_nil, List.flatten_cons, List.flatten_nil, List.replicate_succ, List.replicate_zero, List.getElem?_nil, List.set_nil, List.all_cons, List.all_nil, List.filter_cons, List.filter_nil, List.length_set, List.isEmpty_nil, List.isEmpty_cons, List.foldl_cons, List.foldl_nil, List.append_assoc, List.contains_cons, List.zip_cons_cons, List.zip_nil_left, List.zip_nil_right, if_true, if_false, if_pos rfl, ite_true, ite_false, Bool.true_or, Bool.or_true, Bool.false_or, Bool.or_false, Bool.and_true, Bool.true_and, Bool.false_and, Bool.and_false, Bool.not_true, Bool.not_false, decide_true, decide_false, Bool.true_eq_false, Bool.false_eq_true, reduceIte, reduceCtorEq, Nat.reduceAdd, Nat.reduceSub, Nat.reduceLT, Nat.reduceLeDiff, Nat.reduceEqDiff, Nat.zero_lt_succ, Nat.reduceBEq, BEq.rfl, beq_self_eq_true, Nat.lt_add_one, and_self, and_true, true_and, Nat.zero_add, Nat.add_zero, Nat.add_one_sub_one, Nat.sub_self, Nat.sub_zero, decide_eq_true_eq, Nat.zero_le, Nat.add_zero, Nat.le_refl, b_add, b_sub, c_lt, c_le, c_gt, c_ge, c_eqI, c_neI, c_isNN, c_isIN, c_noNN, c_noIN, o_lenL, o_lenS, o_lenT, o_abs, o_listL, o_listT, o_intI, o_intB, o_max2, o_min2, neg_I] <;> rfl)).trans ?_
    refine (exs_nx (by simp only [runF, exs, ex, evT, ev, evs, evB, evP, evC, evI, blOf, sc, Option.bind_some, Option.bind_none, Option.map_some, Option.map_none, bindT, Fl.al, Fl.el, Fl.ow, Fl.rt, Fl.at, tpAt, movOw, als, retF, D.cl, D.cl1, D.hasL, D.hasLs, retO, retOs, cnt, Env.drp, Env.lock, Env.unlock, Out.unlock, setAll, List.getElem?_cons_zero, List.getElem?_cons_succ, List.set_cons_zero, List.set_cons_succ, List.length_cons, List.length_nil, List.map_cons, List.map_nil, List.cons_append, List.nil_append, List.append_nil, List.flatten_cons, List.flatten_nil, List.replicate_succ, List.replicate_zero, List.getElem?_nil, List.set_nil, List.all_cons, List.all_nil, List.filter_cons, List.filter_nil, List.length_set, List.isEmpty_nil, List.isEmpty_cons, List.foldl_cons, List.foldl_nil, List.append_assoc, List.contains_cons, List.zip_cons_cons, List.zip_nil_left, List.zip_nil_right, if_true, if_false, if_pos rfl, ite_true, ite_false, Bool.true_or, Bool.or_true, Bool.false_or, Bool.or_false, Bool.and_true, Bool.true_and, Bool.false_and, Bool.and_false, Bool.not_true, Bool.not_false, decide_true, decide_false, Bool.true_eq_false, Bool.false_eq_true, reduceIte, reduceCtorEq, Nat.reduceAdd, Nat.reduceSub, Nat.reduceLT, Nat.reduceLeDiff, Nat.reduceEqDiff, Nat.zero_lt_succ, Nat.reduceBEq, BEq.rfl, beq_self_eq_true, Nat.lt_add_one, and_self, and_true, true_and, Nat.zero_add, Nat.add_zero, Nat.add_one_sub_one, Nat.sub_self, Nat.sub_zero, decide_eq_true_eq, Nat.zero_le, Nat.add_zero, Nat.le_refl, b_add, b_sub, c_lt, c_le, c_gt, c_ge, c_eqI, c_neI, c_isNN, c_isIN, c_noNN, c_noIN, o_lenL, o_lenS, o_lenT, o_abs, o_listL, o_listT, o_intI, o_intB, o_max2, o_min2, neg_I] <;> rfl)).trans ?_
    refine (exs_nx (by simp only [runF, exs, ex, evT, ev, evs, evB, evP, evC, evI, blOf, sc, Option.bind_some, Option.bind_none, Option.map_some, Option.map_none, bindT, Fl.al, Fl.el, Fl.ow, Fl.rt, Fl.at, tpAt, movOw, als, retF, D.cl, D.cl1, D.hasL, D.hasLs, retO, retOs, cnt, Env.drp, Env.lock, Env.unlock, Out.unlock, setAll, List.getElem?_cons_zero, List.getElem?_cons_succ, List.set_cons_zero, List.set_cons_succ, List.length_cons, List.length_nil, List.map_cons, List.map_nil, List.cons_append, List.nil_append, List.append_nil, List.flatten_cons, List.flatten_nil, List.replicate_succ, List.replicate_zero, List.getElem?_nil, List.set_nil, List.all_cons, List.all_nil, List.filter_cons, List.filter_nil, List.length_set, List.isEmpty_nil, List.isEmpty_cons, List.foldl_cons, List.foldl_nil, List.append_assoc, List.contains_cons, List.zip_cons_cons, List.zip_nil_left, List.zip_nil_right, if_true, if_false, if_pos rfl, ite_true, ite_false, Bool.true_or, Bool.or_true, Bool.false_or, Bool.or_false, Bool.and_true, Bool.true_and, Bool.false_and, Bool.and_false, Bool.not_true, Bool.not_false, decide_true, decide_false, Bool.true_eq_false, Bool.false_eq_true, reduceIte, reduceCtorEq, Nat.reduceAdd, Nat.reduceSub, Nat.reduceLT, Nat.reduceLeDiff, Nat.reduceEqDiff, Nat.zero_lt_succ, Nat.reduceBEq, BEq.rfl, beq_self_eq_true, Nat.lt_add_one, and_self, and_true, true_and, Nat.zero_add, Nat.add_zero, Nat.add_one_sub_one, Nat.sub_self, Nat.sub_zero, decide_eq_true_eq, Nat.zero_le, Nat.add_zero, Nat.le_refl, b_add, b_sub, c_lt, c_le, c_gt, c_ge, c_eqI, c_neI, c_isNN, c_isIN, c_noNN, c_noIN, o_lenL, o_lenS, o_lenT, o_abs, o_listL, o_listT, o_intI, o_intB, o_max2, o_min2, neg_I] <;> rfl)).trans ?_
    refine (exs_for (p := ((List.range ((ns.length : Int) - 1).toNat).map fun k : Nat => D.int (1 + k), [], [])) (by simp only [hmin, hr, hr2, gt_iff_lt, runF, exs, ex, evT, ev, evs, evB, evP, evC, evI, blOf, sc, Option.bind_some, Option.bind_none, Option.map_some, Option.map_none, bindT, Fl.al, Fl.el, Fl.ow, Fl.rt, Fl.at, tpAt, movOw, als, retF, D.cl, D.cl1, D.hasL, D.hasLs, retO, retOs, cnt, Env.drp, Env.lock, Env.unlock, Out.unlock, setAll, List.getElem?_cons_zero, List.getElem?_cons_succ, List.set_cons_zero, List.set_cons_succ, List.length_cons, List.length_nil, List.map_cons, List.map_nil, List.cons_append, List.nil_append, List.append_nil, List.flatten_cons, List.flatten_nil, List.replicate_succ, List.replicate_zero, List.getElem?_nil, List.set_nil, List.all_cons, List.all_nil, List.filter_cons, List.filter_nil, List.length_set, List.isEmpty_nil, List.isEmpty_cons, List.foldl_cons, List.foldl_nil, List.append_assoc, List.contains_cons, List.zip_cons_cons, List.zip_nil_left, List.zip_nil_right, if_true, if_false, if_pos rfl, ite_true, ite_false, Bool.true_or, Bool.or_true, Bool.false_or, Bool.or_false, Bool.and_true, Bool.true_and, Bool.false_and, Bool.and_false, Bool.not_true, Bool.not_false, decide_true, decide_false, Bool.true_eq_false, Bool.false_eq_true, reduceIte, reduceCtorEq, Nat.reduceAdd, Nat.reduceSub, Nat.reduceLT, Nat.reduceLeDiff, Nat.reduceEqDiff, Nat.zero_lt_succ, Nat.reduceBEq, BEq.rfl, beq_self_eq_true, Nat.lt_add_one, and_self, and_true, true_and, Nat.zero_add, Nat.add_zero, Nat.add_one_sub_one, Nat.sub_self, Nat.sub_zero, decide_eq_true_eq, Nat.zero_le, Nat.add_zero, Nat.le_refl, b_add, b_sub, c_lt, c_le, c_gt, c_ge, c_eqI, c_neI, c_isNN, c_isIN, c_noNN, c_noIN, o_lenL, o_lenS, o_lenT, o_abs, o_listL, o_listT, o_intI, o_intB, o_max2, o_min2, neg_I] <;> rfl) rfl hfor).trans ?_
    refine exs_rt (by simp only [runF, exs, ex, evT, ev, evs, evB, evP, evC, evI, blOf, sc, Option.bind_some, Option.bind_none, Option.map_some, Option.map_none, bindT, Fl.al, Fl.el, Fl.ow, Fl.rt, Fl.at, tpAt, movOw, als, retF, D.cl, D.cl1, D.hasL, D.hasLs, retO, retOs, cnt, Env.drp, Env.lock, Env.unlock, Out.unlock, setAll, List.getElem?_cons_zero, List.getElem?_cons_succ, List.set_cons_zero, List.set_cons_succ, List.length_cons, List.length_nil, List.map_cons, List.map_nil, List.cons_append, List.nil_append, List.append_nil, List.flatten_cons, List.flatten_nil, List.replicate_succ, List.replicate_zero, List.getElem?_nil, List.set_nil, List.all_cons, List.all_nil, List.filter_cons, List.filter_nil, List.length_set, List.isEmpty_nil, List.isEmpty_cons, List.foldl_cons, List.foldl_nil, List.append_assoc, List.contains_cons, List.zip_cons_cons, List.zip_nil_left, List.zip_nil_right, if_true, if_false, if_pos rfl, ite_true, ite_false, Bool.true_or, Bool.or_true, Bool.false_or, Bool.or_false, Bool.and_true, Bool.true_and, Bool.false_and, Bool.and_false, Bool.not_true, Bool.not_false, decide_true, decide_false, Bool.true_eq_false, Bool.false_eq_true, reduceIte, reduceCtorEq, Nat.reduceAdd, Nat.reduceSub, Nat.reduceLT, Nat.reduceLeDiff, Nat.reduceEqDiff, Nat.zero_lt_succ, Nat.reduceBEq, BEq.rfl, beq_self_eq_true, Nat.lt_add_one, and_self, and_true, true_and, Nat.zero_add, Nat.add_zero, Nat.add_one_sub_one, Nat.sub_self, Nat.sub_zero, decide_eq_true_eq, Nat.zero_le, Nat.add_zero, Nat.le_refl, b_add, b_sub, c_lt, c_le, c_gt, c_ge, c_eqI, c_neI, c_isNN, c_isIN, c_noNN, c_noIN, o_lenL, o_lenS, o_lenT, o_abs, o_listL, o_listT, o_intI, o_intB, o_max2, o_min2, neg_I] <;> rfl)
  · simp only [List.length_map, List.length_range] at hok3
    omega
end Ix
set_option Elab.async false
set_option linter.all false
set_option maxRecDepth 100000
set_option maxHeartbeats 4000000
namespace Ix
open PySem PySem.Spec PyProof.Rows L2

section
variable {G : Orc} {i : Int} {ds : List D}
theorem is_ii : isiop G (.int i) (.ty "int") = some true := by show kitB "int" "int" = some true; decide +kernel
theorem is_ib : isiop G (.int i) (.ty "bool") = some false := by show kitB "int" "bool" = some false; decide +kernel
theorem is_ni : isiop G .non (.ty "int") = some false := by show kitB "NoneType" "int" = some false; decide +kernel
theorem is_ll : isiop G (.lst ds) (.ty "list") = some true := by show kitB "list" "list" = some true; decide +kernel
theorem is_nl : isiop G .non (.ty "list") = some false := by show kitB "NoneType" "list" = some false; decide +kernel
end
theorem whole9 (G : Orc) (i : Int) : runF G F9 [.int i] = some (.bl true, .no) := by
  refine runF_rt [some (.int i, .no)] rfl rfl ?_
  refine exs_rt (by simp only [is_ii, is_ib, runF, exs, ex, evT, ev, evs, evB, evP, evC, evI, blOf, sc, Option.bind_some, Option.bind_none, Option.map_some, Option.map_none, bindT, Fl.al, Fl.el, Fl.ow, Fl.rt, Fl.at, tpAt, movOw, als, retF, D.cl, D.cl1, D.hasL, D.hasLs, retO, retOs, cnt, Env.drp, Env.lock, Env.unlock, Out.unlock, setAll, List.getElem?_cons_zero, List.getElem?_cons_succ, List.set_cons_zero, List.set_cons_succ, List.length_cons, List.length_nil, List.map_cons, List.map_nil, List.cons_append, List.nil_append, List.append_nil, List.flatten_cons, List.flatten_nil, List.replicate_succ, List.replicate_zero, List.getElem?_nil, List.set_nil, List.all_cons, List.all_nil, List.filter_cons, List.filter_nil, List.length_set, List.isEmpty_nil, List.isEmpty_cons, List.foldl_cons, List.foldl_nil, List.append_assoc, List.contains_cons, List.zip_cons_cons, List.zip_nil_left, List.zip_nil_right, if_true, if_false, if_pos rfl, ite_true, ite_false, Bool.true_or, Bool.or_true, Bool.false_or, Bool.or_false, Bool.and_true, Bool.true_and, Bool.false_and, Bool.and_false, Bool.not_true, Bool.not_false, decide_true, decide_false, Bool.true_eq_false, Bool.false_eq_true, reduceIte, reduceCtorEq, Nat.reduceAdd, Nat.reduceSub, Nat.reduceLT, Nat.reduceLeDiff, Nat.reduceEqDiff, Nat.zero_lt_succ, Nat.reduceBEq, BEq.rfl, beq_self_eq_true, Nat.lt_add_one, and_self, and_true, true_and, Nat.zero_add, Nat.add_zero, Nat.add_one_sub_one, Nat.sub_self, Nat.sub_zero, decide_eq_true_eq, Nat.zero_le, Nat.add_zero, Nat.le_refl, b_add, b_sub, c_lt, c_le, c_gt, c_ge, c_eqI, c_neI, c_isNN, c_isIN, c_noNN, c_noIN, o_lenL, o_lenS, o_lenT, o_abs, o_listL, o_listT, o_intI, o_intB, o_max2, o_min2, neg_I] <;> rfl)
def encN : Option Nat → D
  | none => .non
  | some c => .int c
theorem encN_pu : ∀ cs : List (Option Nat), D.pus (cs.map encN) = true ∧ D.deps (cs.map encN) = 0 ∧ D.hasLs (cs.map encN) = false
  | [] => ⟨rfl, rfl, rfl⟩
  | none :: cs => by obtain ⟨h1, h2, h3⟩ := encN_pu cs; exact ⟨by simp [D.pus, encN, D.pu, h1], by simp [D.deps, encN, D.dep, h2], by simp [D.hasLs, encN, D.hasL, h3]⟩
  | some c :: cs => by obtain ⟨h1, h2, h3⟩ := encN_pu cs; exact ⟨by simp [D.pus, encN, D.pu, h1], by simp [D.deps, encN, D.dep, h2], by simp [D.hasLs, encN, D.hasL, h3]⟩
theorem encO_pu : ∀ cs : List (Option Int), D.pus (cs.map encO) = true ∧ D.deps (cs.map encO) = 0 ∧ D.hasLs (cs.map encO) = false
  | [] => ⟨rfl, rfl, rfl⟩
  | none :: cs => by obtain ⟨h1, h2, h3⟩ := encO_pu cs; exact ⟨by simp [D.pus, encO, D.pu, h1], by simp [D.deps, encO, D.dep, h2], by simp [D.hasLs, encO, D.hasL, h3]⟩
  | some c :: cs => by obtain ⟨h1, h2, h3⟩ := encO_pu cs; exact ⟨by simp [D.pus, encO, D.pu, h1], by simp [D.deps, encO, D.dep, h2], by simp [D.hasLs, encO, D.hasL, h3]⟩
theorem ne_true : (!true) = false := rfl
/-- a list of whole numbers and None, of n items -/
theorem kinds10 (G : Orc) (fs : List (Option Int)) (n : Nat) (h : fs.length = n) (hw : ∀ i : Int, G.call 9 [.int i] = some (.bl true, .no)) : runF G F10 [.lst (fs.map encO), .int n] = some (.bl true, .no) := by
  have hl : ((fs.map encO).length : Int) = n := by rw [List.length_map, h]
  obtain ⟨e', hfor, x2, he⟩ := forL_inv (f := fun _ e => exs G e (.cons (.ifs (.bop true (.cmp .IsNot (.var 2) .non) (.cons (.not_ (.call 9 (.cons (.var 2) .nil))) .nil)) (.cons (.ret (.bl false)) .nil) .nil) .nil)) (tg := .one 2)
    (fun i e => ∃ x2, e = [some (.lst (fs.map encO), .no), some (.int n, .no), x2]) (ds := fs.map encO) (env := [some (.lst (fs.map encO), .no), some (.int n, .no), none]) 0 ⟨_, rfl⟩ (by
      rintro j d e hd ⟨x2, rfl⟩
      rw [List.getElem?_map] at hd
      obtain ⟨o, ho, rfl⟩ := Option.map_eq_some_iff.mp hd
      refine ⟨_, _, by simp only [runF, exs, ex, evT, ev, evs, evB, evP, evC, evI, blOf, sc, Option.bind_some, Option.bind_none, Option.map_some, Option.map_none, bindT, Fl.al, Fl.el, Fl.ow, Fl.rt, Fl.at, tpAt, movOw, als, retF, D.cl, D.cl1, D.hasL, D.hasLs, retO, retOs, cnt, Env.drp, Env.lock, Env.unlock, Out.unlock, setAll, List.getElem?_cons_zero, List.getElem?_cons_succ, List.set_cons_zero, List.set_cons_succ, List.length_cons, List.length_nil, List.map_cons, List.map_nil, List.cons_append, List.nil_append, List.append_nil, List.flatten_cons, List.flatten_nil, List.replicate_succ, List.replicate_zero, List.getElem?_nil, List.set_nil, List.all_cons, List.all_nil, List.filter_cons, List.filter_nil, List.length_set, List.isEmpty_nil, List.isEmpty_cons, List.foldl_cons, List.foldl_nil, List.append_assoc, List.contains_cons, List.zip_cons_cons, List.zip_nil_left, List.zip_nil_right, if_true, if_false, if_pos rfl, ite_true, ite_false, Bool.true_or, Bool.or_true, Bool.false_or, Bool.or_false, Bool.and_true, Bool.true_and, Bool.false_and, Bool.and_false, Bool.not_true, Bool.not_false, decide_true, decide_false, Bool.true_eq_false, Bool.false_eq_true, reduceIte, reduceCtorEq, Nat.reduceAdd, Nat.reduceSub, Nat.reduceLT, Nat.reduceLeDiff, Nat.reduceEqDiff, Nat.zero_lt_succ, Nat.reduceBEq, BEq.rfl, beq_self_eq_true, Nat.lt_add_one, and_self, and_true, true_and, Nat.zero_add, Nat.add_zero, Nat.add_one_sub_one, Nat.sub_self, Nat.sub_zero, decide_eq_true_eq, Nat.zero_le, Nat.add_zero, Nat.le_refl, b_add, b_sub, c_lt, c_le, c_gt, c_ge, c_eqI, c_neI, c_isNN, c_isIN, c_noNN, c_noIN, o_lenL, o_lenS, o_lenT, o_abs, o_listL, o_listT, o_intI, o_intB, o_max2, o_min2, neg_I] <;> rfl, .inl ?_, some (encO o, .no), rfl⟩
      cases o with
      | none => exact (exs_f (by simp only [encO, runF, exs, ex, evT, ev, evs, evB, evP, evC, evI, blOf, sc, Option.bind_some, Option.bind_none, Option.map_some, Option.map_none, bindT, Fl.al, Fl.el, Fl.ow, Fl.rt, Fl.at, tpAt, movOw, als, retF, D.cl, D.cl1, D.hasL, D.hasLs, retO, retOs, cnt, Env.drp, Env.lock, Env.unlock, Out.unlock, setAll, List.getElem?_cons_zero, List.getElem?_cons_succ, List.set_cons_zero, List.set_cons_succ, List.length_cons, List.length_nil, List.map_cons, List.map_nil, List.cons_append, List.nil_append, List.append_nil, List.flatten_cons, List.flatten_nil, List.replicate_succ, List.replicate_zero, List.getElem?_nil, List.set_nil, List.all_cons, List.all_nil, List.filter_cons, List.filter_nil, List.length_set, List.isEmpty_nil, List.isEmpty_cons, List.foldl_cons, List.foldl_nil, List.append_assoc, List.contains_cons, List.zip_cons_cons, List.zip_nil_left, List.zip_nil_right, if_true, if_false, if_pos rfl, ite_true, ite_false, Bool.true_or, Bool.or_true, Bool.false_or, Bool.or_false, Bool.and_true, Bool.true_and, Bool.false_and, Bool.and_false, Bool.not_true, Bool.not_false, decide_true, decide_false, Bool.true_eq_false, Bool.false_eq_true, reduceIte, reduceCtorEq, Nat.reduceAdd, Nat.reduceSub, Nat.reduceLT, Nat.reduceLeDiff, Nat.reduceEqDiff, Nat.zero_lt_succ, Nat.reduceBEq, BEq.rfl, beq_self_eq_true, Nat.lt_add_one, and_self, and_true, true_and, Nat.zero_add, Nat.add_zero, Nat.add_one_sub_one, Nat.sub_self, Nat.sub_zero, decide_eq_true_eq, Nat.zero_le, Nat.add_zero, Nat.le_refl, b_add, b_sub, c_lt, c_le, c_gt, c_ge, c_eqI, c_neI, c_isNN, c_isIN, c_noNN, c_noIN, o_lenL, o_lenS, o_lenT, o_abs, o_listL, o_listT, o_intI, o_intB, o_max2, o_min2, neg_I] <;> rfl) rfl).trans (by simp only [encO, runF, exs, ex, evT, ev, evs, evB, evP, evC, evI, blOf, sc, Option.bind_some, Option.bind_none, Option.map_some, Option.map_none, bindT, Fl.al, Fl.el, Fl.ow, Fl.rt, Fl.at, tpAt, movOw, als, retF, D.cl, D.cl1, D.hasL, D.hasLs, retO, retOs, cnt, Env.drp, Env.lock, Env.unlock, Out.unlock, setAll, List.getElem?_cons_zero, List.getElem?_cons_succ, List.set_cons_zero, List.set_cons_succ, List.length_cons, List.length_nil, List.map_cons, List.map_nil, List.cons_append, List.nil_append, List.append_nil, List.flatten_cons, List.flatten_nil, List.replicate_succ, List.replicate_zero, List.getElem?_nil, List.set_nil, List.all_cons, List.all_nil, List.filter_cons, List.filter_nil, List.length_set, List.isEmpty_nil, List.isEmpty_cons, List.foldl_cons, List.foldl_nil, List.append_assoc, List.contains_cons, List.zip_cons_cons, List.zip_nil_left, List.zip_nil_right, if_true, if_false, if_pos rfl, ite_true, ite_false, Bool.true_or, Bool.or_true, Bool.false_or, Bool.or_false, Bool.and_true, Bool.true_and, Bool.false_and, Bool.and_false, Bool.not_true, Bool.not_false, decide_true, decide_false, Bool.true_eq_false, Bool.false_eq_true, reduceIte, reduceCtorEq, Nat.reduceAdd, Nat.reduceSub, Nat.reduceLT, Nat.reduceLeDiff, Nat.reduceEqDiff, Nat.zero_lt_succ, Nat.reduceBEq, BEq.rfl, beq_self_eq_true, Nat.lt_add_one, and_self, and_true, true_and, Nat.zero_add, Nat.add_zero, Nat.add_one_sub_one, Nat.sub_self, Nat.sub_zero, decide_eq_true_eq, Nat.zero_le, Nat.add_zero, Nat.le_refl, b_add, b_sub, c_lt, c_le, c_gt, c_ge, c_eqI, c_neI, c_isNN, c_isIN, c_noNN, c_noIN, o_lenL, o_lenS, o_lenT, o_abs, o_listL, o_listT, o_intI, o_intB, o_max2, o_min2, neg_I])
      | some i => exact (exs_f (by simp only [encO, hw, runF, exs, ex, evT, ev, evs, evB, evP, evC, evI, blOf, sc, Option.bind_some, Option.bind_none, Option.map_some, Option.map_none, bindT, Fl.al, Fl.el, Fl.ow, Fl.rt, Fl.at, tpAt, movOw, als, retF, D.cl, D.cl1, D.hasL, D.hasLs, retO, retOs, cnt, Env.drp, Env.lock, Env.unlock, Out.unlock, setAll, List.getElem?_cons_zero, List.getElem?_cons_succ, List.set_cons_zero, List.set_cons_succ, List.length_cons, List.length_nil, List.map_cons, List.map_nil, List.cons_append, List.nil_append, List.append_nil, List.flatten_cons, List.flatten_nil, List.replicate_succ, List.replicate_zero, List.getElem?_nil, List.set_nil, List.all_cons, List.all_nil, List.filter_cons, List.filter_nil, List.length_set, List.isEmpty_nil, List.isEmpty_cons, List.foldl_cons, List.foldl_nil, List.append_assoc, List.contains_cons, List.zip_cons_cons, List.zip_nil_left, List.zip_nil_right, if_true, if_false, if_pos rfl, ite_true, ite_false, Bool.true_or, Bool.or_true, Bool.false_or, Bool.or_false, Bool.and_true, Bool.true_and, Bool.false_and, Bool.and_false, Bool.not_true, Bool.not_false, decide_true, decide_false, Bool.true_eq_false, Bool.false_eq_true, reduceIte, reduceCtorEq, Nat.reduceAdd, Nat.reduceSub, Nat.reduceLT, Nat.reduceLeDiff, Nat.reduceEqDiff, Nat.zero_lt_succ, Nat.reduceBEq, BEq.rfl, beq_self_eq_true, Nat.lt_add_one, and_self, and_true, true_and, Nat.zero_add, Nat.add_zero, Nat.add_one_sub_one, Nat.sub_self, Nat.sub_zero, decide_eq_true_eq, Nat.zero_le, Nat.add_zero, Nat.le_refl, b_add, b_sub, c_lt, c_le, c_gt, c_ge, c_eqI, c_neI, c_isNN, c_isIN, c_noNN, c_noIN, o_lenL, o_lenS, o_lenT, o_abs, o_listL, o_listT, o_intI, o_intB, o_max2, o_min2, neg_I] <;> rfl) rfl).trans (by simp only [encO, runF, exs, ex, evT, ev, evs, evB, evP, evC, evI, blOf, sc, Option.bind_some, Option.bind_none, Option.map_some, Option.map_none, bindT, Fl.al, Fl.el, Fl.ow, Fl.rt, Fl.at, tpAt, movOw, als, retF, D.cl, D.cl1, D.hasL, D.hasLs, retO, retOs, cnt, Env.drp, Env.lock, Env.unlock, Out.unlock, setAll, List.getElem?_cons_zero, List.getElem?_cons_succ, List.set_cons_zero, List.set_cons_succ, List.length_cons, List.length_nil, List.map_cons, List.map_nil, List.cons_append, List.nil_append, List.append_nil, List.flatten_cons, List.flatten_nil, List.replicate_succ, List.replicate_zero, List.getElem?_nil, List.set_nil, List.all_cons, List.all_nil, List.filter_cons, List.filter_nil, List.length_set, List.isEmpty_nil, List.isEmpty_cons, List.foldl_cons, List.foldl_nil, List.append_assoc, List.contains_cons, List.zip_cons_cons, List.zip_nil_left, List.zip_nil_right, if_true, if_false, if_pos rfl, ite_true, ite_false, Bool.true_or, Bool.or_true, Bool.false_or, Bool.or_false, Bool.and_true, Bool.true_and, Bool.false_and, Bool.and_false, Bool.not_true, Bool.not_false, decide_true, decide_false, Bool.true_eq_false, Bool.false_eq_true, reduceIte, reduceCtorEq, Nat.reduceAdd, Nat.reduceSub, Nat.reduceLT, Nat.reduceLeDiff, Nat.reduceEqDiff, Nat.zero_lt_succ, Nat.reduceBEq, BEq.rfl, beq_self_eq_true, Nat.lt_add_one, and_self, and_true, true_and, Nat.zero_add, Nat.add_zero, Nat.add_one_sub_one, Nat.sub_self, Nat.sub_zero, decide_eq_true_eq, Nat.zero_le, Nat.add_zero, Nat.le_refl, b_add, b_sub, c_lt, c_le, c_gt, c_ge, c_eqI, c_neI, c_isNN, c_isIN, c_noNN, c_noIN, o_lenL, o_lenS, o_lenT, o_abs, o_listL, o_listT, o_intI, o_intB, o_max2, o_min2, neg_I]))
  subst he
  refine runF_rt [some (.lst (fs.map encO), .no), some (.int n, .no), none] rfl rfl ?_
  refine (exs_f (by simp only [is_ll, hl, runF, exs, ex, evT, ev, evs, evB, evP, evC, evI, blOf, sc, Option.bind_some, Option.bind_none, Option.map_some, Option.map_none, bindT, Fl.al, Fl.el, Fl.ow, Fl.rt, Fl.at, tpAt, movOw, als, retF, D.cl, D.cl1, D.hasL, D.hasLs, retO, retOs, cnt, Env.drp, Env.lock, Env.unlock, Out.unlock, setAll, List.getElem?_cons_zero, List.getElem?_cons_succ, List.set_cons_zero, List.set_cons_succ, List.length_cons, List.length_nil, List.map_cons, List.map_nil, List.cons_append, List.nil_append, List.append_nil, List.flatten_cons, List.flatten_nil, List.replicate_succ, List.replicate_zero, List.getElem?_nil, List.set_nil, List.all_cons, List.all_nil, List.filter_cons, List.filter_nil, List.length_set, List.isEmpty_nil, List.isEmpty_cons, List.foldl_cons, List.foldl_nil, List.append_assoc, List.contains_cons, List.zip_cons_cons, List.zip_nil_left, List.zip_nil_right, if_true, if_false, if_pos rfl, ite_true, ite_false, Bool.true_or, Bool.or_true, Bool.false_or, Bool.or_false, Bool.and_true, Bool.true_and, Bool.false_and, Bool.and_false, Bool.not_true, Bool.not_false, decide_true, decide_false, Bool.true_eq_false, Bool.false_eq_true, reduceIte, reduceCtorEq, Nat.reduceAdd, Nat.reduceSub, Nat.reduceLT, Nat.reduceLeDiff, Nat.reduceEqDiff, Nat.zero_lt_succ, Nat.reduceBEq, BEq.rfl, beq_self_eq_true, Nat.lt_add_one, and_self, and_true, true_and, Nat.zero_add, Nat.add_zero, Nat.add_one_sub_one, Nat.sub_self, Nat.sub_zero, decide_eq_true_eq, Nat.zero_le, Nat.add_zero, Nat.le_refl, b_add, b_sub, c_lt, c_le, c_gt, c_ge, c_eqI, c_neI, c_isNN, c_isIN, c_noNN, c_noIN, o_lenL, o_lenS, o_lenT, o_abs, o_listL, o_listT, o_intI, o_intB, o_max2, o_min2, neg_I] <;> rfl) rfl).trans ?_
  refine (exs_for (p := (fs.map encO, [], [])) (by simp only [runF, exs, ex, evT, ev, evs, evB, evP, evC, evI, blOf, sc, Option.bind_some, Option.bind_none, Option.map_some, Option.map_none, bindT, Fl.al, Fl.el, Fl.ow, Fl.rt, Fl.at, tpAt, movOw, als, retF, D.cl, D.cl1, D.hasL, D.hasLs, retO, retOs, cnt, Env.drp, Env.lock, Env.unlock, Out.unlock, setAll, List.getElem?_cons_zero, List.getElem?_cons_succ, List.set_cons_zero, List.set_cons_succ, List.length_cons, List.length_nil, List.map_cons, List.map_nil, List.cons_append, List.nil_append, List.append_nil, List.flatten_cons, List.flatten_nil, List.replicate_succ, List.replicate_zero, List.getElem?_nil, List.set_nil, List.all_cons, List.all_nil, List.filter_cons, List.filter_nil, List.length_set, List.isEmpty_nil, List.isEmpty_cons, List.foldl_cons, List.foldl_nil, List.append_assoc, List.contains_cons, List.zip_cons_cons, List.zip_nil_left, List.zip_nil_right, if_true, if_false, if_pos rfl, ite_true, ite_false, Bool.true_or, Bool.or_true, Bool.false_or, Bool.or_false, Bool.and_true, Bool.true_and, Bool.false_and, Bool.and_false, Bool.not_true, Bool.not_false, decide_true, decide_false, Bool.true_eq_false, Bool.false_eq_true, reduceIte, reduceCtorEq, Nat.reduceAdd, Nat.reduceSub, Nat.reduceLT, Nat.reduceLeDiff, Nat.reduceEqDiff, Nat.zero_lt_succ, Nat.reduceBEq, BEq.rfl, beq_self_eq_true, Nat.lt_add_one, and_self, and_true, true_and, Nat.zero_add, Nat.add_zero, Nat.add_one_sub_one, Nat.sub_self, Nat.sub_zero, decide_eq_true_eq, Nat.zero_le, Nat.add_zero, Nat.le_refl, b_add, b_sub, c_lt, c_le, c_gt, c_ge, c_eqI, c_neI, c_isNN, c_isIN, c_noNN, c_noIN, o_lenL, o_lenS, o_lenT, o_abs, o_listL, o_listT, o_intI, o_intB, o_max2, o_min2, neg_I] <;> rfl) rfl hfor).trans ?_
  refine exs_rt (by simp only [runF, exs, ex, evT, ev, evs, evB, evP, evC, evI, blOf, sc, Option.bind_some, Option.bind_none, Option.map_some, Option.map_none, bindT, Fl.al, Fl.el, Fl.ow, Fl.rt, Fl.at, tpAt, movOw, als, retF, D.cl, D.cl1, D.hasL, D.hasLs, retO, retOs, cnt, Env.drp, Env.lock, Env.unlock, Out.unlock, setAll, List.getElem?_cons_zero, List.getElem?_cons_succ, List.set_cons_zero, List.set_cons_succ, List.length_cons, List.length_nil, List.map_cons, List.map_nil, List.cons_append, List.nil_append, List.append_nil, List.flatten_cons, List.flatten_nil, List.replicate_succ, List.replicate_zero, List.getElem?_nil, List.set_nil, List.all_cons, List.all_nil, List.filter_cons, List.filter_nil, List.length_set, List.isEmpty_nil, List.isEmpty_cons, List.foldl_cons, List.foldl_nil, List.append_assoc, List.contains_cons, List.zip_cons_cons, List.zip_nil_left, List.zip_nil_right, if_true, if_false, if_pos rfl, ite_true, ite_false, Bool.true_or, Bool.or_true, Bool.false_or, Bool.or_false, Bool.and_true, Bool.true_and, Bool.false_and, Bool.and_false, Bool.not_true, Bool.not_false, decide_true, decide_false, Bool.true_eq_false, Bool.false_eq_true, reduceIte, reduceCtorEq, Nat.reduceAdd, Nat.reduceSub, Nat.reduceLT, Nat.reduceLeDiff, Nat.reduceEqDiff, Nat.zero_lt_succ, Nat.reduceBEq, BEq.rfl, beq_self_eq_true, Nat.lt_add_one, and_self, and_true, true_and, Nat.zero_add, Nat.add_zero, Nat.add_one_sub_one, Nat.sub_self, Nat.sub_zero, decide_eq_true_eq, Nat.zero_le, Nat.add_zero, Nat.le_refl, b_add, b_sub, c_lt, c_le, c_gt, c_ge, c_eqI, c_neI, c_isNN, c_isIN, c_noNN, c_noIN, o_lenL, o_lenS, o_lenT, o_abs, o_listL, o_listT, o_intI, o_intB, o_max2, o_min2, neg_I] <;> rfl)
theorem notin_nats (o : Nat) (tl : List Nat) : cmpop .NotIn (.int o) (.lst (tl.map fun t : Nat => D.int t)) = some (!decide (o ∈ tl)) := by
  classical
  show (din (.int o) (tl.map fun t : Nat => D.int t)).map not = _
  have h1 : D.pus (tl.map fun t : Nat => D.int t) = true ∧ D.deps (tl.map fun t : Nat => D.int t) = 0 := by
    induction tl with
    | nil => exact ⟨rfl, rfl⟩
    | cons t tl ih => exact ⟨by simp [D.pus, D.pu, ih.1], by simp [D.deps, D.dep, ih.2]⟩
  rw [din_pu (by rfl) h1.1 (by simp [D.dep]) (by omega)]
  have : ((D.int o) ∈ tl.map fun t : Nat => D.int t) ↔ o ∈ tl := by
    rw [List.mem_map]
    exact ⟨fun ⟨q, hq, e⟩ => by have : (q : Int) = o := by simpa using e
                                have : q = o := by omega
                                exact this ▸ hq, fun h => ⟨_, h, rfl⟩⟩
  simp only [Option.map_some, this]
theorem encP_pu : ∀ ps : List Path, D.pus (ps.map encP) = true ∧ D.deps (ps.map encP) ≤ 1
  | [] => ⟨rfl, by simp [D.deps]⟩
  | (s, g, m) :: ps => by
    obtain ⟨h1, h2⟩ := encP_pu ps
    cases m with
    | none => exact ⟨by simp [D.pus, encP, encO, D.pu, h1], by simp [D.deps, encP, encO, D.dep]; omega⟩
    | some m => exact ⟨by simp [D.pus, encP, encO, D.pu, h1], by simp [D.deps, encP, encO, D.dep]; omega⟩
theorem net_pu (n : Nat) (ps : List Path) : (encNet n ps).pu = true ∧ (encNet n ps).dep ≤ 64 := by
  obtain ⟨h1, h2⟩ := encP_pu ps
  exact ⟨by simp [encNet, D.pu, D.pus, h1], by simp [encNet, D.dep, D.deps]; omega⟩
/-- items of nets -/
theorem i_net0 {n : Nat} {ps : List Path} {f : Fl} : idxop (encNet n ps, f) (.int 0) = some (.int n, f.at 0) := rfl
theorem i_net1 {n : Nat} {ps : List Path} {f : Fl} : idxop (encNet n ps, f) (.int 1) = some (.lst (ps.map encP), f.at 1) := rfl
theorem put_lst {ds : List D} {k : Nat} (h : k < ds.length) : ixN ds.length (k : Int) = some k := by
  unfold ixN
  have h0 : (0 : Int) ≤ k := by omega
  have h1 : (k : Int) < ds.length := by omega
  simp [h1]
  try omega
theorem encN_O (cs : List (Option Nat)) : cs.map encN = (cs.map fun o => o.map fun c : Nat => (c : Int)).map encO := by
  rw [List.map_map]
  congr 1
  funext o
  cases o <;> rfl
theorem orc_call {fns : Nat → Option FD} {f n : Nat} {F : FD} {ds : List D} (h : fns f = some F) : (orcOf fns (n + 1)).call f ds = runF (orcOf fns n) F ds := by
  show (fns f).bind _ = _
  rw [h]
  rfl
end Ix
set_option Elab.async false
set_option linter.all false
set_option maxRecDepth 100000
set_option maxHeartbeats 4000000
namespace Ix
open PySem PySem.Spec PyProof.Rows L2

/-! ### fewest -/
abbrev At (cs : List (Option Nat)) (v c : Nat) : Prop := cs[v]? = some (some c)
structure Bfs (n h : Nat) (ps : List Path) (cs : List (Option Nat)) (come : List Nat) (k : Nat) : Prop where
  len : cs.length = n
  mem : ∀ v, v ∈ come ↔ ∃ c, At cs v c
  nd : come.Nodup
  zero : At cs h 0
  tight : ∀ v ∈ come, v = h ∨ ∃ p ∈ ps, p.2.1 = v ∧ ∃ c, At cs p.1 c ∧ At cs v (c + 1)
  done : ∀ i, i < k → ∀ p ∈ ps, come[i]? = some p.1 → ∃ c d, At cs p.1 c ∧ At cs p.2.1 d ∧ d ≤ c + 1
  mono : ∀ i j u v c d : Nat, i ≤ j → come[i]? = some u → come[j]? = some v → At cs u c → At cs v d → c ≤ d
  near : ∀ u c : Nat, come[k]? = some u → At cs u c → ∀ (v : Nat) (d : Nat), At cs v d → d ≤ c + 1
/-- what fewest tells -/
structure Few (n h : Nat) (ps : List Path) (cs : List (Option Nat)) : Prop where
  len : cs.length = n
  zero : At cs h 0
  edge : ∀ p ∈ ps, ∀ c, At cs p.1 c → ∃ d, At cs p.2.1 d ∧ d ≤ c + 1
  tight : ∀ v c, At cs v c → v = h ∨ ∃ p ∈ ps, p.2.1 = v ∧ At cs p.1 (c - 1) ∧ 1 ≤ c
theorem at_set {cs : List (Option Nat)} {g v c d : Nat} (hg : g < cs.length) : At (cs.set g (some c)) v d ↔ (v = g ∧ d = c) ∨ (v ≠ g ∧ At cs v d) := by
  unfold At
  rw [List.getElem?_set]
  by_cases h : g = v
  · subst h
    rw [if_pos rfl, if_pos hg]
    simp [eq_comm]
  · rw [if_neg h]
    have h' : v ≠ g := fun z => h z.symm
    simp [h']
theorem at_inj {cs : List (Option Nat)} {v c d : Nat} (h1 : At cs v c) (h2 : At cs v d) : c = d := by
  unfold At at *
  rw [h1] at h2
  simpa using h2
theorem Bfs.start {n h : Nat} {ps : List Path} (hh : h < n) : Bfs n h ps ((List.replicate n none).set h (some 0)) [h] 0 := by
  have hl : h < (List.replicate n (none : Option Nat)).length := by simpa using hh
  have key : ∀ v c, At ((List.replicate n none).set h (some 0)) v c ↔ v = h ∧ c = 0 := fun v c => by
    rw [at_set hl]
    constructor
    · rintro (z | ⟨_, z⟩)
      · exact z
      · unfold At at z
        rw [List.getElem?_replicate] at z
        split at z <;> simp at z
    · exact fun z => .inl z
  refine ⟨by simp, fun v => ?_, by simp, (key h 0).mpr ⟨rfl, rfl⟩, fun v hv => .inl (by simpa using hv), fun i hi => by omega, fun i j u v c d _ _ _ hu hv => ?_, fun u c _ hu v d hv => ?_⟩
  · constructor
    · intro hv
      exact ⟨0, (key v 0).mpr ⟨by simpa using hv, rfl⟩⟩
    · rintro ⟨c, hc⟩
      simp [((key v c).mp hc).1]
  · have := ((key _ _).mp hu).2
    have := ((key _ _).mp hv).2
    omega
  · have := ((key _ _).mp hv).2
    omega
/-- a house is met for the first time -/
theorem Bfs.add {n h k : Nat} {ps : List Path} {cs : List (Option Nat)} {come : List Nat} {s g c : Nat} (B : Bfs n h ps cs come k) (hk : come[k]? = some s) (hc : At cs s c) (hg : g < n) (hn : cs[g]? = some none) (hp : ∃ p ∈ ps, p.1 = s ∧ p.2.1 = g) : Bfs n h ps (cs.set g (some (c + 1))) (come ++ [g]) k := by
  have hgl : g < cs.length := by rw [B.len]; exact hg
  have key := fun v d => at_set (cs := cs) (g := g) (v := v) (c := c + 1) (d := d) hgl
  have hgn : ∀ d, ¬ At cs g d := fun d z => by unfold At at z; rw [hn] at z; simp at z
  have up : ∀ {v d}, At cs v d → At (cs.set g (some (c + 1))) v d := fun {v d} z => (key v d).mpr (.inr ⟨fun e => by subst e; exact hgn d z, z⟩)
  have hgc : g ∉ come := fun z => by obtain ⟨d, hd⟩ := (B.mem g).mp z; exact hgn d hd
  have hkl : k < come.length := (List.getElem?_eq_some_iff.mp hk).1
  have old : ∀ {i u}, (come ++ [g])[i]? = some u → i < come.length ∧ come[i]? = some u ∨ i = come.length ∧ u = g := fun {i u} z => by
    by_cases hi : i < come.length
    · rw [List.getElem?_append_left hi] at z
      exact .inl ⟨hi, z⟩
    · rw [List.getElem?_append_right (by omega)] at z
      have : i - come.length = 0 := by
        have := (List.getElem?_eq_some_iff.mp z).1
        simp at this
        omega
      rw [this] at z
      exact .inr ⟨by omega, by simpa using z.symm⟩
  refine ⟨by rw [List.length_set]; exact B.len, fun v => ?_, ?_, up B.zero, fun v hv => ?_, fun i hi p hp2 e => ?_, fun i j u v a b hij hu hv ha hb => ?_, fun u a hu ha v b hb => ?_⟩
  · rw [List.mem_append, List.mem_singleton]
    constructor
    · rintro (hv | rfl)
      · obtain ⟨d, hd⟩ := (B.mem v).mp hv
        exact ⟨d, up hd⟩
      · exact ⟨c + 1, (key _ _).mpr (.inl ⟨rfl, rfl⟩)⟩
    · rintro ⟨d, hd⟩
      rcases (key v d).mp hd with ⟨rfl, _⟩ | ⟨_, z⟩
      · exact .inr rfl
      · exact .inl ((B.mem v).mpr ⟨d, z⟩)
  · refine List.nodup_append.mpr ⟨B.nd, by simp, fun a ha b hb => ?_⟩
    rw [List.mem_singleton] at hb
    subst hb
    rintro rfl
    exact hgc ha
  · rw [List.mem_append, List.mem_singleton] at hv
    rcases hv with hv | rfl
    · rcases B.tight v hv with z | ⟨p, hp1, e, d, h1, h2⟩
      · exact .inl z
      · exact .inr ⟨p, hp1, e, d, up h1, up h2⟩
    · obtain ⟨p, hp1, e1, e2⟩ := hp
      exact .inr ⟨p, hp1, e2, c, by rw [e1]; exact up hc, (key _ _).mpr (.inl ⟨rfl, rfl⟩)⟩
  · rcases old e with ⟨_, e⟩ | ⟨e, _⟩
    · obtain ⟨a, b, h1, h2, h3⟩ := B.done i hi p hp2 e
      exact ⟨a, b, up h1, up h2, h3⟩
    · omega
  · rcases old hv with ⟨hj, hv⟩ | ⟨hj, rfl⟩
    · rcases old hu with ⟨hi, hu⟩ | ⟨hi, rfl⟩
      · rcases (key u a).mp ha with ⟨z, _⟩ | ⟨_, ha⟩
        · exact absurd (List.mem_of_getElem? hu) (z ▸ hgc)
        · rcases (key v b).mp hb with ⟨z, _⟩ | ⟨_, hb⟩
          · exact absurd (List.mem_of_getElem? hv) (z ▸ hgc)
          · exact B.mono i j u v a b hij hu hv ha hb
      · omega
    · rcases (key v b).mp hb with ⟨_, e⟩ | ⟨z, _⟩
      · rcases (key u a).mp ha with ⟨_, e2⟩ | ⟨_, ha⟩
        · omega
        · have := B.near s c hk hc u a ha
          omega
      · exact absurd rfl z
  · rcases old hu with ⟨hi, hu⟩ | ⟨hi, _⟩
    · rw [hk] at hu
      cases hu
      have := at_inj ha (up hc)
      subst this
      rcases (key v b).mp hb with ⟨_, e⟩ | ⟨_, hb⟩
      · omega
      · exact B.near s a hk hc v b hb
    · omega
theorem Bfs.next {n h k : Nat} {ps : List Path} {cs : List (Option Nat)} {come : List Nat} {s : Nat} (B : Bfs n h ps cs come k) (hk : come[k]? = some s) (hd : ∀ p ∈ ps, p.1 = s → ∃ c d, At cs p.1 c ∧ At cs p.2.1 d ∧ d ≤ c + 1) : Bfs n h ps cs come (k + 1) := by
  refine ⟨B.len, B.mem, B.nd, B.zero, B.tight, fun i hi p hp e => ?_, B.mono, fun u a hu ha v b hb => ?_⟩
  · by_cases hik : i = k
    · subst hik
      rw [hk] at e
      cases e
      exact hd p hp rfl
    · exact B.done i (by omega) p hp e
  · obtain ⟨c, hc⟩ := (B.mem s).mp (List.mem_of_getElem? hk)
    have h1 := B.near s c hk hc v b hb
    have h2 := B.mono k (k + 1) s u c a (by omega) hk hu hc ha
    omega
theorem Bfs.few {n h : Nat} {ps : List Path} {cs : List (Option Nat)} {come : List Nat} (B : Bfs n h ps cs come come.length) : Few n h ps cs := by
  refine ⟨B.len, B.zero, fun p hp c hc => ?_, fun v c hc => ?_⟩
  · obtain ⟨i, hi, e⟩ := List.getElem_of_mem ((B.mem p.1).mpr ⟨c, hc⟩)
    obtain ⟨a, b, h1, h2, h3⟩ := B.done i hi p hp (by rw [List.getElem?_eq_getElem hi, e])
    have := at_inj h1 hc
    subst this
    exact ⟨b, h2, h3⟩
  · rcases B.tight v ((B.mem v).mpr ⟨c, hc⟩) with z | ⟨p, hp, e, d, h1, h2⟩
    · exact .inl z
    · have := at_inj h2 hc
      subst this
      exact .inr ⟨p, hp, e, by simpa using h1, by omega⟩
theorem nodup_sub : ∀ {l m : List Nat}, l.Nodup → (∀ x ∈ l, x ∈ m) → l.length ≤ m.length
  | [], _, _, _ => by simp
  | x :: l, m, hn, hs => by
    rw [List.nodup_cons] at hn
    have hx := hs x (by simp)
    have := nodup_sub (l := l) (m := m.erase x) hn.2 fun y hy => by
      have hyx : y ≠ x := fun e => hn.1 (e ▸ hy)
      exact (List.mem_erase_of_ne hyx).mpr (hs y (List.mem_cons_of_mem _ hy))
    rw [List.length_erase_of_mem hx] at this
    have h0 : 0 < m.length := List.length_pos_of_mem hx
    simp only [List.length_cons]
    omega
theorem nodup_le {n : Nat} {l : List Nat} (hn : l.Nodup) (hl : ∀ x ∈ l, x < n) : l.length ≤ n := by
  have := nodup_sub (m := List.range n) hn fun x hx => List.mem_range.mpr (hl x hx)
  simpa using this
theorem encN_set (cs : List (Option Nat)) (g c : Nat) : (cs.map encN).set g (.int c) = (cs.set g (some c)).map encN := by
  rw [List.map_set]; rfl
theorem c_isN (o : Option Nat) : cmpop .Is (encN o) .non = some o.isNone := by cases o <;> rfl
theorem c_noN (o : Option Nat) : cmpop .IsNot (encN o) .non = some o.isSome := by cases o <;> rfl
theorem c_isO (o : Option Int) : cmpop .Is (encO o) .non = some o.isNone := by cases o <;> rfl
theorem c_noO (o : Option Int) : cmpop .IsNot (encO o) .non = some o.isSome := by cases o <;> rfl
def int4 (e : Env) : Nat := match e[4]? with | some (some (D.int a, _)) => (9 - a).toNat | _ => 0
theorem fewest18 (G : Orc) (n : Nat) (ps : List Path) (h : Nat) (N : NetOk n ps) (hh : h < n) : ∃ cs, runF G F18 [encNet n ps, .int h] = some (.lst (cs.map encN), .top) ∧ Few n h ps cs := by
  have hlo := N.lo
  have hhi := N.hi
  have hwl := whileL_inv (c := fun e => evT G e (.cmp .Lt (.var 4) (.b1 .len (.var 3)))) (f := fun e => exs G e
      (.cons (.for_ (.many [5, 6, 7]) (.ofE (.idx (.var 0) (.int 1))) (.cons (.ifs (.bop true (.cmp .Eq (.var 5) (.idx (.var 3) (.var 4))) (.cons (.cmp .Is (.idx (.var 2) (.var 6)) .non) .nil)) (.cons (.put 2 (.var 6) (.bin .Add (.idx (.var 2) (.var 5)) (.int 1)))
  (.cons (.app 3 (.var 6))
  .nil)) .nil)
  .nil))
  (.cons (.aug 4 (.int 1))
  .nil)))
    (fun e => ∃ (cs : List (Option Nat)) (come : List Nat) (k : Nat) (x5 x6 x7 : Option (D × Ow)), e = [some (encNet n ps, .no), some (.int h, .no), some (.lst (cs.map encN), .top), some (.lst (come.map fun t : Nat => D.int t), .top), some (.int k, .no), x5, x6, x7] ∧ Bfs n h ps cs come k ∧ k ≤ come.length)
    (fun _ _ => False) int4 (by
      rintro e ⟨cs, come, k, x5, x6, x7, rfl, B, hkl⟩
      by_cases hlt : k < come.length
      · refine .inr ⟨?_, .inl ?_⟩
        · have : ((k : Int) < ((come.map fun t : Nat => D.int t).length : Int)) := by rw [List.length_map]; omega
          simp only [this, runF, exs, ex, evT, ev, evs, evB, evP, evC, evI, blOf, sc, Option.bind_some, Option.bind_none, Option.map_some, Option.map_none, bindT, Fl.al, Fl.el, Fl.ow, Fl.rt, Fl.at, tpAt, movOw, als, retF, D.cl, D.cl1, D.hasL, D.hasLs, retO, retOs, cnt, Env.drp, Env.lock, Env.unlock, Out.unlock, setAll, List.getElem?_cons_zero, List.getElem?_cons_succ, List.set_cons_zero, List.set_cons_succ, List.length_cons, List.length_nil, List.map_cons, List.map_nil, List.cons_append, List.nil_append, List.append_nil, List.flatten_cons, List.flatten_nil, List.replicate_succ, List.replicate_zero, List.getElem?_nil, List.set_nil, List.all_cons, List.all_nil, List.filter_cons, List.filter_nil, List.length_set, List.isEmpty_nil, List.isEmpty_cons, List.foldl_cons, List.foldl_nil, List.append_assoc, List.contains_cons, List.zip_cons_cons, List.zip_nil_left, List.zip_nil_right, if_true, if_false, if_pos rfl, ite_true, ite_false, Bool.true_or, Bool.or_true, Bool.false_or, Bool.or_false, Bool.and_true, Bool.true_and, Bool.false_and, Bool.and_false, Bool.not_true, Bool.not_false, decide_true, decide_false, Bool.true_eq_false, Bool.false_eq_true, reduceIte, reduceCtorEq, Nat.reduceAdd, Nat.reduceSub, Nat.reduceLT, Nat.reduceLeDiff, Nat.reduceEqDiff, Nat.zero_lt_succ, Nat.reduceBEq, BEq.rfl, beq_self_eq_true, Nat.lt_add_one, and_self, and_true, true_and, Nat.zero_add, Nat.add_zero, Nat.add_one_sub_one, Nat.sub_self, Nat.sub_zero, decide_eq_true_eq, Nat.zero_le, Nat.add_zero, Nat.le_refl, b_add, b_sub, c_lt, c_le, c_gt, c_ge, c_eqI, c_neI, c_isNN, c_isIN, c_noNN, c_noIN, o_lenL, o_lenS, o_lenT, o_abs, o_listL, o_listT, o_intI, o_intB, o_max2, o_min2, neg_I]
        obtain ⟨s, hs⟩ : ∃ s, come[k]? = some s := ⟨_, List.getElem?_eq_getElem hlt⟩
        have hcl : come.length ≤ n := nodup_le B.nd fun x hx => by
          obtain ⟨c, hc⟩ := (B.mem x).mp hx
          have := (List.getElem?_eq_some_iff.mp hc).1
          rw [B.len] at this
          exact this
        obtain ⟨e', hfor, cs', come', x5', x6', x7', he, B', hs', hd'⟩ := forL_inv (f := fun _ e => exs G e (.cons (.ifs (.bop true (.cmp .Eq (.var 5) (.idx (.var 3) (.var 4))) (.cons (.cmp .Is (.idx (.var 2) (.var 6)) .non) .nil)) (.cons (.put 2 (.var 6) (.bin .Add (.idx (.var 2) (.var 5)) (.int 1)))
  (.cons (.app 3 (.var 6))
  .nil)) .nil)
  .nil)) (tg := .many [5, 6, 7]) (fun i e => ∃ (cs : List (Option Nat)) (come : List Nat) (x5 x6 x7 : Option (D × Ow)), e = [some (encNet n ps, .no), some (.int h, .no), some (.lst (cs.map encN), .top), some (.lst (come.map fun t : Nat => D.int t), .top), some (.int k, .no), x5, x6, x7] ∧ Bfs n h ps cs come k ∧ come[k]? = some s ∧
            ∀ j, j < i → ∀ p, ps[j]? = some p → p.1 = s → ∃ c d, At cs p.1 c ∧ At cs p.2.1 d ∧ d ≤ c + 1)
          (ds := ps.map encP) (env := [some (encNet n ps, .no), some (.int h, .no), some (.lst (cs.map encN), .top), some (.lst (come.map fun t : Nat => D.int t), .top), some (.int k, .no), x5, x6, x7]) 0 ⟨cs, come, x5, x6, x7, rfl, B, hs, fun j hj => by omega⟩ (by
            rintro j d e hd ⟨cs, come, x5, x6, x7, rfl, B, hs, hdn⟩
            rw [List.getElem?_map] at hd
            obtain ⟨⟨ss, g, m⟩, hp, rfl⟩ := Option.map_eq_some_iff.mp hd
            have hpm := List.mem_of_getElem? hp
            obtain ⟨q1, q2, q3, q4⟩ := N.at_ _ hpm
            simp only at q1 q2 q3 q4
            have ic := fun f => i_lst (f := f) (ds := come.map fun t : Nat => D.int t) (k := k) (d := .int s) (by rw [List.getElem?_map, hs]; rfl)
            have hg : g < cs.length := by rw [B.len]; exact q2
            have ig := fun f => i_lst (f := f) (ds := cs.map encN) (k := g) (d := encN cs[g]) (by rw [List.getElem?_map, List.getElem?_eq_getElem hg]; rfl)
            have hll : ((come.map fun t : Nat => D.int t).length < szb) := by
              have : come.length ≤ n := nodup_le B.nd fun x hx => by
                obtain ⟨c, hc⟩ := (B.mem x).mp hx
                have := (List.getElem?_eq_some_iff.mp hc).1
                rw [B.len] at this
                exact this
              rw [List.length_map]
              simp only [szb]
              omega
            obtain ⟨c, hc⟩ := (B.mem s).mp (List.mem_of_getElem? hs)
            by_cases hss : ss = s
            · subst hss
              have isx := fun f => i_lst (f := f) (ds := cs.map encN) (k := ss) (d := .int c) (by rw [List.getElem?_map, hc]; rfl)
              cases hcg : cs[g] with
              | none =>
                rw [hcg] at ig
                have hgn : cs[g]? = some none := by rw [List.getElem?_eq_getElem hg, hcg]
                have B2 := B.add hs hc q2 hgn ⟨_, hpm, rfl, rfl⟩
                have hput := put_lst (ds := cs.map encN) (k := g) (by simpa using hg)
                have e1 : ((c : Int) + 1) = ((c + 1 : Nat) : Int) := by omega
                refine ⟨_, _, by simp only [encP, runF, exs, ex, evT, ev, evs, evB, evP, evC, evI, blOf, sc, Option.bind_some, Option.bind_none, Option.map_some, Option.map_none, bindT, Fl.al, Fl.el, Fl.ow, Fl.rt, Fl.at, tpAt, movOw, als, retF, D.cl, D.cl1, D.hasL, D.hasLs, retO, retOs, cnt, Env.drp, Env.lock, Env.unlock, Out.unlock, setAll, List.getElem?_cons_zero, List.getElem?_cons_succ, List.set_cons_zero, List.set_cons_succ, List.length_cons, List.length_nil, List.map_cons, List.map_nil, List.cons_append, List.nil_append, List.append_nil, List.flatten_cons, List.flatten_nil, List.replicate_succ, List.replicate_zero, List.getElem?_nil, List.set_nil, List.all_cons, List.all_nil, List.filter_cons, List.filter_nil, List.length_set, List.isEmpty_nil, List.isEmpty_cons, List.foldl_cons, List.foldl_nil, List.append_assoc, List.contains_cons, List.zip_cons_cons, List.zip_nil_left, List.zip_nil_right, if_true, if_false, if_pos rfl, ite_true, ite_false, Bool.true_or, Bool.or_true, Bool.false_or, Bool.or_false, Bool.and_true, Bool.true_and, Bool.false_and, Bool.and_false, Bool.not_true, Bool.not_false, decide_true, decide_false, Bool.true_eq_false, Bool.false_eq_true, reduceIte, reduceCtorEq, Nat.reduceAdd, Nat.reduceSub, Nat.reduceLT, Nat.reduceLeDiff, Nat.reduceEqDiff, Nat.zero_lt_succ, Nat.reduceBEq, BEq.rfl, beq_self_eq_true, Nat.lt_add_one, and_self, and_true, true_and, Nat.zero_add, Nat.add_zero, Nat.add_one_sub_one, Nat.sub_self, Nat.sub_zero, decide_eq_true_eq, Nat.zero_le, Nat.add_zero, Nat.le_refl, b_add, b_sub, c_lt, c_le, c_gt, c_ge, c_eqI, c_neI, c_isNN, c_isIN, c_noNN, c_noIN, o_lenL, o_lenS, o_lenT, o_abs, o_listL, o_listT, o_intI, o_intB, o_max2, o_min2, neg_I] <;> rfl, .inl ((exs_t (e := [some (encNet n ps, .no), some (.int h, .no), some (.lst ((cs.set g (some (c + 1))).map encN), .top), some (.lst ((come ++ [g]).map fun t : Nat => D.int t), .top), some (.int k, .no), some (.int ss, .no), some (.int g, .no), some (encO m, .no)]) ?_ ?_).trans (by simp only [exs])), _, _, some (.int ss, .no), some (.int g, .no), some (encO m, .no), rfl, B2, ?_, fun i hi p hp2 e2 => ?_⟩
                · simp only [ic, ig, c_isN, encN, Option.isNone_none, runF, exs, ex, evT, ev, evs, evB, evP, evC, evI, blOf, sc, Option.bind_some, Option.bind_none, Option.map_some, Option.map_none, bindT, Fl.al, Fl.el, Fl.ow, Fl.rt, Fl.at, tpAt, movOw, als, retF, D.cl, D.cl1, D.hasL, D.hasLs, retO, retOs, cnt, Env.drp, Env.lock, Env.unlock, Out.unlock, setAll, List.getElem?_cons_zero, List.getElem?_cons_succ, List.set_cons_zero, List.set_cons_succ, List.length_cons, List.length_nil, List.map_cons, List.map_nil, List.cons_append, List.nil_append, List.append_nil, List.flatten_cons, List.flatten_nil, List.replicate_succ, List.replicate_zero, List.getElem?_nil, List.set_nil, List.all_cons, List.all_nil, List.filter_cons, List.filter_nil, List.length_set, List.isEmpty_nil, List.isEmpty_cons, List.foldl_cons, List.foldl_nil, List.append_assoc, List.contains_cons, List.zip_cons_cons, List.zip_nil_left, List.zip_nil_right, if_true, if_false, if_pos rfl, ite_true, ite_false, Bool.true_or, Bool.or_true, Bool.false_or, Bool.or_false, Bool.and_true, Bool.true_and, Bool.false_and, Bool.and_false, Bool.not_true, Bool.not_false, decide_true, decide_false, Bool.true_eq_false, Bool.false_eq_true, reduceIte, reduceCtorEq, Nat.reduceAdd, Nat.reduceSub, Nat.reduceLT, Nat.reduceLeDiff, Nat.reduceEqDiff, Nat.zero_lt_succ, Nat.reduceBEq, BEq.rfl, beq_self_eq_true, Nat.lt_add_one, and_self, and_true, true_and, Nat.zero_add, Nat.add_zero, Nat.add_one_sub_one, Nat.sub_self, Nat.sub_zero, decide_eq_true_eq, Nat.zero_le, Nat.add_zero, Nat.le_refl, b_add, b_sub, c_lt, c_le, c_gt, c_ge, c_eqI, c_neI, c_isNN, c_isIN, c_noNN, c_noIN, o_lenL, o_lenS, o_lenT, o_abs, o_listL, o_listT, o_intI, o_intB, o_max2, o_min2, neg_I]
                · refine (exs_nx (by simp only [isx, e1, hput, encN_set, runF, exs, ex, evT, ev, evs, evB, evP, evC, evI, blOf, sc, Option.bind_some, Option.bind_none, Option.map_some, Option.map_none, bindT, Fl.al, Fl.el, Fl.ow, Fl.rt, Fl.at, tpAt, movOw, als, retF, D.cl, D.cl1, D.hasL, D.hasLs, retO, retOs, cnt, Env.drp, Env.lock, Env.unlock, Out.unlock, setAll, List.getElem?_cons_zero, List.getElem?_cons_succ, List.set_cons_zero, List.set_cons_succ, List.length_cons, List.length_nil, List.map_cons, List.map_nil, List.cons_append, List.nil_append, List.append_nil, List.flatten_cons, List.flatten_nil, List.replicate_succ, List.replicate_zero, List.getElem?_nil, List.set_nil, List.all_cons, List.all_nil, List.filter_cons, List.filter_nil, List.length_set, List.isEmpty_nil, List.isEmpty_cons, List.foldl_cons, List.foldl_nil, List.append_assoc, List.contains_cons, List.zip_cons_cons, List.zip_nil_left, List.zip_nil_right, if_true, if_false, if_pos rfl, ite_true, ite_false, Bool.true_or, Bool.or_true, Bool.false_or, Bool.or_false, Bool.and_true, Bool.true_and, Bool.false_and, Bool.and_false, Bool.not_true, Bool.not_false, decide_true, decide_false, Bool.true_eq_false, Bool.false_eq_true, reduceIte, reduceCtorEq, Nat.reduceAdd, Nat.reduceSub, Nat.reduceLT, Nat.reduceLeDiff, Nat.reduceEqDiff, Nat.zero_lt_succ, Nat.reduceBEq, BEq.rfl, beq_self_eq_true, Nat.lt_add_one, and_self, and_true, true_and, Nat.zero_add, Nat.add_zero, Nat.add_one_sub_one, Nat.sub_self, Nat.sub_zero, decide_eq_true_eq, Nat.zero_le, Nat.add_zero, Nat.le_refl, b_add, b_sub, c_lt, c_le, c_gt, c_ge, c_eqI, c_neI, c_isNN, c_isIN, c_noNN, c_noIN, o_lenL, o_lenS, o_lenT, o_abs, o_listL, o_listT, o_intI, o_intB, o_max2, o_min2, neg_I] <;> rfl)).trans ?_
                  refine (exs_nx (by simp only [hll, runF, exs, ex, evT, ev, evs, evB, evP, evC, evI, blOf, sc, Option.bind_some, Option.bind_none, Option.map_some, Option.map_none, bindT, Fl.al, Fl.el, Fl.ow, Fl.rt, Fl.at, tpAt, movOw, als, retF, D.cl, D.cl1, D.hasL, D.hasLs, retO, retOs, cnt, Env.drp, Env.lock, Env.unlock, Out.unlock, setAll, List.getElem?_cons_zero, List.getElem?_cons_succ, List.set_cons_zero, List.set_cons_succ, List.length_cons, List.length_nil, List.map_cons, List.map_nil, List.cons_append, List.nil_append, List.append_nil, List.flatten_cons, List.flatten_nil, List.replicate_succ, List.replicate_zero, List.getElem?_nil, List.set_nil, List.all_cons, List.all_nil, List.filter_cons, List.filter_nil, List.length_set, List.isEmpty_nil, List.isEmpty_cons, List.foldl_cons, List.foldl_nil, List.append_assoc, List.contains_cons, List.zip_cons_cons, List.zip_nil_left, List.zip_nil_right, if_true, if_false, if_pos rfl, ite_true, ite_false, Bool.true_or, Bool.or_true, Bool.false_or, Bool.or_false, Bool.and_true, Bool.true_and, Bool.false_and, Bool.and_false, Bool.not_true, Bool.not_false, decide_true, decide_false, Bool.true_eq_false, Bool.false_eq_true, reduceIte, reduceCtorEq, Nat.reduceAdd, Nat.reduceSub, Nat.reduceLT, Nat.reduceLeDiff, Nat.reduceEqDiff, Nat.zero_lt_succ, Nat.reduceBEq, BEq.rfl, beq_self_eq_true, Nat.lt_add_one, and_self, and_true, true_and, Nat.zero_add, Nat.add_zero, Nat.add_one_sub_one, Nat.sub_self, Nat.sub_zero, decide_eq_true_eq, Nat.zero_le, Nat.add_zero, Nat.le_refl, b_add, b_sub, c_lt, c_le, c_gt, c_ge, c_eqI, c_neI, c_isNN, c_isIN, c_noNN, c_noIN, o_lenL, o_lenS, o_lenT, o_abs, o_listL, o_listT, o_intI, o_intB, o_max2, o_min2, neg_I] <;> rfl)).trans ?_
                  simp only [exs, List.map_append, List.map_cons, List.map_nil]
                · rw [List.getElem?_append_left (List.getElem?_eq_some_iff.mp hs).1]; exact hs
                · by_cases hij : i = j
                  · subst hij
                    rw [hp] at hp2
                    cases hp2
                    exact ⟨c, c + 1, (at_set hg).mpr (.inr ⟨q3, hc⟩), (at_set hg).mpr (.inl ⟨rfl, rfl⟩), by omega⟩
                  · obtain ⟨a, b, h1, h2, h3⟩ := hdn i (by omega) p hp2 e2
                    refine ⟨a, b, (at_set hg).mpr (.inr ⟨fun z => ?_, h1⟩), (at_set hg).mpr (.inr ⟨fun z => ?_, h2⟩), h3⟩
                    · rw [z] at h1; unfold At at h1; rw [hgn] at h1; simp at h1
                    · rw [z] at h2; unfold At at h2; rw [hgn] at h2; simp at h2
              | some d =>
                rw [hcg] at ig
                refine ⟨_, _, by simp only [encP, runF, exs, ex, evT, ev, evs, evB, evP, evC, evI, blOf, sc, Option.bind_some, Option.bind_none, Option.map_some, Option.map_none, bindT, Fl.al, Fl.el, Fl.ow, Fl.rt, Fl.at, tpAt, movOw, als, retF, D.cl, D.cl1, D.hasL, D.hasLs, retO, retOs, cnt, Env.drp, Env.lock, Env.unlock, Out.unlock, setAll, List.getElem?_cons_zero, List.getElem?_cons_succ, List.set_cons_zero, List.set_cons_succ, List.length_cons, List.length_nil, List.map_cons, List.map_nil, List.cons_append, List.nil_append, List.append_nil, List.flatten_cons, List.flatten_nil, List.replicate_succ, List.replicate_zero, List.getElem?_nil, List.set_nil, List.all_cons, List.all_nil, List.filter_cons, List.filter_nil, List.length_set, List.isEmpty_nil, List.isEmpty_cons, List.foldl_cons, List.foldl_nil, List.append_assoc, List.contains_cons, List.zip_cons_cons, List.zip_nil_left, List.zip_nil_right, if_true, if_false, if_pos rfl, ite_true, ite_false, Bool.true_or, Bool.or_true, Bool.false_or, Bool.or_false, Bool.and_true, Bool.true_and, Bool.false_and, Bool.and_false, Bool.not_true, Bool.not_false, decide_true, decide_false, Bool.true_eq_false, Bool.false_eq_true, reduceIte, reduceCtorEq, Nat.reduceAdd, Nat.reduceSub, Nat.reduceLT, Nat.reduceLeDiff, Nat.reduceEqDiff, Nat.zero_lt_succ, Nat.reduceBEq, BEq.rfl, beq_self_eq_true, Nat.lt_add_one, and_self, and_true, true_and, Nat.zero_add, Nat.add_zero, Nat.add_one_sub_one, Nat.sub_self, Nat.sub_zero, decide_eq_true_eq, Nat.zero_le, Nat.add_zero, Nat.le_refl, b_add, b_sub, c_lt, c_le, c_gt, c_ge, c_eqI, c_neI, c_isNN, c_isIN, c_noNN, c_noIN, o_lenL, o_lenS, o_lenT, o_abs, o_listL, o_listT, o_intI, o_intB, o_max2, o_min2, neg_I] <;> rfl, .inl ((exs_f ?_ rfl).trans (by simp only [exs] <;> rfl)), cs, come, some (.int ss, .no), some (.int g, .no), some (encO m, .no), rfl, B, hs, fun i hi p hp2 e2 => ?_⟩
                · simp only [ic, ig, c_isN, encN, Option.isNone_some, runF, exs, ex, evT, ev, evs, evB, evP, evC, evI, blOf, sc, Option.bind_some, Option.bind_none, Option.map_some, Option.map_none, bindT, Fl.al, Fl.el, Fl.ow, Fl.rt, Fl.at, tpAt, movOw, als, retF, D.cl, D.cl1, D.hasL, D.hasLs, retO, retOs, cnt, Env.drp, Env.lock, Env.unlock, Out.unlock, setAll, List.getElem?_cons_zero, List.getElem?_cons_succ, List.set_cons_zero, List.set_cons_succ, List.length_cons, List.length_nil, List.map_cons, List.map_nil, List.cons_append, List.nil_append, List.append_nil, List.flatten_cons, List.flatten_nil, List.replicate_succ, List.replicate_zero, List.getElem?_nil, List.set_nil, List.all_cons, List.all_nil, List.filter_cons, List.filter_nil, List.length_set, List.isEmpty_nil, List.isEmpty_cons, List.foldl_cons, List.foldl_nil, List.append_assoc, List.contains_cons, List.zip_cons_cons, List.zip_nil_left, List.zip_nil_right, if_true, if_false, if_pos rfl, ite_true, ite_false, Bool.true_or, Bool.or_true, Bool.false_or, Bool.or_false, Bool.and_true, Bool.true_and, Bool.false_and, Bool.and_false, Bool.not_true, Bool.not_false, decide_true, decide_false, Bool.true_eq_false, Bool.false_eq_true, reduceIte, reduceCtorEq, Nat.reduceAdd, Nat.reduceSub, Nat.reduceLT, Nat.reduceLeDiff, Nat.reduceEqDiff, Nat.zero_lt_succ, Nat.reduceBEq, BEq.rfl, beq_self_eq_true, Nat.lt_add_one, and_self, and_true, true_and, Nat.zero_add, Nat.add_zero, Nat.add_one_sub_one, Nat.sub_self, Nat.sub_zero, decide_eq_true_eq, Nat.zero_le, Nat.add_zero, Nat.le_refl, b_add, b_sub, c_lt, c_le, c_gt, c_ge, c_eqI, c_neI, c_isNN, c_isIN, c_noNN, c_noIN, o_lenL, o_lenS, o_lenT, o_abs, o_listL, o_listT, o_intI, o_intB, o_max2, o_min2, neg_I]
                · by_cases hij : i = j
                  · subst hij
                    rw [hp] at hp2
                    cases hp2
                    have hgd : At cs g d := by unfold At; rw [List.getElem?_eq_getElem hg, hcg]
                    exact ⟨c, d, hc, hgd, B.near ss c hs hc g d hgd⟩
                  · exact hdn i (by omega) p hp2 e2
            · have hne : ¬ ((ss : Int) = s) := by omega
              refine ⟨_, _, by simp only [encP, runF, exs, ex, evT, ev, evs, evB, evP, evC, evI, blOf, sc, Option.bind_some, Option.bind_none, Option.map_some, Option.map_none, bindT, Fl.al, Fl.el, Fl.ow, Fl.rt, Fl.at, tpAt, movOw, als, retF, D.cl, D.cl1, D.hasL, D.hasLs, retO, retOs, cnt, Env.drp, Env.lock, Env.unlock, Out.unlock, setAll, List.getElem?_cons_zero, List.getElem?_cons_succ, List.set_cons_zero, List.set_cons_succ, List.length_cons, List.length_nil, List.map_cons, List.map_nil, List.cons_append, List.nil_append, List.append_nil, List.flatten_cons, List.flatten_nil, List.replicate_succ, List.replicate_zero, List.getElem?_nil, List.set_nil, List.all_cons, List.all_nil, List.filter_cons, List.filter_nil, List.length_set, List.isEmpty_nil, List.isEmpty_cons, List.foldl_cons, List.foldl_nil, List.append_assoc, List.contains_cons, List.zip_cons_cons, List.zip_nil_left, List.zip_nil_right, if_true, if_false, if_pos rfl, ite_true, ite_false, Bool.true_or, Bool.or_true, Bool.false_or, Bool.or_false, Bool.and_true, Bool.true_and, Bool.false_and, Bool.and_false, Bool.not_true, Bool.not_false, decide_true, decide_false, Bool.true_eq_false, Bool.false_eq_true, reduceIte, reduceCtorEq, Nat.reduceAdd, Nat.reduceSub, Nat.reduceLT, Nat.reduceLeDiff, Nat.reduceEqDiff, Nat.zero_lt_succ, Nat.reduceBEq, BEq.rfl, beq_self_eq_true, Nat.lt_add_one, and_self, and_true, true_and, Nat.zero_add, Nat.add_zero, Nat.add_one_sub_one, Nat.sub_self, Nat.sub_zero, decide_eq_true_eq, Nat.zero_le, Nat.add_zero, Nat.le_refl, b_add, b_sub, c_lt, c_le, c_gt, c_ge, c_eqI, c_neI, c_isNN, c_isIN, c_noNN, c_noIN, o_lenL, o_lenS, o_lenT, o_abs, o_listL, o_listT, o_intI, o_intB, o_max2, o_min2, neg_I] <;> rfl, .inl ((exs_f ?_ rfl).trans (by simp only [exs] <;> rfl)), cs, come, some (.int ss, .no), some (.int g, .no), some (encO m, .no), rfl, B, hs, fun i hi p hp2 e2 => ?_⟩
              · simp only [ic, hne, runF, exs, ex, evT, ev, evs, evB, evP, evC, evI, blOf, sc, Option.bind_some, Option.bind_none, Option.map_some, Option.map_none, bindT, Fl.al, Fl.el, Fl.ow, Fl.rt, Fl.at, tpAt, movOw, als, retF, D.cl, D.cl1, D.hasL, D.hasLs, retO, retOs, cnt, Env.drp, Env.lock, Env.unlock, Out.unlock, setAll, List.getElem?_cons_zero, List.getElem?_cons_succ, List.set_cons_zero, List.set_cons_succ, List.length_cons, List.length_nil, List.map_cons, List.map_nil, List.cons_append, List.nil_append, List.append_nil, List.flatten_cons, List.flatten_nil, List.replicate_succ, List.replicate_zero, List.getElem?_nil, List.set_nil, List.all_cons, List.all_nil, List.filter_cons, List.filter_nil, List.length_set, List.isEmpty_nil, List.isEmpty_cons, List.foldl_cons, List.foldl_nil, List.append_assoc, List.contains_cons, List.zip_cons_cons, List.zip_nil_left, List.zip_nil_right, if_true, if_false, if_pos rfl, ite_true, ite_false, Bool.true_or, Bool.or_true, Bool.false_or, Bool.or_false, Bool.and_true, Bool.true_and, Bool.false_and, Bool.and_false, Bool.not_true, Bool.not_false, decide_true, decide_false, Bool.true_eq_false, Bool.false_eq_true, reduceIte, reduceCtorEq, Nat.reduceAdd, Nat.reduceSub, Nat.reduceLT, Nat.reduceLeDiff, Nat.reduceEqDiff, Nat.zero_lt_succ, Nat.reduceBEq, BEq.rfl, beq_self_eq_true, Nat.lt_add_one, and_self, and_true, true_and, Nat.zero_add, Nat.add_zero, Nat.add_one_sub_one, Nat.sub_self, Nat.sub_zero, decide_eq_true_eq, Nat.zero_le, Nat.add_zero, Nat.le_refl, b_add, b_sub, c_lt, c_le, c_gt, c_ge, c_eqI, c_neI, c_isNN, c_isIN, c_noNN, c_noIN, o_lenL, o_lenS, o_lenT, o_abs, o_listL, o_listT, o_intI, o_intB, o_max2, o_min2, neg_I]
              · by_cases hij : i = j
                · subst hij
                  rw [hp] at hp2
                  cases hp2
                  exact absurd e2 hss
                · exact hdn i (by omega) p hp2 e2)
        subst he
        have B2 := B'.next hs' fun p hp e2 => by
          obtain ⟨i, hi, e3⟩ := List.getElem_of_mem hp
          exact hd' i (by simpa using hi) p (by rw [List.getElem?_eq_getElem hi, e3]) e2
        have hk9 : k < 9 := by omega
        refine ⟨_, .inl ?_, ⟨cs', come', k + 1, x5', x6', x7', rfl, B2, ?_⟩, ?_⟩
        · refine (exs_for (p := (ps.map encP, [], [])) (by simp only [i_net1, runF, exs, ex, evT, ev, evs, evB, evP, evC, evI, blOf, sc, Option.bind_some, Option.bind_none, Option.map_some, Option.map_none, bindT, Fl.al, Fl.el, Fl.ow, Fl.rt, Fl.at, tpAt, movOw, als, retF, D.cl, D.cl1, D.hasL, D.hasLs, retO, retOs, cnt, Env.drp, Env.lock, Env.unlock, Out.unlock, setAll, List.getElem?_cons_zero, List.getElem?_cons_succ, List.set_cons_zero, List.set_cons_succ, List.length_cons, List.length_nil, List.map_cons, List.map_nil, List.cons_append, List.nil_append, List.append_nil, List.flatten_cons, List.flatten_nil, List.replicate_succ, List.replicate_zero, List.getElem?_nil, List.set_nil, List.all_cons, List.all_nil, List.filter_cons, List.filter_nil, List.length_set, List.isEmpty_nil, List.isEmpty_cons, List.foldl_cons, List.foldl_nil, List.append_assoc, List.contains_cons, List.zip_cons_cons, List.zip_nil_left, List.zip_nil_right, if_true, if_false, if_pos rfl, ite_true, ite_false, Bool.true_or, Bool.or_true, Bool.false_or, Bool.or_false, Bool.and_true, Bool.true_and, Bool.false_and, Bool.and_false, Bool.not_true, Bool.not_false, decide_true, decide_false, Bool.true_eq_false, Bool.false_eq_true, reduceIte, reduceCtorEq, Nat.reduceAdd, Nat.reduceSub, Nat.reduceLT, Nat.reduceLeDiff, Nat.reduceEqDiff, Nat.zero_lt_succ, Nat.reduceBEq, BEq.rfl, beq_self_eq_true, Nat.lt_add_one, and_self, and_true, true_and, Nat.zero_add, Nat.add_zero, Nat.add_one_sub_one, Nat.sub_self, Nat.sub_zero, decide_eq_true_eq, Nat.zero_le, Nat.add_zero, Nat.le_refl, b_add, b_sub, c_lt, c_le, c_gt, c_ge, c_eqI, c_neI, c_isNN, c_isIN, c_noNN, c_noIN, o_lenL, o_lenS, o_lenT, o_abs, o_listL, o_listT, o_intI, o_intB, o_max2, o_min2, neg_I] <;> rfl) rfl hfor).trans ?_
          refine (exs_nx (by simp only [runF, exs, ex, evT, ev, evs, evB, evP, evC, evI, blOf, sc, Option.bind_some, Option.bind_none, Option.map_some, Option.map_none, bindT, Fl.al, Fl.el, Fl.ow, Fl.rt, Fl.at, tpAt, movOw, als, retF, D.cl, D.cl1, D.hasL, D.hasLs, retO, retOs, cnt, Env.drp, Env.lock, Env.unlock, Out.unlock, setAll, List.getElem?_cons_zero, List.getElem?_cons_succ, List.set_cons_zero, List.set_cons_succ, List.length_cons, List.length_nil, List.map_cons, List.map_nil, List.cons_append, List.nil_append, List.append_nil, List.flatten_cons, List.flatten_nil, List.replicate_succ, List.replicate_zero, List.getElem?_nil, List.set_nil, List.all_cons, List.all_nil, List.filter_cons, List.filter_nil, List.length_set, List.isEmpty_nil, List.isEmpty_cons, List.foldl_cons, List.foldl_nil, List.append_assoc, List.contains_cons, List.zip_cons_cons, List.zip_nil_left, List.zip_nil_right, if_true, if_false, if_pos rfl, ite_true, ite_false, Bool.true_or, Bool.or_true, Bool.false_or, Bool.or_false, Bool.and_true, Bool.true_and, Bool.false_and, Bool.and_false, Bool.not_true, Bool.not_false, decide_true, decide_false, Bool.true_eq_false, Bool.false_eq_true, reduceIte, reduceCtorEq, Nat.reduceAdd, Nat.reduceSub, Nat.reduceLT, Nat.reduceLeDiff, Nat.reduceEqDiff, Nat.zero_lt_succ, Nat.reduceBEq, BEq.rfl, beq_self_eq_true, Nat.lt_add_one, and_self, and_true, true_and, Nat.zero_add, Nat.add_zero, Nat.add_one_sub_one, Nat.sub_self, Nat.sub_zero, decide_eq_true_eq, Nat.zero_le, Nat.add_zero, Nat.le_refl, b_add, b_sub, c_lt, c_le, c_gt, c_ge, c_eqI, c_neI, c_isNN, c_isIN, c_noNN, c_noIN, o_lenL, o_lenS, o_lenT, o_abs, o_listL, o_listT, o_intI, o_intB, o_max2, o_min2, neg_I] <;> rfl)).trans ?_
          simp only [exs]
          rfl
        · exact (List.getElem?_eq_some_iff.mp hs').1
        · show (9 - ((k : Int) + 1)).toNat < (9 - (k : Int)).toNat
          omega
      · refine .inl ?_
        have : ¬ ((k : Int) < ((come.map fun t : Nat => D.int t).length : Int)) := by rw [List.length_map]; omega
        simp only [this, runF, exs, ex, evT, ev, evs, evB, evP, evC, evI, blOf, sc, Option.bind_some, Option.bind_none, Option.map_some, Option.map_none, bindT, Fl.al, Fl.el, Fl.ow, Fl.rt, Fl.at, tpAt, movOw, als, retF, D.cl, D.cl1, D.hasL, D.hasLs, retO, retOs, cnt, Env.drp, Env.lock, Env.unlock, Out.unlock, setAll, List.getElem?_cons_zero, List.getElem?_cons_succ, List.set_cons_zero, List.set_cons_succ, List.length_cons, List.length_nil, List.map_cons, List.map_nil, List.cons_append, List.nil_append, List.append_nil, List.flatten_cons, List.flatten_nil, List.replicate_succ, List.replicate_zero, List.getElem?_nil, List.set_nil, List.all_cons, List.all_nil, List.filter_cons, List.filter_nil, List.length_set, List.isEmpty_nil, List.isEmpty_cons, List.foldl_cons, List.foldl_nil, List.append_assoc, List.contains_cons, List.zip_cons_cons, List.zip_nil_left, List.zip_nil_right, if_true, if_false, if_pos rfl, ite_true, ite_false, Bool.true_or, Bool.or_true, Bool.false_or, Bool.or_false, Bool.and_true, Bool.true_and, Bool.false_and, Bool.and_false, Bool.not_true, Bool.not_false, decide_true, decide_false, Bool.true_eq_false, Bool.false_eq_true, reduceIte, reduceCtorEq, Nat.reduceAdd, Nat.reduceSub, Nat.reduceLT, Nat.reduceLeDiff, Nat.reduceEqDiff, Nat.zero_lt_succ, Nat.reduceBEq, BEq.rfl, beq_self_eq_true, Nat.lt_add_one, and_self, and_true, true_and, Nat.zero_add, Nat.add_zero, Nat.add_one_sub_one, Nat.sub_self, Nat.sub_zero, decide_eq_true_eq, Nat.zero_le, Nat.add_zero, Nat.le_refl, b_add, b_sub, c_lt, c_le, c_gt, c_ge, c_eqI, c_neI, c_isNN, c_isIN, c_noNN, c_noIN, o_lenL, o_lenS, o_lenT, o_abs, o_listL, o_listT, o_intI, o_intB, o_max2, o_min2, neg_I])
    turns [some (encNet n ps, .no), some (.int h, .no), some (.lst (((List.replicate n none).set h (some 0)).map encN), .top), some (.lst ([h].map fun t : Nat => D.int t), .top), some (.int 0, .no), none, none, none] ⟨_, [h], 0, _, _, _, rfl, Bfs.start hh, by simp⟩ (by
      show (9 - (0 : Int)).toNat < 1000000
      decide)
  rcases hwl with ⟨e', hw, ⟨cs, come, k, x5, x6, x7, he, B, hk⟩, hc⟩ | ⟨_, _, _, hf⟩
  · subst he
    have hk2 : k = come.length := by
      by_cases hlt : k < come.length
      · have : ((k : Int) < ((come.map fun t : Nat => D.int t).length : Int)) := by rw [List.length_map]; omega
        have hc2 : evT G [some (encNet n ps, .no), some (.int h, .no), some (.lst (cs.map encN), .top), some (.lst (come.map fun t : Nat => D.int t), .top), some (.int k, .no), x5, x6, x7] (.cmp .Lt (.var 4) (.b1 .len (.var 3))) = some true := by simp only [this, runF, exs, ex, evT, ev, evs, evB, evP, evC, evI, blOf, sc, Option.bind_some, Option.bind_none, Option.map_some, Option.map_none, bindT, Fl.al, Fl.el, Fl.ow, Fl.rt, Fl.at, tpAt, movOw, als, retF, D.cl, D.cl1, D.hasL, D.hasLs, retO, retOs, cnt, Env.drp, Env.lock, Env.unlock, Out.unlock, setAll, List.getElem?_cons_zero, List.getElem?_cons_succ, List.set_cons_zero, List.set_cons_succ, List.length_cons, List.length_nil, List.map_cons, List.map_nil, List.cons_append, List.nil_append, List.append_nil, List.flatten_cons, List.flatten_nil, List.replicate_succ, List.replicate_zero, List.getElem?_nil, List.set_nil, List.all_cons, List.all_nil, List.filter_cons, List.filter_nil, List.length_set, List.isEmpty_nil, List.isEmpty_cons, List.foldl_cons, List.foldl_nil, List.append_assoc, List.contains_cons, List.zip_cons_cons, List.zip_nil_left, List.zip_nil_right, if_true, if_false, if_pos rfl, ite_true, ite_false, Bool.true_or, Bool.or_true, Bool.false_or, Bool.or_false, Bool.and_true, Bool.true_and, Bool.false_and, Bool.and_false, Bool.not_true, Bool.not_false, decide_true, decide_false, Bool.true_eq_false, Bool.false_eq_true, reduceIte, reduceCtorEq, Nat.reduceAdd, Nat.reduceSub, Nat.reduceLT, Nat.reduceLeDiff, Nat.reduceEqDiff, Nat.zero_lt_succ, Nat.reduceBEq, BEq.rfl, beq_self_eq_true, Nat.lt_add_one, and_self, and_true, true_and, Nat.zero_add, Nat.add_zero, Nat.add_one_sub_one, Nat.sub_self, Nat.sub_zero, decide_eq_true_eq, Nat.zero_le, Nat.add_zero, Nat.le_refl, b_add, b_sub, c_lt, c_le, c_gt, c_ge, c_eqI, c_neI, c_isNN, c_isIN, c_noNN, c_noIN, o_lenL, o_lenS, o_lenT, o_abs, o_listL, o_listT, o_intI, o_intB, o_max2, o_min2, neg_I]
        rw [hc2] at hc
        cases hc
      · omega
    subst hk2
    refine ⟨cs, runF_rt [some (encNet n ps, .no), some (.int h, .no), none, none, none, none, none, none] rfl rfl ?_, B.few⟩
    have hrep := fun f g => b_rep (d := .non) (n := n) (f := f) (g := g) (by omega)
    have hput := put_lst (ds := List.replicate n D.non) (k := h) (by simpa using hh)
    have hset : (List.replicate n D.non).set h (.int 0) = ((List.replicate n none).set h (some 0)).map encN := by
      rw [List.map_set, List.map_replicate]; rfl
    refine (exs_nx (by simp only [i_net0, hrep, runF, exs, ex, evT, ev, evs, evB, evP, evC, evI, blOf, sc, Option.bind_some, Option.bind_none, Option.map_some, Option.map_none, bindT, Fl.al, Fl.el, Fl.ow, Fl.rt, Fl.at, tpAt, movOw, als, retF, D.cl, D.cl1, D.hasL, D.hasLs, retO, retOs, cnt, Env.drp, Env.lock, Env.unlock, Out.unlock, setAll, List.getElem?_cons_zero, List.getElem?_cons_succ, List.set_cons_zero, List.set_cons_succ, List.length_cons, List.length_nil, List.map_cons, List.map_nil, List.cons_append, List.nil_append, List.append_nil, List.flatten_cons, List.flatten_nil, List.replicate_succ, List.replicate_zero, List.getElem?_nil, List.set_nil, List.all_cons, List.all_nil, List.filter_cons, List.filter_nil, List.length_set, List.isEmpty_nil, List.isEmpty_cons, List.foldl_cons, List.foldl_nil, List.append_assoc, List.contains_cons, List.zip_cons_cons, List.zip_nil_left, List.zip_nil_right, if_true, if_false, if_pos rfl, ite_true, ite_false, Bool.true_or, Bool.or_true, Bool.false_or, Bool.or_false, Bool.and_true, Bool.true_and, Bool.false_and, Bool.and_false, Bool.not_true, Bool.not_false, decide_true, decide_false, Bool.true_eq_false, Bool.false_eq_true, reduceIte, reduceCtorEq, Nat.reduceAdd, Nat.reduceSub, Nat.reduceLT, Nat.reduceLeDiff, Nat.reduceEqDiff, Nat.zero_lt_succ, Nat.reduceBEq, BEq.rfl, beq_self_eq_true, Nat.lt_add_one, and_self, and_true, true_and, Nat.zero_add, Nat.add_zero, Nat.add_one_sub_one, Nat.sub_self, Nat.sub_zero, decide_eq_true_eq, Nat.zero_le, Nat.add_zero, Nat.le_refl, b_add, b_sub, c_lt, c_le, c_gt, c_ge, c_eqI, c_neI, c_isNN, c_isIN, c_noNN, c_noIN, o_lenL, o_lenS, o_lenT, o_abs, o_listL, o_listT, o_intI, o_intB, o_max2, o_min2, neg_I] <;> rfl)).trans ?_
    refine (exs_nx (by simp only [hput, hset, runF, exs, ex, evT, ev, evs, evB, evP, evC, evI, blOf, sc, Option.bind_some, Option.bind_none, Option.map_some, Option.map_none, bindT, Fl.al, Fl.el, Fl.ow, Fl.rt, Fl.at, tpAt, movOw, als, retF, D.cl, D.cl1, D.hasL, D.hasLs, retO, retOs, cnt, Env.drp, Env.lock, Env.unlock, Out.unlock, setAll, List.getElem?_cons_zero, List.getElem?_cons_succ, List.set_cons_zero, List.set_cons_succ, List.length_cons, List.length_nil, List.map_cons, List.map_nil, List.cons_append, List.nil_append, List.append_nil, List.flatten_cons, List.flatten_nil, List.replicate_succ, List.replicate_zero, List.getElem?_nil, List.set_nil, List.all_cons, List.all_nil, List.filter_cons, List.filter_nil, List.length_set, List.isEmpty_nil, List.isEmpty_cons, List.foldl_cons, List.foldl_nil, List.append_assoc, List.contains_cons, List.zip_cons_cons, List.zip_nil_left, List.zip_nil_right, if_true, if_false, if_pos rfl, ite_true, ite_false, Bool.true_or, Bool.or_true, Bool.false_or, Bool.or_false, Bool.and_true, Bool.true_and, Bool.false_and, Bool.and_false, Bool.not_true, Bool.not_false, decide_true, decide_false, Bool.true_eq_false, Bool.false_eq_true, reduceIte, reduceCtorEq, Nat.reduceAdd, Nat.reduceSub, Nat.reduceLT, Nat.reduceLeDiff, Nat.reduceEqDiff, Nat.zero_lt_succ, Nat.reduceBEq, BEq.rfl, beq_self_eq_true, Nat.lt_add_one, and_self, and_true, true_and, Nat.zero_add, Nat.add_zero, Nat.add_one_sub_one, Nat.sub_self, Nat.sub_zero, decide_eq_true_eq, Nat.zero_le, Nat.add_zero, Nat.le_refl, b_add, b_sub, c_lt, c_le, c_gt, c_ge, c_eqI, c_neI, c_isNN, c_isIN, c_noNN, c_noIN, o_lenL, o_lenS, o_lenT, o_abs, o_listL, o_listT, o_intI, o_intB, o_max2, o_min2, neg_I] <;> rfl)).trans ?_
    refine (exs_nx (by simp only [runF, exs, ex, evT, ev, evs, evB, evP, evC, evI, blOf, sc, Option.bind_some, Option.bind_none, Option.map_some, Option.map_none, bindT, Fl.al, Fl.el, Fl.ow, Fl.rt, Fl.at, tpAt, movOw, als, retF, D.cl, D.cl1, D.hasL, D.hasLs, retO, retOs, cnt, Env.drp, Env.lock, Env.unlock, Out.unlock, setAll, List.getElem?_cons_zero, List.getElem?_cons_succ, List.set_cons_zero, List.set_cons_succ, List.length_cons, List.length_nil, List.map_cons, List.map_nil, List.cons_append, List.nil_append, List.append_nil, List.flatten_cons, List.flatten_nil, List.replicate_succ, List.replicate_zero, List.getElem?_nil, List.set_nil, List.all_cons, List.all_nil, List.filter_cons, List.filter_nil, List.length_set, List.isEmpty_nil, List.isEmpty_cons, List.foldl_cons, List.foldl_nil, List.append_assoc, List.contains_cons, List.zip_cons_cons, List.zip_nil_left, List.zip_nil_right, if_true, if_false, if_pos rfl, ite_true, ite_false, Bool.true_or, Bool.or_true, Bool.false_or, Bool.or_false, Bool.and_true, Bool.true_and, Bool.false_and, Bool.and_false, Bool.not_true, Bool.not_false, decide_true, decide_false, Bool.true_eq_false, Bool.false_eq_true, reduceIte, reduceCtorEq, Nat.reduceAdd, Nat.reduceSub, Nat.reduceLT, Nat.reduceLeDiff, Nat.reduceEqDiff, Nat.zero_lt_succ, Nat.reduceBEq, BEq.rfl, beq_self_eq_true, Nat.lt_add_one, and_self, and_true, true_and, Nat.zero_add, Nat.add_zero, Nat.add_one_sub_one, Nat.sub_self, Nat.sub_zero, decide_eq_true_eq, Nat.zero_le, Nat.add_zero, Nat.le_refl, b_add, b_sub, c_lt, c_le, c_gt, c_ge, c_eqI, c_neI, c_isNN, c_isIN, c_noNN, c_noIN, o_lenL, o_lenS, o_lenT, o_abs, o_listL, o_listT, o_intI, o_intB, o_max2, o_min2, neg_I] <;> rfl)).trans ?_
    refine (exs_nx (by simp only [runF, exs, ex, evT, ev, evs, evB, evP, evC, evI, blOf, sc, Option.bind_some, Option.bind_none, Option.map_some, Option.map_none, bindT, Fl.al, Fl.el, Fl.ow, Fl.rt, Fl.at, tpAt, movOw, als, retF, D.cl, D.cl1, D.hasL, D.hasLs, retO, retOs, cnt, Env.drp, Env.lock, Env.unlock, Out.unlock, setAll, List.getElem?_cons_zero, List.getElem?_cons_succ, List.set_cons_zero, List.set_cons_succ, List.length_cons, List.length_nil, List.map_cons, List.map_nil, List.cons_append, List.nil_append, List.append_nil, List.flatten_cons, List.flatten_nil, List.replicate_succ, List.replicate_zero, List.getElem?_nil, List.set_nil, List.all_cons, List.all_nil, List.filter_cons, List.filter_nil, List.length_set, List.isEmpty_nil, List.isEmpty_cons, List.foldl_cons, List.foldl_nil, List.append_assoc, List.contains_cons, List.zip_cons_cons, List.zip_nil_left, List.zip_nil_right, if_true, if_false, if_pos rfl, ite_true, ite_false, Bool.true_or, Bool.or_true, Bool.false_or, Bool.or_false, Bool.and_true, Bool.true_and, Bool.false_and, Bool.and_false, Bool.not_true, Bool.not_false, decide_true, decide_false, Bool.true_eq_false, Bool.false_eq_true, reduceIte, reduceCtorEq, Nat.reduceAdd, Nat.reduceSub, Nat.reduceLT, Nat.reduceLeDiff, Nat.reduceEqDiff, Nat.zero_lt_succ, Nat.reduceBEq, BEq.rfl, beq_self_eq_true, Nat.lt_add_one, and_self, and_true, true_and, Nat.zero_add, Nat.add_zero, Nat.add_one_sub_one, Nat.sub_self, Nat.sub_zero, decide_eq_true_eq, Nat.zero_le, Nat.add_zero, Nat.le_refl, b_add, b_sub, c_lt, c_le, c_gt, c_ge, c_eqI, c_neI, c_isNN, c_isIN, c_noNN, c_noIN, o_lenL, o_lenS, o_lenT, o_abs, o_listL, o_listT, o_intI, o_intB, o_max2, o_min2, neg_I] <;> rfl)).trans ?_
    refine (exs_whl hw).trans ?_
    refine exs_rt (by simp only [runF, exs, ex, evT, ev, evs, evB, evP, evC, evI, blOf, sc, Option.bind_some, Option.bind_none, Option.map_some, Option.map_none, bindT, Fl.al, Fl.el, Fl.ow, Fl.rt, Fl.at, tpAt, movOw, als, retF, D.cl, D.cl1, D.hasL, D.hasLs, retO, retOs, cnt, Env.drp, Env.lock, Env.unlock, Out.unlock, setAll, List.getElem?_cons_zero, List.getElem?_cons_succ, List.set_cons_zero, List.set_cons_succ, List.length_cons, List.length_nil, List.map_cons, List.map_nil, List.cons_append, List.nil_append, List.append_nil, List.flatten_cons, List.flatten_nil, List.replicate_succ, List.replicate_zero, List.getElem?_nil, List.set_nil, List.all_cons, List.all_nil, List.filter_cons, List.filter_nil, List.length_set, List.isEmpty_nil, List.isEmpty_cons, List.foldl_cons, List.foldl_nil, List.append_assoc, List.contains_cons, List.zip_cons_cons, List.zip_nil_left, List.zip_nil_right, if_true, if_false, if_pos rfl, ite_true, ite_false, Bool.true_or, Bool.or_true, Bool.false_or, Bool.or_false, Bool.and_true, Bool.true_and, Bool.false_and, Bool.and_false, Bool.not_true, Bool.not_false, decide_true, decide_false, Bool.true_eq_false, Bool.false_eq_true, reduceIte, reduceCtorEq, Nat.reduceAdd, Nat.reduceSub, Nat.reduceLT, Nat.reduceLeDiff, Nat.reduceEqDiff, Nat.zero_lt_succ, Nat.reduceBEq, BEq.rfl, beq_self_eq_true, Nat.lt_add_one, and_self, and_true, true_and, Nat.zero_add, Nat.add_zero, Nat.add_one_sub_one, Nat.sub_self, Nat.sub_zero, decide_eq_true_eq, Nat.zero_le, Nat.add_zero, Nat.le_refl, b_add, b_sub, c_lt, c_le, c_gt, c_ge, c_eqI, c_neI, c_isNN, c_isIN, c_noNN, c_noIN, o_lenL, o_lenS, o_lenT, o_abs, o_listL, o_listT, o_intI, o_intB, o_max2, o_min2, neg_I] <;> rfl)
  · exact hf.elim
end Ix
set_option Elab.async false
set_option linter.all false
set_option maxRecDepth 100000
set_option maxHeartbeats 4000000
namespace Ix
open PySem PySem.Spec PyProof.Rows L2

/-! ### sure times -/
/-- a way of paths with mosts, and its sum -/
inductive Wk (ps : List Path) (h : Nat) : Nat → Nat → Prop
  | nil : Wk ps h h 0
  | step {u v w m : Nat} : Wk ps h u w → (u, v, some (m : Int)) ∈ ps → Wk ps h v (w + m)
def Dist (ps : List Path) (h v d : Nat) : Prop := Wk ps h v d ∧ ∀ e, Wk ps h v e → d ≤ e
theorem least_of {P : Nat → Prop} : ∀ {n : Nat}, P n → ∃ d, P d ∧ ∀ e, P e → d ≤ e := by
  intro n
  induction n using Nat.strongRecOn with
  | ind n ih =>
    intro hn
    by_cases h : ∃ m, m < n ∧ P m
    · obtain ⟨m, h1, h2⟩ := h
      exact ih m h1 h2
    · exact ⟨n, hn, fun e he => Nat.le_of_not_lt fun z => h ⟨e, z, he⟩⟩
theorem Wk.dist {ps : List Path} {h v w : Nat} (W : Wk ps h v w) : ∃ d, Dist ps h v d := least_of W
theorem Dist.inj {ps : List Path} {h v d e : Nat} (a : Dist ps h v d) (b : Dist ps h v e) : d = e := Nat.le_antisymm (a.2 _ b.1) (b.2 _ a.1)
theorem Dist.self {ps : List Path} {h : Nat} : Dist ps h h 0 := ⟨.nil, fun _ _ => Nat.zero_le _⟩
/-- the last path of a shortest way -/
theorem Dist.pred {ps : List Path} {h v d : Nat} (D : Dist ps h v d) : (v = h ∧ d = 0) ∨ ∃ u e m : Nat, Dist ps h u e ∧ (u, v, some (m : Int)) ∈ ps ∧ d = e + m := by
  obtain ⟨W, hl⟩ := D
  cases W with
  | nil => exact .inl ⟨rfl, rfl⟩
  | @step u _ w m W hp =>
    refine .inr ⟨u, w, m, ⟨W, fun e he => ?_⟩, hp, rfl⟩
    have := hl _ (.step he hp)
    omega
theorem Dist.edge {ps : List Path} {h u v e m : Nat} (D : Dist ps h u e) (hp : (u, v, some (m : Int)) ∈ ps) : ∃ d, Dist ps h v d ∧ d ≤ e + m := by
  obtain ⟨d, hd⟩ := (Wk.step D.1 hp).dist
  exact ⟨d, hd, hd.2 _ (.step D.1 hp)⟩
theorem filter_lt {l : List Nat} {p q : Nat → Bool} (h : ∀ x ∈ l, p x = true → q x = true) {y : Nat} (hy : y ∈ l) (hq : q y = true) (hp : p y = false) : (l.filter p).length < (l.filter q).length := by
  have le : ∀ l : List Nat, (∀ x ∈ l, p x = true → q x = true) → (l.filter p).length ≤ (l.filter q).length := by
    intro l
    induction l with
    | nil => intro _; simp
    | cons x l ih =>
      intro h
      have := ih fun z hz => h z (List.mem_cons_of_mem _ hz)
      rw [List.filter_cons, List.filter_cons]
      cases hpx : p x with
      | true => rw [h x (by simp) hpx]; simp; omega
      | false => cases q x <;> simp <;> omega
  induction l with
  | nil => simp at hy
  | cons x l ih =>
    rw [List.filter_cons, List.filter_cons]
    rcases List.mem_cons.mp hy with rfl | hy
    · rw [hp, hq]
      have := le l fun z hz => h z (List.mem_cons_of_mem _ hz)
      simp; omega
    · have := ih (fun z hz => h z (List.mem_cons_of_mem _ hz)) hy
      cases hpx : p x with
      | true => rw [h x (by simp) hpx]; simp; omega
      | false => cases q x <;> simp <;> omega
open Classical in
/-- how many houses are nearer -/
noncomputable def rank (n : Nat) (ps : List Path) (h d : Nat) : Nat := ((List.range n).filter fun u => decide (∃ e, e < d ∧ Dist ps h u e)).length
theorem rank_lt {n : Nat} {ps : List Path} {h u e d : Nat} (hu : u < n) (D : Dist ps h u e) (hd : e < d) : rank n ps h e < rank n ps h d := by
  classical
  unfold rank
  refine filter_lt (y := u) (fun x _ hx => ?_) (List.mem_range.mpr hu) ?_ ?_
  · rw [decide_eq_true_eq] at hx ⊢
    obtain ⟨a, h1, h2⟩ := hx
    exact ⟨a, by omega, h2⟩
  · rw [decide_eq_true_eq]; exact ⟨e, hd, D⟩
  · rw [decide_eq_false_iff_not]
    rintro ⟨a, h1, h2⟩
    have := h2.inj D
    omega
theorem rank_le {n : Nat} {ps : List Path} {h d : Nat} : rank n ps h d ≤ n := by
  classical
  unfold rank
  have := List.length_filter_le (fun u => decide (∃ e, e < d ∧ Dist ps h u e)) (List.range n)
  simpa using this
structure Sure (n h : Nat) (ps : List Path) (ts : List (Option Nat)) : Prop where
  len : ts.length = n
  at_ : ∀ v d, At ts v d ↔ (v < n ∧ Dist ps h v d)
/-- behind r rounds -/
structure Rnd (n h : Nat) (ps : List Path) (ts : List (Option Nat)) (r : Nat) : Prop where
  len : ts.length = n
  real : ∀ v d, At ts v d → Wk ps h v d
  near : ∀ v d, v < n → Dist ps h v d → rank n ps h d ≤ r → At ts v d
def Pos (n : Nat) (ps : List Path) : Prop := ∀ (u v m : Nat), (u, v, some (m : Int)) ∈ ps → 1 ≤ m ∧ u < n ∧ v < n ∧ u ≠ v
theorem NetOk.pos {n : Nat} {ps : List Path} (N : NetOk n ps) : Pos n ps := fun u v m h => by
  obtain ⟨h1, h2, h3, h4⟩ := N.at_ _ h
  have := h4 m rfl
  exact ⟨by omega, h1, h2, h3⟩
theorem rank_zero {n : Nat} {ps : List Path} {h : Nat} : rank n ps h 0 = 0 := by
  classical
  unfold rank
  rw [List.length_eq_zero_iff, List.filter_eq_nil_iff]
  intro x _
  rw [decide_eq_true_eq]
  rintro ⟨e, h1, _⟩
  omega
theorem Rnd.start {n h : Nat} {ps : List Path} (hp : Pos n ps) (hh : h < n) : Rnd n h ps ((List.replicate n none).set h (some 0)) 0 := by
  have hl : h < (List.replicate n (none : Option Nat)).length := by simpa using hh
  have key : ∀ v c, At ((List.replicate n none).set h (some 0)) v c ↔ v = h ∧ c = 0 := fun v c => by
    rw [at_set hl]
    constructor
    · rintro (z | ⟨_, z⟩)
      · exact z
      · unfold At at z
        rw [List.getElem?_replicate] at z
        split at z <;> simp at z
    · exact fun z => .inl z
  refine ⟨by simp, fun v d hd => ?_, fun v d hv D hr => ?_⟩
  · obtain ⟨rfl, rfl⟩ := (key v d).mp hd
    exact .nil
  · rw [key]
    by_cases h0 : 0 < d
    · have := rank_lt (n := n) hh (Dist.self (ps := ps) (h := h)) h0
      omega
    · have h0 : d = 0 := by omega
      subst h0
      rcases D.pred with ⟨h1, _⟩ | ⟨u, e, m, h1, h2, h3⟩
      · exact ⟨h1, rfl⟩
      · have := (hp u v m h2).1
        omega
structure Mid (n h : Nat) (ps : List Path) (ts : List (Option Nat)) (r j : Nat) : Prop where
  base : Rnd n h ps ts r
  done : ∀ i, i < j → ∀ u v m : Nat, ps[i]? = some (u, v, some (m : Int)) → ∀ e, Dist ps h u e → rank n ps h e ≤ r → Dist ps h v (e + m) → At ts v (e + m)
theorem Mid.start {n h r : Nat} {ps : List Path} {ts : List (Option Nat)} (R : Rnd n h ps ts r) : Mid n h ps ts r 0 := ⟨R, fun i hi => by omega⟩
/-- a path by which nothing is to be had -/
theorem Mid.skip {n h r j : Nat} {ps : List Path} {ts : List (Option Nat)} (M : Mid n h ps ts r j) (hs : ∀ u v m : Nat, ps[j]? = some (u, v, some (m : Int)) → ∀ a, At ts u a → ∃ b, At ts v b ∧ b ≤ a + m) (hp : Pos n ps) : Mid n h ps ts r (j + 1) := by
  refine ⟨M.base, fun i hi u v m e a D hr D2 => ?_⟩
  by_cases hij : i = j
  · subst hij
    have hm := hp u v m (List.mem_of_getElem? e)
    obtain ⟨b, hb, hle⟩ := hs u v m e a (M.base.near u a hm.2.1 D hr)
    have := D2.2 _ (M.base.real v b hb)
    have : b = a + m := by omega
    subst this
    exact hb
  · exact M.done i (by omega) u v m e a D hr D2
theorem Mid.put {n h r j : Nat} {ps : List Path} {ts : List (Option Nat)} (M : Mid n h ps ts r j) {u v m a : Nat} (hp : Pos n ps) (he : ps[j]? = some (u, v, some (m : Int))) (ha : At ts u a) (hb : ∀ b, At ts v b → a + m < b) : Mid n h ps (ts.set v (some (a + m))) r (j + 1) := by
  have hm := hp u v m (List.mem_of_getElem? he)
  have hvl : v < ts.length := by rw [M.base.len]; exact hm.2.2.1
  have W : Wk ps h v (a + m) := .step (M.base.real u a ha) (List.mem_of_getElem? he)
  have key := fun x d => at_set (cs := ts) (g := v) (v := x) (c := a + m) (d := d) hvl
  have keep : ∀ x d, Dist ps h x d → At ts x d → At (ts.set v (some (a + m))) x d := fun x d D hx => by
    rw [key]
    by_cases hxv : x = v
    · subst hxv
      have h1 := hb d hx
      have h2 := D.2 _ W
      omega
    · exact .inr ⟨hxv, hx⟩
  refine ⟨⟨by rw [List.length_set]; exact M.base.len, fun x d hd => ?_, fun x d hx D hr => keep x d D (M.base.near x d hx D hr)⟩, fun i hi u' v' m' e b D hr D2 => ?_⟩
  · rcases (key x d).mp hd with ⟨rfl, rfl⟩ | ⟨_, hd⟩
    · exact W
    · exact M.base.real x d hd
  · by_cases hij : i = j
    · subst hij
      rw [he] at e
      simp only [Option.some.injEq, Prod.mk.injEq, Int.natCast_inj] at e
      obtain ⟨rfl, rfl, rfl⟩ := e
      have := at_inj ha (M.base.near u b hm.2.1 D hr)
      subst this
      exact (key _ _).mpr (.inl ⟨rfl, rfl⟩)
    · exact keep _ _ D2 (M.done i (by omega) u' v' m' e b D hr D2)
theorem Mid.next {n h r : Nat} {ps : List Path} {ts : List (Option Nat)} (M : Mid n h ps ts r ps.length) (hp : Pos n ps) : Rnd n h ps ts (r + 1) := by
  refine ⟨M.base.len, M.base.real, fun v d hv D hr => ?_⟩
  rcases D.pred with ⟨rfl, rfl⟩ | ⟨u, e, m, h1, h2, rfl⟩
  · exact M.base.near v 0 hv D (by rw [rank_zero]; omega)
  · have hm := hp u v m h2
    have h3 := rank_lt hm.2.1 h1 (show e < e + m by omega)
    obtain ⟨i, hi, e3⟩ := List.getElem_of_mem h2
    exact M.done i hi u v m (by rw [List.getElem?_eq_getElem hi, e3]) e h1 (by omega) D
theorem sure_of {n h : Nat} {ps : List Path} {ts : List (Option Nat)} (R : Rnd n h ps ts n) : Sure n h ps ts := by
  refine ⟨R.len, fun v d => ⟨fun hd => ?_, fun ⟨hv, D⟩ => R.near v d hv D rank_le⟩⟩
  have hv : v < n := by
    have := (List.getElem?_eq_some_iff.mp hd).1
    rw [R.len] at this
    exact this
  obtain ⟨e, he⟩ := (R.real v d hd).dist
  have := at_inj hd (R.near v e hv he rank_le)
  subst this
  exact ⟨hv, he⟩
theorem encO_nat (m : Nat) : encO (some (m : Int)) = .int m := rfl
theorem sure6 (G : Orc) (n : Nat) (ps : List Path) (h : Nat) (hlo : 1 ≤ n) (hhi : n ≤ 8) (hp : Pos n ps) (hat : ∀ p ∈ ps, p.1 < n ∧ p.2.1 < n ∧ ∀ m, p.2.2 = some m → 1 ≤ m) (hh : h < n) : ∃ ts, runF G F6 [encNet n ps, .int h] = some (.lst (ts.map encN), .top) ∧ Sure n h ps ts := by
  have hr := okR_of (i := n) (by omega) (by omega)
  obtain ⟨e', hfor, ts, x3, x4, x5, x6, he, R⟩ := forL_inv (f := fun _ e => exs G e (.cons (.for_ (.many [4, 5, 6]) (.ofE (.idx (.var 0) (.int 1))) (.cons (.ifs (.bop false (.cmp .Is (.var 6) .non) (.cons (.cmp .Is (.idx (.var 2) (.var 4)) .non) .nil)) (.cons .cont .nil) .nil) (.cons (.ifs (.bop false (.cmp .Is (.idx (.var 2) (.var 5)) .non) (.cons (.cmp .Lt (.bin .Add (.idx (.var 2) (.var 4)) (.var 6)) (.idx (.var 2) (.var 5))) .nil)) (.cons (.put 2 (.var 5) (.bin .Add (.idx (.var 2) (.var 4)) (.var 6))) .nil) .nil) .nil))) .nil)) (tg := .one 3)
    (fun i e => ∃ (ts : List (Option Nat)) (x3 x4 x5 x6 : Option (D × Ow)), e = [some (encNet n ps, .no), some (.int h, .no), some (.lst (ts.map encN), .top), x3, x4, x5, x6] ∧ Rnd n h ps ts i)
    (ds := (List.range ((n : Int)).toNat).map fun k : Nat => D.int k) (env := [some (encNet n ps, .no), some (.int h, .no), some (.lst (((List.replicate n none).set h (some 0)).map encN), .top), none, none, none, none]) 0 ⟨_, _, _, _, _, rfl, Rnd.start hp hh⟩ (by
      rintro r d e hd ⟨ts, x3, x4, x5, x6, rfl, R⟩
      rw [List.getElem?_map] at hd
      obtain ⟨k, hk, rfl⟩ := Option.map_eq_some_iff.mp hd
      simp only [Nat.zero_add] at R
      obtain ⟨e', hfor, ts', x4', x5', x6', he, M⟩ := forL_inv (f := fun _ e => exs G e (.cons (.ifs (.bop false (.cmp .Is (.var 6) .non) (.cons (.cmp .Is (.idx (.var 2) (.var 4)) .non) .nil)) (.cons .cont .nil) .nil) (.cons (.ifs (.bop false (.cmp .Is (.idx (.var 2) (.var 5)) .non) (.cons (.cmp .Lt (.bin .Add (.idx (.var 2) (.var 4)) (.var 6)) (.idx (.var 2) (.var 5))) .nil)) (.cons (.put 2 (.var 5) (.bin .Add (.idx (.var 2) (.var 4)) (.var 6))) .nil) .nil) .nil))) (tg := .many [4, 5, 6])
        (fun j e => ∃ (ts : List (Option Nat)) (x4 x5 x6 : Option (D × Ow)), e = [some (encNet n ps, .no), some (.int h, .no), some (.lst (ts.map encN), .top), some (.int k, .no), x4, x5, x6] ∧ Mid n h ps ts r j)
        (ds := ps.map encP) (env := [some (encNet n ps, .no), some (.int h, .no), some (.lst (ts.map encN), .top), some (.int k, .no), x4, x5, x6]) 0 ⟨ts, x4, x5, x6, rfl, Mid.start R⟩ (by
          rintro j d e hd ⟨ts, x4, x5, x6, rfl, M⟩
          rw [List.getElem?_map] at hd
          obtain ⟨⟨s, g, mo⟩, hj, rfl⟩ := Option.map_eq_some_iff.mp hd
          have hpm := List.mem_of_getElem? hj
          obtain ⟨q1, q2, q4⟩ := hat _ hpm
          simp only at q1 q2 q4
          simp only [Nat.zero_add] at M ⊢
          have hsl : s < ts.length := by rw [M.base.len]; exact q1
          have hgl : g < ts.length := by rw [M.base.len]; exact q2
          have is := fun f => i_lst (f := f) (ds := ts.map encN) (k := s) (d := encN ts[s]) (by rw [List.getElem?_map, List.getElem?_eq_getElem hsl]; rfl)
          have ig := fun f => i_lst (f := f) (ds := ts.map encN) (k := g) (d := encN ts[g]) (by rw [List.getElem?_map, List.getElem?_eq_getElem hgl]; rfl)
          cases mo with
          | none =>
            refine ⟨_, _, by simp only [encP, runF, exs, ex, evT, ev, evs, evB, evP, evC, evI, blOf, sc, Option.bind_some, Option.bind_none, Option.map_some, Option.map_none, bindT, Fl.al, Fl.el, Fl.ow, Fl.rt, Fl.at, tpAt, movOw, als, retF, D.cl, D.cl1, D.hasL, D.hasLs, retO, retOs, cnt, Env.drp, Env.lock, Env.unlock, Out.unlock, setAll, List.getElem?_cons_zero, List.getElem?_cons_succ, List.set_cons_zero, List.set_cons_succ, List.length_cons, List.length_nil, List.map_cons, List.map_nil, List.cons_append, List.nil_append, List.append_nil, List.flatten_cons, List.flatten_nil, List.replicate_succ, List.replicate_zero, List.getElem?_nil, List.set_nil, List.all_cons, List.all_nil, List.filter_cons, List.filter_nil, List.length_set, List.isEmpty_nil, List.isEmpty_cons, List.foldl_cons, List.foldl_nil, List.append_assoc, List.contains_cons, List.zip_cons_cons, List.zip_nil_left, List.zip_nil_right, if_true, if_false, if_pos rfl, ite_true, ite_false, Bool.true_or, Bool.or_true, Bool.false_or, Bool.or_false, Bool.and_true, Bool.true_and, Bool.false_and, Bool.and_false, Bool.not_true, Bool.not_false, decide_true, decide_false, Bool.true_eq_false, Bool.false_eq_true, reduceIte, reduceCtorEq, Nat.reduceAdd, Nat.reduceSub, Nat.reduceLT, Nat.reduceLeDiff, Nat.reduceEqDiff, Nat.zero_lt_succ, Nat.reduceBEq, BEq.rfl, beq_self_eq_true, Nat.lt_add_one, and_self, and_true, true_and, Nat.zero_add, Nat.add_zero, Nat.add_one_sub_one, Nat.sub_self, Nat.sub_zero, decide_eq_true_eq, Nat.zero_le, Nat.add_zero, Nat.le_refl, b_add, b_sub, c_lt, c_le, c_gt, c_ge, c_eqI, c_neI, c_isNN, c_isIN, c_noNN, c_noIN, o_lenL, o_lenS, o_lenT, o_abs, o_listL, o_listT, o_intI, o_intB, o_max2, o_min2, neg_I] <;> rfl, .inr (exs_tc (by simp only [encO, runF, exs, ex, evT, ev, evs, evB, evP, evC, evI, blOf, sc, Option.bind_some, Option.bind_none, Option.map_some, Option.map_none, bindT, Fl.al, Fl.el, Fl.ow, Fl.rt, Fl.at, tpAt, movOw, als, retF, D.cl, D.cl1, D.hasL, D.hasLs, retO, retOs, cnt, Env.drp, Env.lock, Env.unlock, Out.unlock, setAll, List.getElem?_cons_zero, List.getElem?_cons_succ, List.set_cons_zero, List.set_cons_succ, List.length_cons, List.length_nil, List.map_cons, List.map_nil, List.cons_append, List.nil_append, List.append_nil, List.flatten_cons, List.flatten_nil, List.replicate_succ, List.replicate_zero, List.getElem?_nil, List.set_nil, List.all_cons, List.all_nil, List.filter_cons, List.filter_nil, List.length_set, List.isEmpty_nil, List.isEmpty_cons, List.foldl_cons, List.foldl_nil, List.append_assoc, List.contains_cons, List.zip_cons_cons, List.zip_nil_left, List.zip_nil_right, if_true, if_false, if_pos rfl, ite_true, ite_false, Bool.true_or, Bool.or_true, Bool.false_or, Bool.or_false, Bool.and_true, Bool.true_and, Bool.false_and, Bool.and_false, Bool.not_true, Bool.not_false, decide_true, decide_false, Bool.true_eq_false, Bool.false_eq_true, reduceIte, reduceCtorEq, Nat.reduceAdd, Nat.reduceSub, Nat.reduceLT, Nat.reduceLeDiff, Nat.reduceEqDiff, Nat.zero_lt_succ, Nat.reduceBEq, BEq.rfl, beq_self_eq_true, Nat.lt_add_one, and_self, and_true, true_and, Nat.zero_add, Nat.add_zero, Nat.add_one_sub_one, Nat.sub_self, Nat.sub_zero, decide_eq_true_eq, Nat.zero_le, Nat.add_zero, Nat.le_refl, b_add, b_sub, c_lt, c_le, c_gt, c_ge, c_eqI, c_neI, c_isNN, c_isIN, c_noNN, c_noIN, o_lenL, o_lenS, o_lenT, o_abs, o_listL, o_listT, o_intI, o_intB, o_max2, o_min2, neg_I] <;> rfl) (by simp only [runF, exs, ex, evT, ev, evs, evB, evP, evC, evI, blOf, sc, Option.bind_some, Option.bind_none, Option.map_some, Option.map_none, bindT, Fl.al, Fl.el, Fl.ow, Fl.rt, Fl.at, tpAt, movOw, als, retF, D.cl, D.cl1, D.hasL, D.hasLs, retO, retOs, cnt, Env.drp, Env.lock, Env.unlock, Out.unlock, setAll, List.getElem?_cons_zero, List.getElem?_cons_succ, List.set_cons_zero, List.set_cons_succ, List.length_cons, List.length_nil, List.map_cons, List.map_nil, List.cons_append, List.nil_append, List.append_nil, List.flatten_cons, List.flatten_nil, List.replicate_succ, List.replicate_zero, List.getElem?_nil, List.set_nil, List.all_cons, List.all_nil, List.filter_cons, List.filter_nil, List.length_set, List.isEmpty_nil, List.isEmpty_cons, List.foldl_cons, List.foldl_nil, List.append_assoc, List.contains_cons, List.zip_cons_cons, List.zip_nil_left, List.zip_nil_right, if_true, if_false, if_pos rfl, ite_true, ite_false, Bool.true_or, Bool.or_true, Bool.false_or, Bool.or_false, Bool.and_true, Bool.true_and, Bool.false_and, Bool.and_false, Bool.not_true, Bool.not_false, decide_true, decide_false, Bool.true_eq_false, Bool.false_eq_true, reduceIte, reduceCtorEq, Nat.reduceAdd, Nat.reduceSub, Nat.reduceLT, Nat.reduceLeDiff, Nat.reduceEqDiff, Nat.zero_lt_succ, Nat.reduceBEq, BEq.rfl, beq_self_eq_true, Nat.lt_add_one, and_self, and_true, true_and, Nat.zero_add, Nat.add_zero, Nat.add_one_sub_one, Nat.sub_self, Nat.sub_zero, decide_eq_true_eq, Nat.zero_le, Nat.add_zero, Nat.le_refl, b_add, b_sub, c_lt, c_le, c_gt, c_ge, c_eqI, c_neI, c_isNN, c_isIN, c_noNN, c_noIN, o_lenL, o_lenS, o_lenT, o_abs, o_listL, o_listT, o_intI, o_intB, o_max2, o_min2, neg_I] <;> rfl)), ts, some (.int s, .no), some (.int g, .no), some (encO none, .no), rfl, M.skip (fun u v m e => ?_) hp⟩
            rw [hj] at e
            simp at e
          | some mi =>
            obtain ⟨m, rfl⟩ : ∃ m : Nat, mi = m := ⟨mi.toNat, by have := q4 mi rfl; omega⟩
            cases hts : ts[s] with
            | none =>
              rw [hts] at is
              refine ⟨_, _, by simp only [encP, runF, exs, ex, evT, ev, evs, evB, evP, evC, evI, blOf, sc, Option.bind_some, Option.bind_none, Option.map_some, Option.map_none, bindT, Fl.al, Fl.el, Fl.ow, Fl.rt, Fl.at, tpAt, movOw, als, retF, D.cl, D.cl1, D.hasL, D.hasLs, retO, retOs, cnt, Env.drp, Env.lock, Env.unlock, Out.unlock, setAll, List.getElem?_cons_zero, List.getElem?_cons_succ, List.set_cons_zero, List.set_cons_succ, List.length_cons, List.length_nil, List.map_cons, List.map_nil, List.cons_append, List.nil_append, List.append_nil, List.flatten_cons, List.flatten_nil, List.replicate_succ, List.replicate_zero, List.getElem?_nil, List.set_nil, List.all_cons, List.all_nil, List.filter_cons, List.filter_nil, List.length_set, List.isEmpty_nil, List.isEmpty_cons, List.foldl_cons, List.foldl_nil, List.append_assoc, List.contains_cons, List.zip_cons_cons, List.zip_nil_left, List.zip_nil_right, if_true, if_false, if_pos rfl, ite_true, ite_false, Bool.true_or, Bool.or_true, Bool.false_or, Bool.or_false, Bool.and_true, Bool.true_and, Bool.false_and, Bool.and_false, Bool.not_true, Bool.not_false, decide_true, decide_false, Bool.true_eq_false, Bool.false_eq_true, reduceIte, reduceCtorEq, Nat.reduceAdd, Nat.reduceSub, Nat.reduceLT, Nat.reduceLeDiff, Nat.reduceEqDiff, Nat.zero_lt_succ, Nat.reduceBEq, BEq.rfl, beq_self_eq_true, Nat.lt_add_one, and_self, and_true, true_and, Nat.zero_add, Nat.add_zero, Nat.add_one_sub_one, Nat.sub_self, Nat.sub_zero, decide_eq_true_eq, Nat.zero_le, Nat.add_zero, Nat.le_refl, b_add, b_sub, c_lt, c_le, c_gt, c_ge, c_eqI, c_neI, c_isNN, c_isIN, c_noNN, c_noIN, o_lenL, o_lenS, o_lenT, o_abs, o_listL, o_listT, o_intI, o_intB, o_max2, o_min2, neg_I] <;> rfl, .inr (exs_tc (by simp only [encO, is, c_isN, Option.isNone_none, runF, exs, ex, evT, ev, evs, evB, evP, evC, evI, blOf, sc, Option.bind_some, Option.bind_none, Option.map_some, Option.map_none, bindT, Fl.al, Fl.el, Fl.ow, Fl.rt, Fl.at, tpAt, movOw, als, retF, D.cl, D.cl1, D.hasL, D.hasLs, retO, retOs, cnt, Env.drp, Env.lock, Env.unlock, Out.unlock, setAll, List.getElem?_cons_zero, List.getElem?_cons_succ, List.set_cons_zero, List.set_cons_succ, List.length_cons, List.length_nil, List.map_cons, List.map_nil, List.cons_append, List.nil_append, List.append_nil, List.flatten_cons, List.flatten_nil, List.replicate_succ, List.replicate_zero, List.getElem?_nil, List.set_nil, List.all_cons, List.all_nil, List.filter_cons, List.filter_nil, List.length_set, List.isEmpty_nil, List.isEmpty_cons, List.foldl_cons, List.foldl_nil, List.append_assoc, List.contains_cons, List.zip_cons_cons, List.zip_nil_left, List.zip_nil_right, if_true, if_false, if_pos rfl, ite_true, ite_false, Bool.true_or, Bool.or_true, Bool.false_or, Bool.or_false, Bool.and_true, Bool.true_and, Bool.false_and, Bool.and_false, Bool.not_true, Bool.not_false, decide_true, decide_false, Bool.true_eq_false, Bool.false_eq_true, reduceIte, reduceCtorEq, Nat.reduceAdd, Nat.reduceSub, Nat.reduceLT, Nat.reduceLeDiff, Nat.reduceEqDiff, Nat.zero_lt_succ, Nat.reduceBEq, BEq.rfl, beq_self_eq_true, Nat.lt_add_one, and_self, and_true, true_and, Nat.zero_add, Nat.add_zero, Nat.add_one_sub_one, Nat.sub_self, Nat.sub_zero, decide_eq_true_eq, Nat.zero_le, Nat.add_zero, Nat.le_refl, b_add, b_sub, c_lt, c_le, c_gt, c_ge, c_eqI, c_neI, c_isNN, c_isIN, c_noNN, c_noIN, o_lenL, o_lenS, o_lenT, o_abs, o_listL, o_listT, o_intI, o_intB, o_max2, o_min2, neg_I] <;> rfl) (by simp only [runF, exs, ex, evT, ev, evs, evB, evP, evC, evI, blOf, sc, Option.bind_some, Option.bind_none, Option.map_some, Option.map_none, bindT, Fl.al, Fl.el, Fl.ow, Fl.rt, Fl.at, tpAt, movOw, als, retF, D.cl, D.cl1, D.hasL, D.hasLs, retO, retOs, cnt, Env.drp, Env.lock, Env.unlock, Out.unlock, setAll, List.getElem?_cons_zero, List.getElem?_cons_succ, List.set_cons_zero, List.set_cons_succ, List.length_cons, List.length_nil, List.map_cons, List.map_nil, List.cons_append, List.nil_append, List.append_nil, List.flatten_cons, List.flatten_nil, List.replicate_succ, List.replicate_zero, List.getElem?_nil, List.set_nil, List.all_cons, List.all_nil, List.filter_cons, List.filter_nil, List.length_set, List.isEmpty_nil, List.isEmpty_cons, List.foldl_cons, List.foldl_nil, List.append_assoc, List.contains_cons, List.zip_cons_cons, List.zip_nil_left, List.zip_nil_right, if_true, if_false, if_pos rfl, ite_true, ite_false, Bool.true_or, Bool.or_true, Bool.false_or, Bool.or_false, Bool.and_true, Bool.true_and, Bool.false_and, Bool.and_false, Bool.not_true, Bool.not_false, decide_true, decide_false, Bool.true_eq_false, Bool.false_eq_true, reduceIte, reduceCtorEq, Nat.reduceAdd, Nat.reduceSub, Nat.reduceLT, Nat.reduceLeDiff, Nat.reduceEqDiff, Nat.zero_lt_succ, Nat.reduceBEq, BEq.rfl, beq_self_eq_true, Nat.lt_add_one, and_self, and_true, true_and, Nat.zero_add, Nat.add_zero, Nat.add_one_sub_one, Nat.sub_self, Nat.sub_zero, decide_eq_true_eq, Nat.zero_le, Nat.add_zero, Nat.le_refl, b_add, b_sub, c_lt, c_le, c_gt, c_ge, c_eqI, c_neI, c_isNN, c_isIN, c_noNN, c_noIN, o_lenL, o_lenS, o_lenT, o_abs, o_listL, o_listT, o_intI, o_intB, o_max2, o_min2, neg_I] <;> rfl)), ts, some (.int s, .no), some (.int g, .no), some (encO (some (m : Int)), .no), rfl, M.skip (fun u v m' e a ha => ?_) hp⟩
              rw [hj] at e
              simp only [Option.some.injEq, Prod.mk.injEq] at e
              obtain ⟨rfl, _, _⟩ := e
              unfold At at ha
              rw [List.getElem?_eq_getElem hsl, hts] at ha
              cases ha
            | some a =>
              rw [hts] at is
              have ha : At ts s a := by unfold At; rw [List.getElem?_eq_getElem hsl, hts]
              have e1 : ((a : Int) + m) = ((a + m : Nat) : Int) := by omega
              have hput := put_lst (ds := ts.map encN) (k := g) (by simpa using hgl)
              have fin : ∀ t : List (Option Nat), exs G [some (encNet n ps, .no), some (.int h, .no), some (.lst (ts.map encN), .top), some (.int k, .no), some (.int s, .no), some (.int g, .no), some (.int m, .no)] (.cons (.ifs (.bop false (.cmp .Is (.idx (.var 2) (.var 5)) .non) (.cons (.cmp .Lt (.bin .Add (.idx (.var 2) (.var 4)) (.var 6)) (.idx (.var 2) (.var 5))) .nil)) (.cons (.put 2 (.var 5) (.bin .Add (.idx (.var 2) (.var 4)) (.var 6))) .nil) .nil) .nil) = some (.nx [some (encNet n ps, .no), some (.int h, .no), some (.lst (t.map encN), .top), some (.int k, .no), some (.int s, .no), some (.int g, .no), some (.int m, .no)]) →
                  exs G [some (encNet n ps, .no), some (.int h, .no), some (.lst (ts.map encN), .top), some (.int k, .no), some (.int s, .no), some (.int g, .no), some (.int m, .no)] (.cons (.ifs (.bop false (.cmp .Is (.var 6) .non) (.cons (.cmp .Is (.idx (.var 2) (.var 4)) .non) .nil)) (.cons .cont .nil) .nil) (.cons (.ifs (.bop false (.cmp .Is (.idx (.var 2) (.var 5)) .non) (.cons (.cmp .Lt (.bin .Add (.idx (.var 2) (.var 4)) (.var 6)) (.idx (.var 2) (.var 5))) .nil)) (.cons (.put 2 (.var 5) (.bin .Add (.idx (.var 2) (.var 4)) (.var 6))) .nil) .nil) .nil)) = some (.nx [some (encNet n ps, .no), some (.int h, .no), some (.lst (t.map encN), .top), some (.int k, .no), some (.int s, .no), some (.int g, .no), some (.int m, .no)]) := fun t ht =>
                (exs_f (by simp only [is, encN, runF, exs, ex, evT, ev, evs, evB, evP, evC, evI, blOf, sc, Option.bind_some, Option.bind_none, Option.map_some, Option.map_none, bindT, Fl.al, Fl.el, Fl.ow, Fl.rt, Fl.at, tpAt, movOw, als, retF, D.cl, D.cl1, D.hasL, D.hasLs, retO, retOs, cnt, Env.drp, Env.lock, Env.unlock, Out.unlock, setAll, List.getElem?_cons_zero, List.getElem?_cons_succ, List.set_cons_zero, List.set_cons_succ, List.length_cons, List.length_nil, List.map_cons, List.map_nil, List.cons_append, List.nil_append, List.append_nil, List.flatten_cons, List.flatten_nil, List.replicate_succ, List.replicate_zero, List.getElem?_nil, List.set_nil, List.all_cons, List.all_nil, List.filter_cons, List.filter_nil, List.length_set, List.isEmpty_nil, List.isEmpty_cons, List.foldl_cons, List.foldl_nil, List.append_assoc, List.contains_cons, List.zip_cons_cons, List.zip_nil_left, List.zip_nil_right, if_true, if_false, if_pos rfl, ite_true, ite_false, Bool.true_or, Bool.or_true, Bool.false_or, Bool.or_false, Bool.and_true, Bool.true_and, Bool.false_and, Bool.and_false, Bool.not_true, Bool.not_false, decide_true, decide_false, Bool.true_eq_false, Bool.false_eq_true, reduceIte, reduceCtorEq, Nat.reduceAdd, Nat.reduceSub, Nat.reduceLT, Nat.reduceLeDiff, Nat.reduceEqDiff, Nat.zero_lt_succ, Nat.reduceBEq, BEq.rfl, beq_self_eq_true, Nat.lt_add_one, and_self, and_true, true_and, Nat.zero_add, Nat.add_zero, Nat.add_one_sub_one, Nat.sub_self, Nat.sub_zero, decide_eq_true_eq, Nat.zero_le, Nat.add_zero, Nat.le_refl, b_add, b_sub, c_lt, c_le, c_gt, c_ge, c_eqI, c_neI, c_isNN, c_isIN, c_noNN, c_noIN, o_lenL, o_lenS, o_lenT, o_abs, o_listL, o_listT, o_intI, o_intB, o_max2, o_min2, neg_I] <;> rfl) rfl).trans ht
              have putt : exs G [some (encNet n ps, .no), some (.int h, .no), some (.lst (ts.map encN), .top), some (.int k, .no), some (.int s, .no), some (.int g, .no), some (.int m, .no)] (.cons (.put 2 (.var 5) (.bin .Add (.idx (.var 2) (.var 4)) (.var 6))) .nil) = some (.nx [some (encNet n ps, .no), some (.int h, .no), some (.lst ((ts.set g (some (a + m))).map encN), .top), some (.int k, .no), some (.int s, .no), some (.int g, .no), some (.int m, .no)]) := by
                refine (exs_nx (by simp only [is, encN, e1, hput, encN_set, runF, exs, ex, evT, ev, evs, evB, evP, evC, evI, blOf, sc, Option.bind_some, Option.bind_none, Option.map_some, Option.map_none, bindT, Fl.al, Fl.el, Fl.ow, Fl.rt, Fl.at, tpAt, movOw, als, retF, D.cl, D.cl1, D.hasL, D.hasLs, retO, retOs, cnt, Env.drp, Env.lock, Env.unlock, Out.unlock, setAll, List.getElem?_cons_zero, List.getElem?_cons_succ, List.set_cons_zero, List.set_cons_succ, List.length_cons, List.length_nil, List.map_cons, List.map_nil, List.cons_append, List.nil_append, List.append_nil, List.flatten_cons, List.flatten_nil, List.replicate_succ, List.replicate_zero, List.getElem?_nil, List.set_nil, List.all_cons, List.all_nil, List.filter_cons, List.filter_nil, List.length_set, List.isEmpty_nil, List.isEmpty_cons, List.foldl_cons, List.foldl_nil, List.append_assoc, List.contains_cons, List.zip_cons_cons, List.zip_nil_left, List.zip_nil_right, if_true, if_false, if_pos rfl, ite_true, ite_false, Bool.true_or, Bool.or_true, Bool.false_or, Bool.or_false, Bool.and_true, Bool.true_and, Bool.false_and, Bool.and_false, Bool.not_true, Bool.not_false, decide_true, decide_false, Bool.true_eq_false, Bool.false_eq_true, reduceIte, reduceCtorEq, Nat.reduceAdd, Nat.reduceSub, Nat.reduceLT, Nat.reduceLeDiff, Nat.reduceEqDiff, Nat.zero_lt_succ, Nat.reduceBEq, BEq.rfl, beq_self_eq_true, Nat.lt_add_one, and_self, and_true, true_and, Nat.zero_add, Nat.add_zero, Nat.add_one_sub_one, Nat.sub_self, Nat.sub_zero, decide_eq_true_eq, Nat.zero_le, Nat.add_zero, Nat.le_refl, b_add, b_sub, c_lt, c_le, c_gt, c_ge, c_eqI, c_neI, c_isNN, c_isIN, c_noNN, c_noIN, o_lenL, o_lenS, o_lenT, o_abs, o_listL, o_listT, o_intI, o_intB, o_max2, o_min2, neg_I] <;> rfl)).trans ?_
                simp only [exs]
              cases htg : ts[g] with
              | none =>
                rw [htg] at ig
                refine ⟨_, _, by simp only [encP, encO_nat, runF, exs, ex, evT, ev, evs, evB, evP, evC, evI, blOf, sc, Option.bind_some, Option.bind_none, Option.map_some, Option.map_none, bindT, Fl.al, Fl.el, Fl.ow, Fl.rt, Fl.at, tpAt, movOw, als, retF, D.cl, D.cl1, D.hasL, D.hasLs, retO, retOs, cnt, Env.drp, Env.lock, Env.unlock, Out.unlock, setAll, List.getElem?_cons_zero, List.getElem?_cons_succ, List.set_cons_zero, List.set_cons_succ, List.length_cons, List.length_nil, List.map_cons, List.map_nil, List.cons_append, List.nil_append, List.append_nil, List.flatten_cons, List.flatten_nil, List.replicate_succ, List.replicate_zero, List.getElem?_nil, List.set_nil, List.all_cons, List.all_nil, List.filter_cons, List.filter_nil, List.length_set, List.isEmpty_nil, List.isEmpty_cons, List.foldl_cons, List.foldl_nil, List.append_assoc, List.contains_cons, List.zip_cons_cons, List.zip_nil_left, List.zip_nil_right, if_true, if_false, if_pos rfl, ite_true, ite_false, Bool.true_or, Bool.or_true, Bool.false_or, Bool.or_false, Bool.and_true, Bool.true_and, Bool.false_and, Bool.and_false, Bool.not_true, Bool.not_false, decide_true, decide_false, Bool.true_eq_false, Bool.false_eq_true, reduceIte, reduceCtorEq, Nat.reduceAdd, Nat.reduceSub, Nat.reduceLT, Nat.reduceLeDiff, Nat.reduceEqDiff, Nat.zero_lt_succ, Nat.reduceBEq, BEq.rfl, beq_self_eq_true, Nat.lt_add_one, and_self, and_true, true_and, Nat.zero_add, Nat.add_zero, Nat.add_one_sub_one, Nat.sub_self, Nat.sub_zero, decide_eq_true_eq, Nat.zero_le, Nat.add_zero, Nat.le_refl, b_add, b_sub, c_lt, c_le, c_gt, c_ge, c_eqI, c_neI, c_isNN, c_isIN, c_noNN, c_noIN, o_lenL, o_lenS, o_lenT, o_abs, o_listL, o_listT, o_intI, o_intB, o_max2, o_min2, neg_I] <;> rfl, .inl (fin _ (exs_t (by simp only [ig, encN, runF, exs, ex, evT, ev, evs, evB, evP, evC, evI, blOf, sc, Option.bind_some, Option.bind_none, Option.map_some, Option.map_none, bindT, Fl.al, Fl.el, Fl.ow, Fl.rt, Fl.at, tpAt, movOw, als, retF, D.cl, D.cl1, D.hasL, D.hasLs, retO, retOs, cnt, Env.drp, Env.lock, Env.unlock, Out.unlock, setAll, List.getElem?_cons_zero, List.getElem?_cons_succ, List.set_cons_zero, List.set_cons_succ, List.length_cons, List.length_nil, List.map_cons, List.map_nil, List.cons_append, List.nil_append, List.append_nil, List.flatten_cons, List.flatten_nil, List.replicate_succ, List.replicate_zero, List.getElem?_nil, List.set_nil, List.all_cons, List.all_nil, List.filter_cons, List.filter_nil, List.length_set, List.isEmpty_nil, List.isEmpty_cons, List.foldl_cons, List.foldl_nil, List.append_assoc, List.contains_cons, List.zip_cons_cons, List.zip_nil_left, List.zip_nil_right, if_true, if_false, if_pos rfl, ite_true, ite_false, Bool.true_or, Bool.or_true, Bool.false_or, Bool.or_false, Bool.and_true, Bool.true_and, Bool.false_and, Bool.and_false, Bool.not_true, Bool.not_false, decide_true, decide_false, Bool.true_eq_false, Bool.false_eq_true, reduceIte, reduceCtorEq, Nat.reduceAdd, Nat.reduceSub, Nat.reduceLT, Nat.reduceLeDiff, Nat.reduceEqDiff, Nat.zero_lt_succ, Nat.reduceBEq, BEq.rfl, beq_self_eq_true, Nat.lt_add_one, and_self, and_true, true_and, Nat.zero_add, Nat.add_zero, Nat.add_one_sub_one, Nat.sub_self, Nat.sub_zero, decide_eq_true_eq, Nat.zero_le, Nat.add_zero, Nat.le_refl, b_add, b_sub, c_lt, c_le, c_gt, c_ge, c_eqI, c_neI, c_isNN, c_isIN, c_noNN, c_noIN, o_lenL, o_lenS, o_lenT, o_abs, o_listL, o_listT, o_intI, o_intB, o_max2, o_min2, neg_I] <;> rfl) putt |>.trans (by simp only [exs]))), ts.set g (some (a + m)), some (.int s, .no), some (.int g, .no), some (.int m, .no), rfl, M.put hp hj ha fun b hb => ?_⟩
                unfold At at hb
                rw [List.getElem?_eq_getElem hgl, htg] at hb
                cases hb
              | some b =>
                rw [htg] at ig
                have hb : At ts g b := by unfold At; rw [List.getElem?_eq_getElem hgl, htg]
                by_cases hlt : (a : Int) + m < b
                · refine ⟨_, _, by simp only [encP, encO_nat, runF, exs, ex, evT, ev, evs, evB, evP, evC, evI, blOf, sc, Option.bind_some, Option.bind_none, Option.map_some, Option.map_none, bindT, Fl.al, Fl.el, Fl.ow, Fl.rt, Fl.at, tpAt, movOw, als, retF, D.cl, D.cl1, D.hasL, D.hasLs, retO, retOs, cnt, Env.drp, Env.lock, Env.unlock, Out.unlock, setAll, List.getElem?_cons_zero, List.getElem?_cons_succ, List.set_cons_zero, List.set_cons_succ, List.length_cons, List.length_nil, List.map_cons, List.map_nil, List.cons_append, List.nil_append, List.append_nil, List.flatten_cons, List.flatten_nil, List.replicate_succ, List.replicate_zero, List.getElem?_nil, List.set_nil, List.all_cons, List.all_nil, List.filter_cons, List.filter_nil, List.length_set, List.isEmpty_nil, List.isEmpty_cons, List.foldl_cons, List.foldl_nil, List.append_assoc, List.contains_cons, List.zip_cons_cons, List.zip_nil_left, List.zip_nil_right, if_true, if_false, if_pos rfl, ite_true, ite_false, Bool.true_or, Bool.or_true, Bool.false_or, Bool.or_false, Bool.and_true, Bool.true_and, Bool.false_and, Bool.and_false, Bool.not_true, Bool.not_false, decide_true, decide_false, Bool.true_eq_false, Bool.false_eq_true, reduceIte, reduceCtorEq, Nat.reduceAdd, Nat.reduceSub, Nat.reduceLT, Nat.reduceLeDiff, Nat.reduceEqDiff, Nat.zero_lt_succ, Nat.reduceBEq, BEq.rfl, beq_self_eq_true, Nat.lt_add_one, and_self, and_true, true_and, Nat.zero_add, Nat.add_zero, Nat.add_one_sub_one, Nat.sub_self, Nat.sub_zero, decide_eq_true_eq, Nat.zero_le, Nat.add_zero, Nat.le_refl, b_add, b_sub, c_lt, c_le, c_gt, c_ge, c_eqI, c_neI, c_isNN, c_isIN, c_noNN, c_noIN, o_lenL, o_lenS, o_lenT, o_abs, o_listL, o_listT, o_intI, o_intB, o_max2, o_min2, neg_I] <;> rfl, .inl (fin _ (exs_t (by simp only [ig, is, encN, hlt, runF, exs, ex, evT, ev, evs, evB, evP, evC, evI, blOf, sc, Option.bind_some, Option.bind_none, Option.map_some, Option.map_none, bindT, Fl.al, Fl.el, Fl.ow, Fl.rt, Fl.at, tpAt, movOw, als, retF, D.cl, D.cl1, D.hasL, D.hasLs, retO, retOs, cnt, Env.drp, Env.lock, Env.unlock, Out.unlock, setAll, List.getElem?_cons_zero, List.getElem?_cons_succ, List.set_cons_zero, List.set_cons_succ, List.length_cons, List.length_nil, List.map_cons, List.map_nil, List.cons_append, List.nil_append, List.append_nil, List.flatten_cons, List.flatten_nil, List.replicate_succ, List.replicate_zero, List.getElem?_nil, List.set_nil, List.all_cons, List.all_nil, List.filter_cons, List.filter_nil, List.length_set, List.isEmpty_nil, List.isEmpty_cons, List.foldl_cons, List.foldl_nil, List.append_assoc, List.contains_cons, List.zip_cons_cons, List.zip_nil_left, List.zip_nil_right, if_true, if_false, if_pos rfl, ite_true, ite_false, Bool.true_or, Bool.or_true, Bool.false_or, Bool.or_false, Bool.and_true, Bool.true_and, Bool.false_and, Bool.and_false, Bool.not_true, Bool.not_false, decide_true, decide_false, Bool.true_eq_false, Bool.false_eq_true, reduceIte, reduceCtorEq, Nat.reduceAdd, Nat.reduceSub, Nat.reduceLT, Nat.reduceLeDiff, Nat.reduceEqDiff, Nat.zero_lt_succ, Nat.reduceBEq, BEq.rfl, beq_self_eq_true, Nat.lt_add_one, and_self, and_true, true_and, Nat.zero_add, Nat.add_zero, Nat.add_one_sub_one, Nat.sub_self, Nat.sub_zero, decide_eq_true_eq, Nat.zero_le, Nat.add_zero, Nat.le_refl, b_add, b_sub, c_lt, c_le, c_gt, c_ge, c_eqI, c_neI, c_isNN, c_isIN, c_noNN, c_noIN, o_lenL, o_lenS, o_lenT, o_abs, o_listL, o_listT, o_intI, o_intB, o_max2, o_min2, neg_I] <;> rfl) putt |>.trans (by simp only [exs]))), ts.set g (some (a + m)), some (.int s, .no), some (.int g, .no), some (.int m, .no), rfl, M.put hp hj ha fun b' hb' => ?_⟩
                  have := at_inj hb hb'
                  omega
                · refine ⟨_, _, by simp only [encP, encO_nat, runF, exs, ex, evT, ev, evs, evB, evP, evC, evI, blOf, sc, Option.bind_some, Option.bind_none, Option.map_some, Option.map_none, bindT, Fl.al, Fl.el, Fl.ow, Fl.rt, Fl.at, tpAt, movOw, als, retF, D.cl, D.cl1, D.hasL, D.hasLs, retO, retOs, cnt, Env.drp, Env.lock, Env.unlock, Out.unlock, setAll, List.getElem?_cons_zero, List.getElem?_cons_succ, List.set_cons_zero, List.set_cons_succ, List.length_cons, List.length_nil, List.map_cons, List.map_nil, List.cons_append, List.nil_append, List.append_nil, List.flatten_cons, List.flatten_nil, List.replicate_succ, List.replicate_zero, List.getElem?_nil, List.set_nil, List.all_cons, List.all_nil, List.filter_cons, List.filter_nil, List.length_set, List.isEmpty_nil, List.isEmpty_cons, List.foldl_cons, List.foldl_nil, List.append_assoc, List.contains_cons, List.zip_cons_cons, List.zip_nil_left, List.zip_nil_right, if_true, if_false, if_pos rfl, ite_true, ite_false, Bool.true_or, Bool.or_true, Bool.false_or, Bool.or_false, Bool.and_true, Bool.true_and, Bool.false_and, Bool.and_false, Bool.not_true, Bool.not_false, decide_true, decide_false, Bool.true_eq_false, Bool.false_eq_true, reduceIte, reduceCtorEq, Nat.reduceAdd, Nat.reduceSub, Nat.reduceLT, Nat.reduceLeDiff, Nat.reduceEqDiff, Nat.zero_lt_succ, Nat.reduceBEq, BEq.rfl, beq_self_eq_true, Nat.lt_add_one, and_self, and_true, true_and, Nat.zero_add, Nat.add_zero, Nat.add_one_sub_one, Nat.sub_self, Nat.sub_zero, decide_eq_true_eq, Nat.zero_le, Nat.add_zero, Nat.le_refl, b_add, b_sub, c_lt, c_le, c_gt, c_ge, c_eqI, c_neI, c_isNN, c_isIN, c_noNN, c_noIN, o_lenL, o_lenS, o_lenT, o_abs, o_listL, o_listT, o_intI, o_intB, o_max2, o_min2, neg_I] <;> rfl, .inl (fin ts (exs_f (by simp only [ig, is, encN, hlt, runF, exs, ex, evT, ev, evs, evB, evP, evC, evI, blOf, sc, Option.bind_some, Option.bind_none, Option.map_some, Option.map_none, bindT, Fl.al, Fl.el, Fl.ow, Fl.rt, Fl.at, tpAt, movOw, als, retF, D.cl, D.cl1, D.hasL, D.hasLs, retO, retOs, cnt, Env.drp, Env.lock, Env.unlock, Out.unlock, setAll, List.getElem?_cons_zero, List.getElem?_cons_succ, List.set_cons_zero, List.set_cons_succ, List.length_cons, List.length_nil, List.map_cons, List.map_nil, List.cons_append, List.nil_append, List.append_nil, List.flatten_cons, List.flatten_nil, List.replicate_succ, List.replicate_zero, List.getElem?_nil, List.set_nil, List.all_cons, List.all_nil, List.filter_cons, List.filter_nil, List.length_set, List.isEmpty_nil, List.isEmpty_cons, List.foldl_cons, List.foldl_nil, List.append_assoc, List.contains_cons, List.zip_cons_cons, List.zip_nil_left, List.zip_nil_right, if_true, if_false, if_pos rfl, ite_true, ite_false, Bool.true_or, Bool.or_true, Bool.false_or, Bool.or_false, Bool.and_true, Bool.true_and, Bool.false_and, Bool.and_false, Bool.not_true, Bool.not_false, decide_true, decide_false, Bool.true_eq_false, Bool.false_eq_true, reduceIte, reduceCtorEq, Nat.reduceAdd, Nat.reduceSub, Nat.reduceLT, Nat.reduceLeDiff, Nat.reduceEqDiff, Nat.zero_lt_succ, Nat.reduceBEq, BEq.rfl, beq_self_eq_true, Nat.lt_add_one, and_self, and_true, true_and, Nat.zero_add, Nat.add_zero, Nat.add_one_sub_one, Nat.sub_self, Nat.sub_zero, decide_eq_true_eq, Nat.zero_le, Nat.add_zero, Nat.le_refl, b_add, b_sub, c_lt, c_le, c_gt, c_ge, c_eqI, c_neI, c_isNN, c_isIN, c_noNN, c_noIN, o_lenL, o_lenS, o_lenT, o_abs, o_listL, o_listT, o_intI, o_intB, o_max2, o_min2, neg_I] <;> rfl) rfl |>.trans (by simp only [exs]))), ts, some (.int s, .no), some (.int g, .no), some (.int m, .no), rfl, M.skip (fun u v m' e a' ha' => ?_) hp⟩
                  rw [hj] at e
                  simp only [Option.some.injEq, Prod.mk.injEq, Int.natCast_inj] at e
                  obtain ⟨rfl, rfl, rfl⟩ := e
                  have := at_inj ha ha'
                  exact ⟨b, hb, by omega⟩)
      subst he
      refine ⟨_, _, by simp only [runF, exs, ex, evT, ev, evs, evB, evP, evC, evI, blOf, sc, Option.bind_some, Option.bind_none, Option.map_some, Option.map_none, bindT, Fl.al, Fl.el, Fl.ow, Fl.rt, Fl.at, tpAt, movOw, als, retF, D.cl, D.cl1, D.hasL, D.hasLs, retO, retOs, cnt, Env.drp, Env.lock, Env.unlock, Out.unlock, setAll, List.getElem?_cons_zero, List.getElem?_cons_succ, List.set_cons_zero, List.set_cons_succ, List.length_cons, List.length_nil, List.map_cons, List.map_nil, List.cons_append, List.nil_append, List.append_nil, List.flatten_cons, List.flatten_nil, List.replicate_succ, List.replicate_zero, List.getElem?_nil, List.set_nil, List.all_cons, List.all_nil, List.filter_cons, List.filter_nil, List.length_set, List.isEmpty_nil, List.isEmpty_cons, List.foldl_cons, List.foldl_nil, List.append_assoc, List.contains_cons, List.zip_cons_cons, List.zip_nil_left, List.zip_nil_right, if_true, if_false, if_pos rfl, ite_true, ite_false, Bool.true_or, Bool.or_true, Bool.false_or, Bool.or_false, Bool.and_true, Bool.true_and, Bool.false_and, Bool.and_false, Bool.not_true, Bool.not_false, decide_true, decide_false, Bool.true_eq_false, Bool.false_eq_true, reduceIte, reduceCtorEq, Nat.reduceAdd, Nat.reduceSub, Nat.reduceLT, Nat.reduceLeDiff, Nat.reduceEqDiff, Nat.zero_lt_succ, Nat.reduceBEq, BEq.rfl, beq_self_eq_true, Nat.lt_add_one, and_self, and_true, true_and, Nat.zero_add, Nat.add_zero, Nat.add_one_sub_one, Nat.sub_self, Nat.sub_zero, decide_eq_true_eq, Nat.zero_le, Nat.add_zero, Nat.le_refl, b_add, b_sub, c_lt, c_le, c_gt, c_ge, c_eqI, c_neI, c_isNN, c_isIN, c_noNN, c_noIN, o_lenL, o_lenS, o_lenT, o_abs, o_listL, o_listT, o_intI, o_intB, o_max2, o_min2, neg_I] <;> rfl, .inl ?_, ts', some (.int k, .no), x4', x5', x6', rfl, ?_⟩
      · refine (exs_for (p := (ps.map encP, [], [])) (by simp only [i_net1, runF, exs, ex, evT, ev, evs, evB, evP, evC, evI, blOf, sc, Option.bind_some, Option.bind_none, Option.map_some, Option.map_none, bindT, Fl.al, Fl.el, Fl.ow, Fl.rt, Fl.at, tpAt, movOw, als, retF, D.cl, D.cl1, D.hasL, D.hasLs, retO, retOs, cnt, Env.drp, Env.lock, Env.unlock, Out.unlock, setAll, List.getElem?_cons_zero, List.getElem?_cons_succ, List.set_cons_zero, List.set_cons_succ, List.length_cons, List.length_nil, List.map_cons, List.map_nil, List.cons_append, List.nil_append, List.append_nil, List.flatten_cons, List.flatten_nil, List.replicate_succ, List.replicate_zero, List.getElem?_nil, List.set_nil, List.all_cons, List.all_nil, List.filter_cons, List.filter_nil, List.length_set, List.isEmpty_nil, List.isEmpty_cons, List.foldl_cons, List.foldl_nil, List.append_assoc, List.contains_cons, List.zip_cons_cons, List.zip_nil_left, List.zip_nil_right, if_true, if_false, if_pos rfl, ite_true, ite_false, Bool.true_or, Bool.or_true, Bool.false_or, Bool.or_false, Bool.and_true, Bool.true_and, Bool.false_and, Bool.and_false, Bool.not_true, Bool.not_false, decide_true, decide_false, Bool.true_eq_false, Bool.false_eq_true, reduceIte, reduceCtorEq, Nat.reduceAdd, Nat.reduceSub, Nat.reduceLT, Nat.reduceLeDiff, Nat.reduceEqDiff, Nat.zero_lt_succ, Nat.reduceBEq, BEq.rfl, beq_self_eq_true, Nat.lt_add_one, and_self, and_true, true_and, Nat.zero_add, Nat.add_zero, Nat.add_one_sub_one, Nat.sub_self, Nat.sub_zero, decide_eq_true_eq, Nat.zero_le, Nat.add_zero, Nat.le_refl, b_add, b_sub, c_lt, c_le, c_gt, c_ge, c_eqI, c_neI, c_isNN, c_isIN, c_noNN, c_noIN, o_lenL, o_lenS, o_lenT, o_abs, o_listL, o_listT, o_intI, o_intB, o_max2, o_min2, neg_I] <;> rfl) rfl hfor).trans ?_
        simp only [exs]
        rfl
      · rw [Nat.zero_add, List.length_map] at M
        rw [Nat.zero_add]
        exact M.next hp)
  subst he
  have hl : 0 + ((List.range ((n : Int)).toNat).map fun k : Nat => D.int k).length = n := by simp
  rw [hl] at R
  refine ⟨ts, runF_rt [some (encNet n ps, .no), some (.int h, .no), none, none, none, none, none] rfl rfl ?_, sure_of R⟩
  have hrep := fun f g => b_rep (d := .non) (n := n) (f := f) (g := g) (by omega)
  have hput := put_lst (ds := List.replicate n D.non) (k := h) (by simpa using hh)
  have hset : (List.replicate n D.non).set h (.int 0) = ((List.replicate n none).set h (some 0)).map encN := by
    rw [List.map_set, List.map_replicate]; rfl
  refine (exs_nx (by simp only [i_net0, hrep, runF, exs, ex, evT, ev, evs, evB, evP, evC, evI, blOf, sc, Option.bind_some, Option.bind_none, Option.map_some, Option.map_none, bindT, Fl.al, Fl.el, Fl.ow, Fl.rt, Fl.at, tpAt, movOw, als, retF, D.cl, D.cl1, D.hasL, D.hasLs, retO, retOs, cnt, Env.drp, Env.lock, Env.unlock, Out.unlock, setAll, List.getElem?_cons_zero, List.getElem?_cons_succ, List.set_cons_zero, List.set_cons_succ, List.length_cons, List.length_nil, List.map_cons, List.map_nil, List.cons_append, List.nil_append, List.append_nil, List.flatten_cons, List.flatten_nil, List.replicate_succ, List.replicate_zero, List.getElem?_nil, List.set_nil, List.all_cons, List.all_nil, List.filter_cons, List.filter_nil, List.length_set, List.isEmpty_nil, List.isEmpty_cons, List.foldl_cons, List.foldl_nil, List.append_assoc, List.contains_cons, List.zip_cons_cons, List.zip_nil_left, List.zip_nil_right, if_true, if_false, if_pos rfl, ite_true, ite_false, Bool.true_or, Bool.or_true, Bool.false_or, Bool.or_false, Bool.and_true, Bool.true_and, Bool.false_and, Bool.and_false, Bool.not_true, Bool.not_false, decide_true, decide_false, Bool.true_eq_false, Bool.false_eq_true, reduceIte, reduceCtorEq, Nat.reduceAdd, Nat.reduceSub, Nat.reduceLT, Nat.reduceLeDiff, Nat.reduceEqDiff, Nat.zero_lt_succ, Nat.reduceBEq, BEq.rfl, beq_self_eq_true, Nat.lt_add_one, and_self, and_true, true_and, Nat.zero_add, Nat.add_zero, Nat.add_one_sub_one, Nat.sub_self, Nat.sub_zero, decide_eq_true_eq, Nat.zero_le, Nat.add_zero, Nat.le_refl, b_add, b_sub, c_lt, c_le, c_gt, c_ge, c_eqI, c_neI, c_isNN, c_isIN, c_noNN, c_noIN, o_lenL, o_lenS, o_lenT, o_abs, o_listL, o_listT, o_intI, o_intB, o_max2, o_min2, neg_I] <;> rfl)).trans ?_
  refine (exs_nx (by simp only [hput, hset, runF, exs, ex, evT, ev, evs, evB, evP, evC, evI, blOf, sc, Option.bind_some, Option.bind_none, Option.map_some, Option.map_none, bindT, Fl.al, Fl.el, Fl.ow, Fl.rt, Fl.at, tpAt, movOw, als, retF, D.cl, D.cl1, D.hasL, D.hasLs, retO, retOs, cnt, Env.drp, Env.lock, Env.unlock, Out.unlock, setAll, List.getElem?_cons_zero, List.getElem?_cons_succ, List.set_cons_zero, List.set_cons_succ, List.length_cons, List.length_nil, List.map_cons, List.map_nil, List.cons_append, List.nil_append, List.append_nil, List.flatten_cons, List.flatten_nil, List.replicate_succ, List.replicate_zero, List.getElem?_nil, List.set_nil, List.all_cons, List.all_nil, List.filter_cons, List.filter_nil, List.length_set, List.isEmpty_nil, List.isEmpty_cons, List.foldl_cons, List.foldl_nil, List.append_assoc, List.contains_cons, List.zip_cons_cons, List.zip_nil_left, List.zip_nil_right, if_true, if_false, if_pos rfl, ite_true, ite_false, Bool.true_or, Bool.or_true, Bool.false_or, Bool.or_false, Bool.and_true, Bool.true_and, Bool.false_and, Bool.and_false, Bool.not_true, Bool.not_false, decide_true, decide_false, Bool.true_eq_false, Bool.false_eq_true, reduceIte, reduceCtorEq, Nat.reduceAdd, Nat.reduceSub, Nat.reduceLT, Nat.reduceLeDiff, Nat.reduceEqDiff, Nat.zero_lt_succ, Nat.reduceBEq, BEq.rfl, beq_self_eq_true, Nat.lt_add_one, and_self, and_true, true_and, Nat.zero_add, Nat.add_zero, Nat.add_one_sub_one, Nat.sub_self, Nat.sub_zero, decide_eq_true_eq, Nat.zero_le, Nat.add_zero, Nat.le_refl, b_add, b_sub, c_lt, c_le, c_gt, c_ge, c_eqI, c_neI, c_isNN, c_isIN, c_noNN, c_noIN, o_lenL, o_lenS, o_lenT, o_abs, o_listL, o_listT, o_intI, o_intB, o_max2, o_min2, neg_I] <;> rfl)).trans ?_
  refine (exs_for (p := ((List.range ((n : Int)).toNat).map fun k : Nat => D.int k, [], [])) (by simp only [i_net0, hr, runF, exs, ex, evT, ev, evs, evB, evP, evC, evI, blOf, sc, Option.bind_some, Option.bind_none, Option.map_some, Option.map_none, bindT, Fl.al, Fl.el, Fl.ow, Fl.rt, Fl.at, tpAt, movOw, als, retF, D.cl, D.cl1, D.hasL, D.hasLs, retO, retOs, cnt, Env.drp, Env.lock, Env.unlock, Out.unlock, setAll, List.getElem?_cons_zero, List.getElem?_cons_succ, List.set_cons_zero, List.set_cons_succ, List.length_cons, List.length_nil, List.map_cons, List.map_nil, List.cons_append, List.nil_append, List.append_nil, List.flatten_cons, List.flatten_nil, List.replicate_succ, List.replicate_zero, List.getElem?_nil, List.set_nil, List.all_cons, List.all_nil, List.filter_cons, List.filter_nil, List.length_set, List.isEmpty_nil, List.isEmpty_cons, List.foldl_cons, List.foldl_nil, List.append_assoc, List.contains_cons, List.zip_cons_cons, List.zip_nil_left, List.zip_nil_right, if_true, if_false, if_pos rfl, ite_true, ite_false, Bool.true_or, Bool.or_true, Bool.false_or, Bool.or_false, Bool.and_true, Bool.true_and, Bool.false_and, Bool.and_false, Bool.not_true, Bool.not_false, decide_true, decide_false, Bool.true_eq_false, Bool.false_eq_true, reduceIte, reduceCtorEq, Nat.reduceAdd, Nat.reduceSub, Nat.reduceLT, Nat.reduceLeDiff, Nat.reduceEqDiff, Nat.zero_lt_succ, Nat.reduceBEq, BEq.rfl, beq_self_eq_true, Nat.lt_add_one, and_self, and_true, true_and, Nat.zero_add, Nat.add_zero, Nat.add_one_sub_one, Nat.sub_self, Nat.sub_zero, decide_eq_true_eq, Nat.zero_le, Nat.add_zero, Nat.le_refl, b_add, b_sub, c_lt, c_le, c_gt, c_ge, c_eqI, c_neI, c_isNN, c_isIN, c_noNN, c_noIN, o_lenL, o_lenS, o_lenT, o_abs, o_listL, o_listT, o_intI, o_intB, o_max2, o_min2, neg_I] <;> rfl) rfl hfor).trans ?_
  refine exs_rt (by simp only [runF, exs, ex, evT, ev, evs, evB, evP, evC, evI, blOf, sc, Option.bind_some, Option.bind_none, Option.map_some, Option.map_none, bindT, Fl.al, Fl.el, Fl.ow, Fl.rt, Fl.at, tpAt, movOw, als, retF, D.cl, D.cl1, D.hasL, D.hasLs, retO, retOs, cnt, Env.drp, Env.lock, Env.unlock, Out.unlock, setAll, List.getElem?_cons_zero, List.getElem?_cons_succ, List.set_cons_zero, List.set_cons_succ, List.length_cons, List.length_nil, List.map_cons, List.map_nil, List.cons_append, List.nil_append, List.append_nil, List.flatten_cons, List.flatten_nil, List.replicate_succ, List.replicate_zero, List.getElem?_nil, List.set_nil, List.all_cons, List.all_nil, List.filter_cons, List.filter_nil, List.length_set, List.isEmpty_nil, List.isEmpty_cons, List.foldl_cons, List.foldl_nil, List.append_assoc, List.contains_cons, List.zip_cons_cons, List.zip_nil_left, List.zip_nil_right, if_true, if_false, if_pos rfl, ite_true, ite_false, Bool.true_or, Bool.or_true, Bool.false_or, Bool.or_false, Bool.and_true, Bool.true_and, Bool.false_and, Bool.and_false, Bool.not_true, Bool.not_false, decide_true, decide_false, Bool.true_eq_false, Bool.false_eq_true, reduceIte, reduceCtorEq, Nat.reduceAdd, Nat.reduceSub, Nat.reduceLT, Nat.reduceLeDiff, Nat.reduceEqDiff, Nat.zero_lt_succ, Nat.reduceBEq, BEq.rfl, beq_self_eq_true, Nat.lt_add_one, and_self, and_true, true_and, Nat.zero_add, Nat.add_zero, Nat.add_one_sub_one, Nat.sub_self, Nat.sub_zero, decide_eq_true_eq, Nat.zero_le, Nat.add_zero, Nat.le_refl, b_add, b_sub, c_lt, c_le, c_gt, c_ge, c_eqI, c_neI, c_isNN, c_isIN, c_noNN, c_noIN, o_lenL, o_lenS, o_lenT, o_abs, o_listL, o_listT, o_intI, o_intB, o_max2, o_min2, neg_I] <;> rfl)
end Ix
set_option Elab.async false
set_option linter.all false
set_option maxRecDepth 100000
set_option maxHeartbeats 4000000
namespace Ix
open PySem PySem.Spec PyProof.Rows L2

theorem cell26 (G : Orc) (ns : List Int) (k : Nat) : ∃ c, runF G F26 [.scr ns, .int k] = some (.int c, .no) := by
  by_cases h : (k : Int) < ns.length
  · have h' : k < ns.length := by omega
    have e := fun f => i_scr (f := f) (List.getElem?_eq_getElem h')
    exact ⟨ns[k], by simp only [F26, h, e, runF, exs, ex, evT, ev, evs, evB, evP, evC, evI, blOf, sc, Option.bind_some, Option.bind_none, Option.map_some, Option.map_none, bindT, Fl.al, Fl.el, Fl.ow, Fl.rt, Fl.at, tpAt, movOw, als, retF, D.cl, D.cl1, D.hasL, D.hasLs, retO, retOs, cnt, Env.drp, Env.lock, Env.unlock, Out.unlock, setAll, List.getElem?_cons_zero, List.getElem?_cons_succ, List.set_cons_zero, List.set_cons_succ, List.length_cons, List.length_nil, List.map_cons, List.map_nil, List.cons_append, List.nil_append, List.append_nil, List.flatten_cons, List.flatten_nil, List.replicate_succ, List.replicate_zero, List.getElem?_nil, List.set_nil, List.all_cons, List.all_nil, List.filter_cons, List.filter_nil, List.length_set, List.isEmpty_nil, List.isEmpty_cons, List.foldl_cons, List.foldl_nil, List.append_assoc, List.contains_cons, List.zip_cons_cons, List.zip_nil_left, List.zip_nil_right, if_true, if_false, if_pos rfl, ite_true, ite_false, Bool.true_or, Bool.or_true, Bool.false_or, Bool.or_false, Bool.and_true, Bool.true_and, Bool.false_and, Bool.and_false, Bool.not_true, Bool.not_false, decide_true, decide_false, Bool.true_eq_false, Bool.false_eq_true, reduceIte, reduceCtorEq, Nat.reduceAdd, Nat.reduceSub, Nat.reduceLT, Nat.reduceLeDiff, Nat.reduceEqDiff, Nat.zero_lt_succ, Nat.reduceBEq, BEq.rfl, beq_self_eq_true, Nat.lt_add_one, and_self, and_true, true_and, Nat.zero_add, Nat.add_zero, Nat.add_one_sub_one, Nat.sub_self, Nat.sub_zero, decide_eq_true_eq, Nat.zero_le, Nat.add_zero, Nat.le_refl, b_add, b_sub, c_lt, c_le, c_gt, c_ge, c_eqI, c_neI, c_isNN, c_isIN, c_noNN, c_noIN, o_lenL, o_lenS, o_lenT, o_abs, o_listL, o_listT, o_intI, o_intB, o_max2, o_min2, neg_I]⟩
  · exact ⟨0, by simp only [F26, h, runF, exs, ex, evT, ev, evs, evB, evP, evC, evI, blOf, sc, Option.bind_some, Option.bind_none, Option.map_some, Option.map_none, bindT, Fl.al, Fl.el, Fl.ow, Fl.rt, Fl.at, tpAt, movOw, als, retF, D.cl, D.cl1, D.hasL, D.hasLs, retO, retOs, cnt, Env.drp, Env.lock, Env.unlock, Out.unlock, setAll, List.getElem?_cons_zero, List.getElem?_cons_succ, List.set_cons_zero, List.set_cons_succ, List.length_cons, List.length_nil, List.map_cons, List.map_nil, List.cons_append, List.nil_append, List.append_nil, List.flatten_cons, List.flatten_nil, List.replicate_succ, List.replicate_zero, List.getElem?_nil, List.set_nil, List.all_cons, List.all_nil, List.filter_cons, List.filter_nil, List.length_set, List.isEmpty_nil, List.isEmpty_cons, List.foldl_cons, List.foldl_nil, List.append_assoc, List.contains_cons, List.zip_cons_cons, List.zip_nil_left, List.zip_nil_right, if_true, if_false, if_pos rfl, ite_true, ite_false, Bool.true_or, Bool.or_true, Bool.false_or, Bool.or_false, Bool.and_true, Bool.true_and, Bool.false_and, Bool.and_false, Bool.not_true, Bool.not_false, decide_true, decide_false, Bool.true_eq_false, Bool.false_eq_true, reduceIte, reduceCtorEq, Nat.reduceAdd, Nat.reduceSub, Nat.reduceLT, Nat.reduceLeDiff, Nat.reduceEqDiff, Nat.zero_lt_succ, Nat.reduceBEq, BEq.rfl, beq_self_eq_true, Nat.lt_add_one, and_self, and_true, true_and, Nat.zero_add, Nat.add_zero, Nat.add_one_sub_one, Nat.sub_self, Nat.sub_zero, decide_eq_true_eq, Nat.zero_le, Nat.add_zero, Nat.le_refl, b_add, b_sub, c_lt, c_le, c_gt, c_ge, c_eqI, c_neI, c_isNN, c_isIN, c_noNN, c_noIN, o_lenL, o_lenS, o_lenT, o_abs, o_listL, o_listT, o_intI, o_intB, o_max2, o_min2, neg_I]⟩
theorem big50 : ∃ B : Int, (∀ f g, binop .Pow (.int 10, f) (.int 50, g) = some (.int B, .own .no [])) ∧ 0 < B :=
  ⟨10 ^ 50, fun f g => b_pow10 (f := f) (g := g) 50 (by decide), by decide⟩
theorem pick5 (a b x : Int) (ha : 1 ≤ a) (hb : 1 ≤ b) (h : ¬ x % 6 = 0) : ∃ mo : Option Int, (∀ f, idxop (.lst [.non, .int 1, .int 2, .int a, .int b], f) (.int (x % 6 - 1)) = some (encO mo, .own .no f.el)) ∧ ∀ m, mo = some m → 1 ≤ m := by
  have hx : x % 6 = 1 ∨ x % 6 = 2 ∨ x % 6 = 3 ∨ x % 6 = 4 ∨ x % 6 = 5 := by omega
  rcases hx with h | h | h | h | h <;> rw [h]
  · exact ⟨none, fun f => rfl, by simp⟩
  · exact ⟨some 1, fun f => rfl, by simp⟩
  · exact ⟨some 2, fun f => rfl, by simp⟩
  · exact ⟨some a, fun f => rfl, by simpa using ha⟩
  · exact ⟨some b, fun f => rfl, by simpa using hb⟩
theorem nd_rev {α : Type} {l : List α} (h : l.Nodup) : l.reverse.Nodup := List.pairwise_reverse.mpr (h.imp Ne.symm)
theorem NetOk.rev {n : Nat} {ps : List Path} (N : NetOk n ps) : NetOk n ps.reverse :=
  ⟨N.lo, N.hi, fun p hp => N.at_ p (List.mem_reverse.mp hp), by rw [List.map_reverse]; exact nd_rev N.nd, by rw [List.length_reverse]; exact N.len⟩
theorem NetOk.idx {n : Nat} {ps : List Path} (N : NetOk n ps) {a b s g : Nat} {m m' : Option Int} (h1 : ps[a]? = some (s, g, m)) (h2 : ps[b]? = some (s, g, m')) : a = b := by
  have k1 : (ps.map fun p => (p.1, p.2.1))[a]? = some (s, g) := by rw [List.getElem?_map, h1]; rfl
  have k2 : (ps.map fun p => (p.1, p.2.1))[b]? = some (s, g) := by rw [List.getElem?_map, h2]; rfl
  obtain ⟨l1, e1⟩ := List.getElem?_eq_some_iff.mp k1
  obtain ⟨l2, e2⟩ := List.getElem?_eq_some_iff.mp k2
  exact (List.getElem_inj N.nd).mp (e1.trans e2.symm)

/-! ### tales -/
abbrev Run := Nat × Nat × Nat × Nat
abbrev Sgn := Nat × Nat × Str
def encR (r : Run) : D := .tup [.int r.1, .int r.2.1, .int r.2.2.1, .int r.2.2.2]
def encS (s : Sgn) : D := .tup [.int s.1, .int s.2.1, .str s.2.2]
def encTale (last : Nat) (rs : List Run) (sg : List Sgn) : D := .tup [.int last, .lst (rs.map encR), .lst (sg.map encS)]
def rkey (r : Run) : Nat × Nat × Nat := (r.1, r.2.1, r.2.2.1)
structure SgOk (n last : Nat) (sg : List Sgn) : Prop where
  at_ : ∀ s ∈ sg, s.1 < n ∧ s.2.1 ≤ last ∧ PyData.canLay0 (.str s.2.2) = true
  nd : sg.Nodup
  len : sg.length ≤ 5
structure RsOk (ps : List Path) (last : Nat) (rs : List Run) : Prop where
  at_ : ∀ r ∈ rs, (∃ m, (r.1, r.2.1, m) ∈ ps ∧ ∀ m' : Int, m = some m' → (r.2.2.2 : Int) ≤ r.2.2.1 + m') ∧ r.2.2.1 < r.2.2.2 ∧ r.2.2.2 ≤ last
  due : ∀ (s g m l : Nat), (s, g, some (m : Int)) ∈ ps → l + m ≤ last → ∃ c, (s, g, l, c) ∈ rs
  nd : (rs.map rkey).Nodup
  len : rs.length ≤ 4000
structure TaleOk (n : Nat) (ps : List Path) (last : Nat) (rs : List Run) (sg : List Sgn) : Prop where
  hi : last ≤ 24
  rs_ : RsOk ps last rs
  sg_ : SgOk n last sg
theorem RsOk.rev {last : Nat} {ps : List Path} {rs : List Run} (R : RsOk ps last rs) : RsOk ps last rs.reverse :=
  ⟨fun r hr => R.at_ r (List.mem_reverse.mp hr), fun s g m l h1 h2 => by obtain ⟨c, hc⟩ := R.due s g m l h1 h2; exact ⟨c, List.mem_reverse.mpr hc⟩, by rw [List.map_reverse]; exact nd_rev R.nd, by rw [List.length_reverse]; exact R.len⟩
/-- on the way: the paths ahead of i are done, of path i the turns ahead of j -/
structure RsI (ps : List Path) (last i j : Nat) (rs : List Run) : Prop where
  at_ : ∀ r ∈ rs, (∃ a m, ps[a]? = some (r.1, r.2.1, m) ∧ (a < i ∨ a = i ∧ r.2.2.1 < j) ∧ ∀ m' : Int, m = some m' → (r.2.2.2 : Int) ≤ r.2.2.1 + m') ∧ r.2.2.1 < r.2.2.2 ∧ r.2.2.2 ≤ last
  due : ∀ (a s g m l : Nat), ps[a]? = some (s, g, some (m : Int)) → (a < i ∨ a = i ∧ l < j) → l + m ≤ last → ∃ c, (s, g, l, c) ∈ rs
  nd : (rs.map rkey).Nodup
  len : rs.length ≤ last * i + j
theorem RsI.zero {ps : List Path} {last : Nat} : RsI ps last 0 0 [] := ⟨by simp, fun a s g m l _ h => by omega, by simp, by simp⟩
theorem RsI.next {n : Nat} {ps : List Path} {last i : Nat} {rs : List Run} (N : NetOk n ps) (R : RsI ps last i last rs) : RsI ps last (i + 1) 0 rs := by
  refine ⟨fun r hr => ?_, fun a s g m l h1 h2 h3 => ?_, R.nd, by rw [Nat.mul_add]; have := R.len; omega⟩
  · obtain ⟨⟨a, m, h1, h2, h3⟩, h4⟩ := R.at_ r hr
    exact ⟨⟨a, m, h1, by omega, h3⟩, h4⟩
  · have := (N.at_ _ (List.mem_of_getElem? h1)).2.2.2 m rfl
    exact R.due a s g m l h1 (by omega) h3
theorem RsI.skip {ps : List Path} {last i j s g : Nat} {mo : Option Int} {rs : List Run} (R : RsI ps last i j rs) (hp : ps[i]? = some (s, g, mo)) (h : ∀ m : Nat, mo = some (m : Int) → last < j + m) : RsI ps last i (j + 1) rs := by
  refine ⟨fun r hr => ?_, fun a s' g' m l h1 h2 h3 => ?_, R.nd, by have := R.len; omega⟩
  · obtain ⟨⟨a, m, h1, h2, h3⟩, h4⟩ := R.at_ r hr
    exact ⟨⟨a, m, h1, by omega, h3⟩, h4⟩
  · by_cases hz : a = i ∧ l = j
    · obtain ⟨rfl, rfl⟩ := hz
      rw [hp] at h1
      simp only [Option.some.injEq, Prod.mk.injEq] at h1
      have := h m h1.2.2
      omega
    · exact R.due a s' g' m l h1 (by omega) h3
theorem RsI.add {n : Nat} {ps : List Path} {last i j s g c : Nat} {mo : Option Int} {rs : List Run} (N : NetOk n ps) (R : RsI ps last i j rs) (hp : ps[i]? = some (s, g, mo)) (h1 : j < c) (h2 : c ≤ last) (h3 : ∀ m' : Int, mo = some m' → (c : Int) ≤ j + m') : RsI ps last i (j + 1) (rs ++ [(s, g, j, c)]) := by
  refine ⟨fun r hr => ?_, fun a s' g' m l k1 k2 k3 => ?_, ?_, by rw [List.length_append]; have := R.len; simp; omega⟩
  · rcases List.mem_append.mp hr with hr | hr
    · obtain ⟨⟨a, m, k1, k2, k3⟩, k4⟩ := R.at_ r hr
      exact ⟨⟨a, m, k1, by omega, k3⟩, k4⟩
    · rw [List.mem_singleton] at hr
      subst hr
      exact ⟨⟨i, mo, hp, .inr ⟨rfl, Nat.lt_succ_self j⟩, h3⟩, h1, h2⟩
  · by_cases hz : a = i ∧ l = j
    · obtain ⟨rfl, rfl⟩ := hz
      rw [hp] at k1
      simp only [Option.some.injEq, Prod.mk.injEq] at k1
      obtain ⟨rfl, rfl, _⟩ := k1
      exact ⟨c, List.mem_append_right _ (by simp)⟩
    · obtain ⟨c', hc⟩ := R.due a s' g' m l k1 (by omega) k3
      exact ⟨c', List.mem_append_left _ hc⟩
  · rw [List.map_append, List.map_cons, List.map_nil]
    refine List.nodup_append.mpr ⟨R.nd, by simp, fun x hx y hy => ?_⟩
    rw [List.mem_singleton] at hy
    subst hy
    rintro rfl
    obtain ⟨r, hr, e⟩ := List.mem_map.mp hx
    simp only [rkey, Prod.mk.injEq] at e
    obtain ⟨⟨a, m, k1, k2, k3⟩, k4⟩ := R.at_ r hr
    rw [e.1, e.2.1] at k1
    have := N.idx k1 hp
    omega
theorem RsI.done {n : Nat} {ps : List Path} {last : Nat} {rs : List Run} (N : NetOk n ps) (hl : last ≤ 24) (R : RsI ps last ps.length 0 rs) : RsOk ps last rs := by
  refine ⟨fun r hr => ?_, fun s g m l h1 h2 => ?_, R.nd, ?_⟩
  · obtain ⟨⟨a, m, h1, h2, h3⟩, h4⟩ := R.at_ r hr
    exact ⟨⟨m, List.mem_of_getElem? h1, h3⟩, h4⟩
  · obtain ⟨a, ha, e⟩ := List.getElem_of_mem h1
    exact R.due a s g m l (by rw [List.getElem?_eq_getElem ha, e]) (.inl ha) h2
  · have h1 := R.len
    have h2 := N.len
    have : last * ps.length ≤ 24 * 63 := Nat.mul_le_mul hl h2
    omega
/-! ### data -/
theorem encR_pu : ∀ rs : List Run, D.pus (rs.map encR) = true ∧ D.deps (rs.map encR) ≤ 1 ∧ D.hasLs (rs.map encR) = false
  | [] => ⟨rfl, by simp [D.deps], rfl⟩
  | r :: rs => by
    obtain ⟨h1, h2, h3⟩ := encR_pu rs
    exact ⟨by simp [D.pus, encR, D.pu, h1], by simp [D.deps, encR, D.dep]; omega, by simp [D.hasLs, encR, D.hasL, h3]⟩
theorem encS_pu : ∀ sg : List Sgn, (∀ s ∈ sg, PyData.canLay0 (.str s.2.2) = true) → D.pus (sg.map encS) = true ∧ D.deps (sg.map encS) ≤ 1 ∧ D.hasLs (sg.map encS) = false
  | [], _ => ⟨rfl, by simp [D.deps], rfl⟩
  | r :: rs, h => by
    obtain ⟨h1, h2, h3⟩ := encS_pu rs fun s hs => h s (List.mem_cons_of_mem _ hs)
    have h0 := h r (by simp)
    exact ⟨by simp [D.pus, encS, D.pu, h1, h0], by simp [D.deps, encS, D.dep]; omega, by simp [D.hasLs, encS, D.hasL, h3]⟩
theorem tale_pu {n last : Nat} {rs : List Run} {sg : List Sgn} (S : SgOk n last sg) : (encTale last rs sg).pu = true ∧ (encTale last rs sg).dep ≤ 64 := by
  obtain ⟨h1, h2, _⟩ := encR_pu rs
  obtain ⟨h3, h4, _⟩ := encS_pu sg fun s hs => (S.at_ s hs).2.2
  exact ⟨by simp [encTale, D.pu, D.pus, h1, h3], by simp [encTale, D.dep, D.deps]; omega⟩
theorem tale_cl {n last : Nat} {rs : List Run} {sg : List Sgn} (S : SgOk n last sg) : D.cl (encTale last rs sg) (.tp [.no, .top, .top]) = true := by
  obtain ⟨_, _, h1⟩ := encR_pu rs
  obtain ⟨_, _, h2⟩ := encS_pu sg fun s hs => (S.at_ s hs).2.2
  simp [encTale, D.cl, D.cl1, D.hasL, h1, h2]
theorem encS_inj {a b : Sgn} (h : encS a = encS b) : a = b := by
  unfold encS at h
  simp only [D.tup.injEq, List.cons.injEq, D.int.injEq, D.str.injEq, and_true, Int.natCast_inj] at h
  exact Prod.ext h.1 (Prod.ext h.2.1 h.2.2)
theorem encR_inj {a b : Run} (h : encR a = encR b) : a = b := by
  unfold encR at h
  simp only [D.tup.injEq, List.cons.injEq, D.int.injEq, and_true, Int.natCast_inj] at h
  exact Prod.ext h.1 (Prod.ext h.2.1 (Prod.ext h.2.2.1 h.2.2.2))
open Classical in
theorem notin_sgn {s : Sgn} {sg : List Sgn} (h0 : PyData.canLay0 (.str s.2.2) = true) (h : ∀ s ∈ sg, PyData.canLay0 (.str s.2.2) = true) : cmpop .NotIn (encS s) (.lst (sg.map encS)) = some (!decide (s ∈ sg)) := by
  show (din (encS s) (sg.map encS)).map not = _
  obtain ⟨h1, h2, _⟩ := encS_pu sg h
  rw [din_pu (by simp [encS, D.pu, D.pus, h0]) h1 (by simp [encS, D.dep, D.deps]) (by omega)]
  have : (encS s ∈ sg.map encS) ↔ s ∈ sg := by
    rw [List.mem_map]
    exact ⟨fun ⟨q, hq, e⟩ => encS_inj e ▸ hq, fun h => ⟨_, h, rfl⟩⟩
  simp only [Option.map_some, this]
/-! ### names -/
theorem b_addS {a b : Str} {f g : Fl} (h : a.length + b.length ≤ szb) : binop .Add (.str a, f) (.str b, g) = some (.str (a ++ b), .own .no []) := by
  show (if a.length + b.length ≤ szb then _ else none) = _
  rw [if_pos h]; rfl
theorem b_mulS {a : Str} {j : Int} {f g : Fl} (h : a.length ≤ 1000) (h0 : 0 ≤ j) (h1 : j ≤ 1000) : binop .Mult (.str a, f) (.int j, g) = some (.str (Txt.mul a j), .own .no []) := by
  show (if a.length ≤ 1000 ∧ 0 ≤ j ∧ j ≤ 1000 then _ else none) = _
  rw [if_pos ⟨h, h0, h1⟩]; rfl
def nameAt (a : Nat) (c : Str) : Str := Txt.mul "a" (a : Int) ++ c ++ Txt.mul "a" (11 - (a : Int))
theorem name_ok (a : Nat) (ha : a < 12) : PyData.canLay0 (.str (nameAt a "b")) = true ∧ PyData.canLay0 (.str (nameAt a "c")) = true ∧ (Txt.mul "a" (a : Int)).length ≤ 12 ∧ (Txt.mul "a" (11 - (a : Int))).length ≤ 12 ∧ (Txt.mul "a" (a : Int) ++ "b").length ≤ 13 ∧ (Txt.mul "a" (a : Int) ++ "c").length ≤ 13 := by
  revert a
  decide +kernel
theorem name4 (a b c d : Str) (x : Int) (ha : PyData.canLay0 (.str a) = true) (hb : PyData.canLay0 (.str b) = true) (hc : PyData.canLay0 (.str c) = true) (hd : PyData.canLay0 (.str d) = true) :
    ∃ z : Str, (∀ f, idxop (.lst [.str a, .str b, .str c, .str d], f) (.int (x % 4)) = some (.str z, .own .no f.el)) ∧ PyData.canLay0 (.str z) = true := by
  have hx : x % 4 = 0 ∨ x % 4 = 1 ∨ x % 4 = 2 ∨ x % 4 = 3 := by omega
  rcases hx with h | h | h | h <;> rw [h]
  · exact ⟨a, fun f => rfl, ha⟩
  · exact ⟨b, fun f => rfl, hb⟩
  · exact ⟨c, fun f => rfl, hc⟩
  · exact ⟨d, fun f => rfl, hd⟩
end Ix
set_option Elab.async false
set_option linter.all false
set_option maxRecDepth 100000
set_option maxHeartbeats 4000000
namespace Ix
open PySem PySem.Spec PyProof.Rows L2

/-! ### what a spot hears -/
inductive Hear (rs : List Run) (h t : Nat) : Nat → Nat → Prop
  | self {u : Nat} : u ≤ t → Hear rs h t h u
  | run {x u g l c : Nat} : (x, g, l, c) ∈ rs → u ≤ l → Hear rs h t g c → Hear rs h t x u
def Fwd (rs : List Run) : Prop := ∀ r ∈ rs, r.2.2.1 < r.2.2.2
theorem Hear.mono {rs : List Run} {h t x u v : Nat} (H : Hear rs h t x u) (hv : v ≤ u) : Hear rs h t x v := by
  cases H with
  | self hu => exact .self (by omega)
  | run h1 h2 h3 => exact .run h1 (by omega) h3
theorem Hear.le {rs : List Run} {h t x u : Nat} (hf : Fwd rs) (H : Hear rs h t x u) : u ≤ t := by
  induction H with
  | self hu => exact hu
  | run h1 h2 h3 ih => have := hf _ h1; simp only at this; omega
def gt (es : List Int) (x : Nat) : Int := (es[x]?).getD (-1)
theorem gt_at {es : List Int} {x : Nat} (h : x < es.length) : es[x]? = some (gt es x) := by
  unfold gt
  rw [List.getElem?_eq_getElem h]; rfl
theorem gt_set {es : List Int} {g x : Nat} {c : Int} (h : g < es.length) : gt (es.set g c) x = if x = g then c else gt es x := by
  unfold gt
  rw [List.getElem?_set]
  by_cases e : g = x
  · subst e; simp [h]
  · have : ¬ x = g := fun z => e z.symm
    simp [e, this]
structure Ends (n : Nat) (rs : List Run) (h t : Nat) (es : List Int) (fs : List (Option Run)) : Prop where
  len : es.length = n
  lenf : fs.length = n
  lo : ∀ x, -1 ≤ gt es x
  own : gt es h = t ∧ fs[h]? = some none
  hear : ∀ x u : Nat, x < n → (Hear rs h t x u ↔ (u : Int) ≤ gt es x)
  by_ : ∀ x r, fs[x]? = some (some r) → r ∈ rs ∧ r.1 = x ∧ gt es x = (r.2.2.1 : Nat) ∧ (r.2.2.2 : Int) ≤ gt es r.2.1
  non : ∀ x, x < n → x ≠ h → fs[x]? = some none → gt es x = -1
structure EInv (n : Nat) (rs : List Run) (h t : Nat) (srt : List Run) (j : Nat) (es : List Int) (fs : List (Option Run)) : Prop where
  len : es.length = n
  lenf : fs.length = n
  lo : ∀ x, -1 ≤ gt es x
  own : gt es h = t ∧ fs[h]? = some none
  snd : ∀ x u : Nat, gt es x = u → Hear rs h t x u
  cls : ∀ i, i < j → ∀ s g l c : Nat, srt[i]? = some (s, g, l, c) → (c : Int) ≤ gt es g → (l : Int) ≤ gt es s
  by_ : ∀ x r, fs[x]? = some (some r) → r ∈ rs ∧ r.1 = x ∧ gt es x = (r.2.2.1 : Nat) ∧ (r.2.2.2 : Int) ≤ gt es r.2.1
  non : ∀ x, x < n → x ≠ h → fs[x]? = some none → gt es x = -1
theorem gt_rep (n x : Nat) : gt (List.replicate n (-1)) x = -1 := by
  unfold gt
  rw [List.getElem?_replicate]
  split <;> rfl
theorem EInv.start {n h t : Nat} {rs srt : List Run} (hh : h < n) : EInv n rs h t srt 0 ((List.replicate n (-1)).set h (t : Int)) (List.replicate n none) := by
  have key := fun x => gt_set (es := List.replicate n (-1)) (g := h) (x := x) (c := (t : Int)) (by simpa using hh)
  refine ⟨by simp, by simp, fun x => ?_, ⟨by rw [key, if_pos rfl], by rw [List.getElem?_replicate, if_pos hh]⟩, fun x u e => ?_, fun i hi => by omega, fun x r e => ?_, fun x hx hxh _ => by rw [key, if_neg hxh, gt_rep]⟩
  · rw [key, gt_rep]; split <;> omega
  · rw [key, gt_rep] at e
    split at e
    · rename_i hx
      subst hx
      exact .self (by omega)
    · omega
  · rw [List.getElem?_replicate] at e
    split at e <;> simp at e
theorem EInv.heard {n h t j : Nat} {rs srt : List Run} {es : List Int} {fs : List (Option Run)} (I : EInv n rs h t srt j es fs) {g c : Nat} (hc : (c : Int) ≤ gt es g) : Hear rs h t g c := by
  obtain ⟨e, he⟩ : ∃ e : Nat, gt es g = e := ⟨(gt es g).toNat, by omega⟩
  exact (I.snd g e he).mono (by omega)
theorem EInv.skip {n h t j s g l c : Nat} {rs srt : List Run} {es : List Int} {fs : List (Option Run)} (I : EInv n rs h t srt j es fs) (e : srt[j]? = some (s, g, l, c)) (hk : (c : Int) ≤ gt es g → (l : Int) ≤ gt es s) : EInv n rs h t srt (j + 1) es fs := by
  refine { I with cls := fun i hi s' g' l' c' e' hc => ?_ }
  by_cases hij : i = j
  · subst hij
    rw [e] at e'
    simp only [Option.some.injEq, Prod.mk.injEq] at e'
    obtain ⟨rfl, rfl, rfl, rfl⟩ := e'
    exact hk hc
  · exact I.cls i (by omega) s' g' l' c' e' hc
theorem EInv.put {n h t j s g l c : Nat} {rs srt : List Run} {es : List Int} {fs : List (Option Run)} (hf : Fwd rs) (hs : srt.Pairwise fun a b => b.2.2.2 ≤ a.2.2.2) (hm : ∀ r, r ∈ srt → r ∈ rs) (hsn : s < n)
    (I : EInv n rs h t srt j es fs) (e : srt[j]? = some (s, g, l, c)) (h1 : (c : Int) ≤ gt es g) (h2 : gt es s < l) : EInv n rs h t srt (j + 1) (es.set s (l : Int)) (fs.set s (some (s, g, l, c))) := by
  have hmem := hm _ (List.mem_of_getElem? e)
  have hlc := hf _ hmem
  simp only at hlc
  have H : Hear rs h t s l := .run hmem (Nat.le_refl l) (I.heard h1)
  have hlt := H.le hf
  have hsh : s ≠ h := by rintro rfl; have := I.own.1; omega
  have hgs : g ≠ s := by rintro rfl; omega
  have key := fun x => gt_set (es := es) (g := s) (x := x) (c := (l : Int)) (by rw [I.len]; exact hsn)
  have up : ∀ x, gt es x ≤ gt (es.set s (l : Int)) x := fun x => by
    rw [key]; split
    · rename_i hx; subst hx; omega
    · omega
  refine ⟨by rw [List.length_set]; exact I.len, by rw [List.length_set]; exact I.lenf, fun x => Int.le_trans (I.lo x) (up x), ⟨by rw [key, if_neg hsh.symm]; exact I.own.1, by rw [List.getElem?_set, if_neg hsh]; exact I.own.2⟩, fun x u hu => ?_, fun i hi s' g' l' c' e' hc => ?_, fun x r hx => ?_, fun x hx hxh hx2 => ?_⟩
  · rw [key] at hu
    split at hu
    · rename_i hx
      subst hx
      have : l = u := by omega
      subst this
      exact H
    · exact I.snd x u hu
  · by_cases hij : i = j
    · subst hij
      rw [e] at e'
      simp only [Option.some.injEq, Prod.mk.injEq] at e'
      obtain ⟨rfl, rfl, rfl, rfl⟩ := e'
      rw [key, if_pos rfl]
      exact Int.le_refl _
    · have hcc : c ≤ c' := by
        obtain ⟨l1, e1⟩ := List.getElem?_eq_some_iff.mp e'
        obtain ⟨l2, e2⟩ := List.getElem?_eq_some_iff.mp e
        have := List.pairwise_iff_getElem.mp hs i j l1 l2 (by omega)
        rw [e1, e2] at this
        exact this
      rw [key] at hc
      split at hc
      · omega
      · exact Int.le_trans (I.cls i (by omega) s' g' l' c' e' hc) (up s')
  · rw [List.getElem?_set] at hx
    split at hx
    · rename_i hsx
      subst hsx
      rw [I.lenf, if_pos hsn] at hx
      simp only [Option.some.injEq] at hx
      subst hx
      refine ⟨hmem, rfl, by rw [key, if_pos rfl], ?_⟩
      exact Int.le_trans h1 (up g)
    · rename_i hsx
      obtain ⟨q1, q2, q3, q4⟩ := I.by_ x r hx
      exact ⟨q1, q2, by rw [key, if_neg (fun z => hsx z.symm)]; exact q3, Int.le_trans q4 (up _)⟩
  · rw [List.getElem?_set] at hx2
    split at hx2
    · rename_i hsx
      rw [I.lenf, if_pos hsn] at hx2
      simp at hx2
    · rename_i hsx
      rw [key, if_neg (fun z => hsx z.symm)]
      exact I.non x hx hxh hx2
theorem EInv.done {n h t : Nat} {rs srt : List Run} {es : List Int} {fs : List (Option Run)} (hm : ∀ r, r ∈ rs → r ∈ srt) (I : EInv n rs h t srt srt.length es fs) : Ends n rs h t es fs := by
  refine ⟨I.len, I.lenf, I.lo, I.own, fun x u hx => ⟨fun H => ?_, fun hu => I.heard hu⟩, I.by_, I.non⟩
  clear hx
  induction H with
  | self hu => rw [I.own.1]; omega
  | run h1 h2 h3 ih =>
    obtain ⟨i, hi, e⟩ := List.getElem_of_mem (hm _ h1)
    have := I.cls i hi _ _ _ _ (by rw [List.getElem?_eq_getElem hi, e]) ih
    omega
/-! ### the sorting -/
def comeLe (a b : Run) : Bool := decide (b.2.2.2 ≤ a.2.2.2)
theorem sort_runs (rs : List Run) : ∃ srt : List Run, sortK 3 (rs.map encR) = srt.map encR ∧ srt.Pairwise (fun a b => b.2.2.2 ≤ a.2.2.2) ∧ ∀ r, r ∈ srt ↔ r ∈ rs := by
  refine ⟨rs.mergeSort comeLe, ?_, ?_, fun r => List.mem_mergeSort⟩
  · unfold sortK
    rw [PySem.W.dataGe_int]
    refine (List.map_mergeSort fun a _ b _ => ?_).symm
    show decide (b.2.2.2 ≤ a.2.2.2) = decide ((b.2.2.2 : Int) ≤ a.2.2.2)
    congr 1
    simp
  · refine (List.pairwise_mergeSort (le := comeLe) (fun a b c h1 h2 => ?_) (fun a b => ?_) rs).imp fun {a b} h => by simpa [comeLe] using h
    · simp only [comeLe, decide_eq_true_eq] at *; omega
    · simp only [comeLe, Bool.or_eq_true, decide_eq_true_eq]; omega
def encOR : Option Run → D
  | none => .non
  | some r => encR r
theorem encOR_hasL : ∀ fs : List (Option Run), D.hasLs (fs.map encOR) = false
  | [] => rfl
  | none :: fs => by simp [D.hasLs, encOR, D.hasL, encOR_hasL fs]
  | some r :: fs => by simp [D.hasLs, encOR, encR, D.hasL, encOR_hasL fs]
theorem ints_hasL : ∀ es : List Int, D.hasLs (es.map D.int) = false
  | [] => rfl
  | e :: es => by simp [D.hasLs, D.hasL, ints_hasL es]
def spot (h t : Nat) : D := .tup [.int h, .int t]
section
variable {f : Fl} {r : Run} {h t last : Nat} {rs : List Run} {sg : List Sgn}
theorem i_r0 : idxop (encR r, f) (.int 0) = some (.int r.1, f.at 0) := rfl
theorem i_r1 : idxop (encR r, f) (.int 1) = some (.int r.2.1, f.at 1) := rfl
theorem i_r2 : idxop (encR r, f) (.int 2) = some (.int r.2.2.1, f.at 2) := rfl
theorem i_r3 : idxop (encR r, f) (.int 3) = some (.int r.2.2.2, f.at 3) := rfl
theorem i_s0 : idxop (spot h t, f) (.int 0) = some (.int h, f.at 0) := rfl
theorem i_s1 : idxop (spot h t, f) (.int 1) = some (.int t, f.at 1) := rfl
theorem i_t0 : idxop (encTale last rs sg, f) (.int 0) = some (.int last, f.at 0) := rfl
theorem i_t1 : idxop (encTale last rs sg, f) (.int 1) = some (.lst (rs.map encR), f.at 1) := rfl
theorem i_t2 : idxop (encTale last rs sg, f) (.int 2) = some (.lst (sg.map encS), f.at 2) := rfl
theorem o_srk {srt : List Run} (hl : rs.length ≤ 4000) (hs : sortK 3 (rs.map encR) = srt.map encR) : srkop 3 (.lst (rs.map encR), f) = some (.lst (srt.map encR), .own .top f.el) := by
  show (if ((rs.map encR).all fun d => (keyOf 3 d).isSome) ∧ (rs.map encR).length ≤ szb then some (D.lst (sortK 3 (rs.map encR)), Fl.own .top f.el) else none) = _
  rw [if_pos ⟨by rw [List.all_map, List.all_eq_true]; intro r _; rfl, by rw [List.length_map]; simp only [szb]; omega⟩, hs]
end
theorem RsOk.fwd {ps : List Path} {last : Nat} {rs : List Run} (R : RsOk ps last rs) : Fwd rs := fun r hr => (R.at_ r hr).2.1
theorem RsOk.ends {n : Nat} {ps : List Path} {last : Nat} {rs : List Run} (R : RsOk ps last rs) (N : NetOk n ps) : ∀ r ∈ rs, r.1 < n ∧ r.2.1 < n := fun r hr => by
  obtain ⟨⟨m, h1, _⟩, _⟩ := R.at_ r hr
  exact ⟨(N.at_ _ h1).1, (N.at_ _ h1).2.1⟩
theorem ends42 (G : Orc) (n : Nat) (ps : List Path) (last : Nat) (rs : List Run) (sg : List Sgn) (h t : Nat) (hn : n ≤ 8) (hat : ∀ r ∈ rs, r.1 < n ∧ r.2.1 < n) (hf : Fwd rs) (hl : rs.length ≤ 4000) (hh : h < n) :
    ∃ es fs, runF G F42 [encNet n ps, encTale last rs sg, spot h t] = some (.tup [.lst (es.map D.int), .lst (fs.map encOR)], .tp [.top, .top]) ∧ Ends n rs h t es fs := by
  obtain ⟨srt, hs, hpw, hmem⟩ := sort_runs rs
  obtain ⟨e', hfor, es, fs, x5, he, I⟩ := forL_inv (f := fun _ e => exs G e (.cons (.ifs (.bop true (.cmp .LtE (.idx (.var 5) (.int 3)) (.idx (.var 3) (.idx (.var 5) (.int 1)))) (.cons (.cmp .Gt (.idx (.var 5) (.int 2)) (.idx (.var 3) (.idx (.var 5) (.int 0)))) .nil)) (.cons (.put 3 (.idx (.var 5) (.int 0)) (.idx (.var 5) (.int 2))) (.cons (.put 4 (.idx (.var 5) (.int 0)) (.var 5)) .nil)) .nil) .nil)) (tg := .one 5)
    (fun j e => ∃ (es : List Int) (fs : List (Option Run)) (x5 : Option (D × Ow)), e = [some (encNet n ps, .no), some (encTale last rs sg, .no), some (spot h t, .no), some (.lst (es.map D.int), .top), some (.lst (fs.map encOR), .top), x5] ∧ EInv n rs h t srt j es fs)
    (ds := srt.map encR) (env := [some (encNet n ps, .no), some (encTale last rs sg, .no), some (spot h t, .no), some (.lst (((List.replicate n (-1)).set h (t : Int)).map D.int), .top), some (.lst ((List.replicate n none).map encOR), .top), none]) 0 ⟨_, _, none, rfl, EInv.start hh⟩ (by
      rintro j d e hd ⟨es, fs, x5, rfl, I⟩
      rw [List.getElem?_map] at hd
      obtain ⟨⟨s, g, l, c⟩, hj, rfl⟩ := Option.map_eq_some_iff.mp hd
      simp only [Nat.zero_add] at I ⊢
      obtain ⟨q1, q2⟩ := hat _ ((hmem _).mp (List.mem_of_getElem? hj))
      simp only at q1 q2
      have ig := fun f => i_lst (f := f) (ds := es.map D.int) (k := g) (d := .int (gt es g)) (by rw [List.getElem?_map, gt_at (by rw [I.len]; exact q2)]; rfl)
      have is := fun f => i_lst (f := f) (ds := es.map D.int) (k := s) (d := .int (gt es s)) (by rw [List.getElem?_map, gt_at (by rw [I.len]; exact q1)]; rfl)
      by_cases h1 : (c : Int) ≤ gt es g
      · by_cases h2 : gt es s < l
        · have p1 := put_lst (ds := es.map D.int) (k := s) (by rw [List.length_map, I.len]; exact q1)
          have p2 := put_lst (ds := fs.map encOR) (k := s) (by rw [List.length_map, I.lenf]; exact q1)
          refine ⟨_, _, by simp only [runF, exs, ex, evT, ev, evs, evB, evP, evC, evI, blOf, sc, Option.bind_some, Option.bind_none, Option.map_some, Option.map_none, bindT, Fl.al, Fl.el, Fl.ow, Fl.rt, Fl.at, tpAt, movOw, als, retF, D.cl, D.cl1, D.hasL, D.hasLs, retO, retOs, cnt, Env.drp, Env.lock, Env.unlock, Out.unlock, setAll, List.getElem?_cons_zero, List.getElem?_cons_succ, List.set_cons_zero, List.set_cons_succ, List.length_cons, List.length_nil, List.map_cons, List.map_nil, List.cons_append, List.nil_append, List.append_nil, List.flatten_cons, List.flatten_nil, List.replicate_succ, List.replicate_zero, List.getElem?_nil, List.set_nil, List.all_cons, List.all_nil, List.filter_cons, List.filter_nil, List.length_set, List.isEmpty_nil, List.isEmpty_cons, List.foldl_cons, List.foldl_nil, List.append_assoc, List.contains_cons, List.zip_cons_cons, List.zip_nil_left, List.zip_nil_right, if_true, if_false, if_pos rfl, ite_true, ite_false, Bool.true_or, Bool.or_true, Bool.false_or, Bool.or_false, Bool.and_true, Bool.true_and, Bool.false_and, Bool.and_false, Bool.not_true, Bool.not_false, decide_true, decide_false, Bool.true_eq_false, Bool.false_eq_true, reduceIte, reduceCtorEq, Nat.reduceAdd, Nat.reduceSub, Nat.reduceLT, Nat.reduceLeDiff, Nat.reduceEqDiff, Nat.zero_lt_succ, Nat.reduceBEq, BEq.rfl, beq_self_eq_true, Nat.lt_add_one, and_self, and_true, true_and, Nat.zero_add, Nat.add_zero, Nat.add_one_sub_one, Nat.sub_self, Nat.sub_zero, decide_eq_true_eq, Nat.zero_le, Nat.add_zero, Nat.le_refl, b_add, b_sub, c_lt, c_le, c_gt, c_ge, c_eqI, c_neI, c_isNN, c_isIN, c_noNN, c_noIN, o_lenL, o_lenS, o_lenT, o_abs, o_listL, o_listT, o_intI, o_intB, o_max2, o_min2, neg_I] <;> rfl, .inl ?_, es.set s (l : Int), fs.set s (some (s, g, l, c)), some (encR (s, g, l, c), .no), rfl, I.put hf hpw (fun r hr => (hmem r).mp hr) q1 hj h1 h2⟩
          refine (exs_t (by simp only [i_r0, i_r1, i_r2, i_r3, ig, is, h1, h2, runF, exs, ex, evT, ev, evs, evB, evP, evC, evI, blOf, sc, Option.bind_some, Option.bind_none, Option.map_some, Option.map_none, bindT, Fl.al, Fl.el, Fl.ow, Fl.rt, Fl.at, tpAt, movOw, als, retF, D.cl, D.cl1, D.hasL, D.hasLs, retO, retOs, cnt, Env.drp, Env.lock, Env.unlock, Out.unlock, setAll, List.getElem?_cons_zero, List.getElem?_cons_succ, List.set_cons_zero, List.set_cons_succ, List.length_cons, List.length_nil, List.map_cons, List.map_nil, List.cons_append, List.nil_append, List.append_nil, List.flatten_cons, List.flatten_nil, List.replicate_succ, List.replicate_zero, List.getElem?_nil, List.set_nil, List.all_cons, List.all_nil, List.filter_cons, List.filter_nil, List.length_set, List.isEmpty_nil, List.isEmpty_cons, List.foldl_cons, List.foldl_nil, List.append_assoc, List.contains_cons, List.zip_cons_cons, List.zip_nil_left, List.zip_nil_right, if_true, if_false, if_pos rfl, ite_true, ite_false, Bool.true_or, Bool.or_true, Bool.false_or, Bool.or_false, Bool.and_true, Bool.true_and, Bool.false_and, Bool.and_false, Bool.not_true, Bool.not_false, decide_true, decide_false, Bool.true_eq_false, Bool.false_eq_true, reduceIte, reduceCtorEq, Nat.reduceAdd, Nat.reduceSub, Nat.reduceLT, Nat.reduceLeDiff, Nat.reduceEqDiff, Nat.zero_lt_succ, Nat.reduceBEq, BEq.rfl, beq_self_eq_true, Nat.lt_add_one, and_self, and_true, true_and, Nat.zero_add, Nat.add_zero, Nat.add_one_sub_one, Nat.sub_self, Nat.sub_zero, decide_eq_true_eq, Nat.zero_le, Nat.add_zero, Nat.le_refl, b_add, b_sub, c_lt, c_le, c_gt, c_ge, c_eqI, c_neI, c_isNN, c_isIN, c_noNN, c_noIN, o_lenL, o_lenS, o_lenT, o_abs, o_listL, o_listT, o_intI, o_intB, o_max2, o_min2, neg_I] <;> rfl) (by simp only [i_r0, i_r2, p1, p2, runF, exs, ex, evT, ev, evs, evB, evP, evC, evI, blOf, sc, Option.bind_some, Option.bind_none, Option.map_some, Option.map_none, bindT, Fl.al, Fl.el, Fl.ow, Fl.rt, Fl.at, tpAt, movOw, als, retF, D.cl, D.cl1, D.hasL, D.hasLs, retO, retOs, cnt, Env.drp, Env.lock, Env.unlock, Out.unlock, setAll, List.getElem?_cons_zero, List.getElem?_cons_succ, List.set_cons_zero, List.set_cons_succ, List.length_cons, List.length_nil, List.map_cons, List.map_nil, List.cons_append, List.nil_append, List.append_nil, List.flatten_cons, List.flatten_nil, List.replicate_succ, List.replicate_zero, List.getElem?_nil, List.set_nil, List.all_cons, List.all_nil, List.filter_cons, List.filter_nil, List.length_set, List.isEmpty_nil, List.isEmpty_cons, List.foldl_cons, List.foldl_nil, List.append_assoc, List.contains_cons, List.zip_cons_cons, List.zip_nil_left, List.zip_nil_right, if_true, if_false, if_pos rfl, ite_true, ite_false, Bool.true_or, Bool.or_true, Bool.false_or, Bool.or_false, Bool.and_true, Bool.true_and, Bool.false_and, Bool.and_false, Bool.not_true, Bool.not_false, decide_true, decide_false, Bool.true_eq_false, Bool.false_eq_true, reduceIte, reduceCtorEq, Nat.reduceAdd, Nat.reduceSub, Nat.reduceLT, Nat.reduceLeDiff, Nat.reduceEqDiff, Nat.zero_lt_succ, Nat.reduceBEq, BEq.rfl, beq_self_eq_true, Nat.lt_add_one, and_self, and_true, true_and, Nat.zero_add, Nat.add_zero, Nat.add_one_sub_one, Nat.sub_self, Nat.sub_zero, decide_eq_true_eq, Nat.zero_le, Nat.add_zero, Nat.le_refl, b_add, b_sub, c_lt, c_le, c_gt, c_ge, c_eqI, c_neI, c_isNN, c_isIN, c_noNN, c_noIN, o_lenL, o_lenS, o_lenT, o_abs, o_listL, o_listT, o_intI, o_intB, o_max2, o_min2, neg_I] <;> rfl)).trans ?_
          simp only [exs, List.map_set, encOR]
        · refine ⟨_, _, by simp only [runF, exs, ex, evT, ev, evs, evB, evP, evC, evI, blOf, sc, Option.bind_some, Option.bind_none, Option.map_some, Option.map_none, bindT, Fl.al, Fl.el, Fl.ow, Fl.rt, Fl.at, tpAt, movOw, als, retF, D.cl, D.cl1, D.hasL, D.hasLs, retO, retOs, cnt, Env.drp, Env.lock, Env.unlock, Out.unlock, setAll, List.getElem?_cons_zero, List.getElem?_cons_succ, List.set_cons_zero, List.set_cons_succ, List.length_cons, List.length_nil, List.map_cons, List.map_nil, List.cons_append, List.nil_append, List.append_nil, List.flatten_cons, List.flatten_nil, List.replicate_succ, List.replicate_zero, List.getElem?_nil, List.set_nil, List.all_cons, List.all_nil, List.filter_cons, List.filter_nil, List.length_set, List.isEmpty_nil, List.isEmpty_cons, List.foldl_cons, List.foldl_nil, List.append_assoc, List.contains_cons, List.zip_cons_cons, List.zip_nil_left, List.zip_nil_right, if_true, if_false, if_pos rfl, ite_true, ite_false, Bool.true_or, Bool.or_true, Bool.false_or, Bool.or_false, Bool.and_true, Bool.true_and, Bool.false_and, Bool.and_false, Bool.not_true, Bool.not_false, decide_true, decide_false, Bool.true_eq_false, Bool.false_eq_true, reduceIte, reduceCtorEq, Nat.reduceAdd, Nat.reduceSub, Nat.reduceLT, Nat.reduceLeDiff, Nat.reduceEqDiff, Nat.zero_lt_succ, Nat.reduceBEq, BEq.rfl, beq_self_eq_true, Nat.lt_add_one, and_self, and_true, true_and, Nat.zero_add, Nat.add_zero, Nat.add_one_sub_one, Nat.sub_self, Nat.sub_zero, decide_eq_true_eq, Nat.zero_le, Nat.add_zero, Nat.le_refl, b_add, b_sub, c_lt, c_le, c_gt, c_ge, c_eqI, c_neI, c_isNN, c_isIN, c_noNN, c_noIN, o_lenL, o_lenS, o_lenT, o_abs, o_listL, o_listT, o_intI, o_intB, o_max2, o_min2, neg_I] <;> rfl, .inl ?_, es, fs, some (encR (s, g, l, c), .no), rfl, I.skip hj fun _ => by omega⟩
          refine (exs_f (by simp only [i_r0, i_r1, i_r2, i_r3, ig, is, h1, h2, runF, exs, ex, evT, ev, evs, evB, evP, evC, evI, blOf, sc, Option.bind_some, Option.bind_none, Option.map_some, Option.map_none, bindT, Fl.al, Fl.el, Fl.ow, Fl.rt, Fl.at, tpAt, movOw, als, retF, D.cl, D.cl1, D.hasL, D.hasLs, retO, retOs, cnt, Env.drp, Env.lock, Env.unlock, Out.unlock, setAll, List.getElem?_cons_zero, List.getElem?_cons_succ, List.set_cons_zero, List.set_cons_succ, List.length_cons, List.length_nil, List.map_cons, List.map_nil, List.cons_append, List.nil_append, List.append_nil, List.flatten_cons, List.flatten_nil, List.replicate_succ, List.replicate_zero, List.getElem?_nil, List.set_nil, List.all_cons, List.all_nil, List.filter_cons, List.filter_nil, List.length_set, List.isEmpty_nil, List.isEmpty_cons, List.foldl_cons, List.foldl_nil, List.append_assoc, List.contains_cons, List.zip_cons_cons, List.zip_nil_left, List.zip_nil_right, if_true, if_false, if_pos rfl, ite_true, ite_false, Bool.true_or, Bool.or_true, Bool.false_or, Bool.or_false, Bool.and_true, Bool.true_and, Bool.false_and, Bool.and_false, Bool.not_true, Bool.not_false, decide_true, decide_false, Bool.true_eq_false, Bool.false_eq_true, reduceIte, reduceCtorEq, Nat.reduceAdd, Nat.reduceSub, Nat.reduceLT, Nat.reduceLeDiff, Nat.reduceEqDiff, Nat.zero_lt_succ, Nat.reduceBEq, BEq.rfl, beq_self_eq_true, Nat.lt_add_one, and_self, and_true, true_and, Nat.zero_add, Nat.add_zero, Nat.add_one_sub_one, Nat.sub_self, Nat.sub_zero, decide_eq_true_eq, Nat.zero_le, Nat.add_zero, Nat.le_refl, b_add, b_sub, c_lt, c_le, c_gt, c_ge, c_eqI, c_neI, c_isNN, c_isIN, c_noNN, c_noIN, o_lenL, o_lenS, o_lenT, o_abs, o_listL, o_listT, o_intI, o_intB, o_max2, o_min2, neg_I] <;> rfl) rfl).trans ?_
          simp only [exs]
      · refine ⟨_, _, by simp only [runF, exs, ex, evT, ev, evs, evB, evP, evC, evI, blOf, sc, Option.bind_some, Option.bind_none, Option.map_some, Option.map_none, bindT, Fl.al, Fl.el, Fl.ow, Fl.rt, Fl.at, tpAt, movOw, als, retF, D.cl, D.cl1, D.hasL, D.hasLs, retO, retOs, cnt, Env.drp, Env.lock, Env.unlock, Out.unlock, setAll, List.getElem?_cons_zero, List.getElem?_cons_succ, List.set_cons_zero, List.set_cons_succ, List.length_cons, List.length_nil, List.map_cons, List.map_nil, List.cons_append, List.nil_append, List.append_nil, List.flatten_cons, List.flatten_nil, List.replicate_succ, List.replicate_zero, List.getElem?_nil, List.set_nil, List.all_cons, List.all_nil, List.filter_cons, List.filter_nil, List.length_set, List.isEmpty_nil, List.isEmpty_cons, List.foldl_cons, List.foldl_nil, List.append_assoc, List.contains_cons, List.zip_cons_cons, List.zip_nil_left, List.zip_nil_right, if_true, if_false, if_pos rfl, ite_true, ite_false, Bool.true_or, Bool.or_true, Bool.false_or, Bool.or_false, Bool.and_true, Bool.true_and, Bool.false_and, Bool.and_false, Bool.not_true, Bool.not_false, decide_true, decide_false, Bool.true_eq_false, Bool.false_eq_true, reduceIte, reduceCtorEq, Nat.reduceAdd, Nat.reduceSub, Nat.reduceLT, Nat.reduceLeDiff, Nat.reduceEqDiff, Nat.zero_lt_succ, Nat.reduceBEq, BEq.rfl, beq_self_eq_true, Nat.lt_add_one, and_self, and_true, true_and, Nat.zero_add, Nat.add_zero, Nat.add_one_sub_one, Nat.sub_self, Nat.sub_zero, decide_eq_true_eq, Nat.zero_le, Nat.add_zero, Nat.le_refl, b_add, b_sub, c_lt, c_le, c_gt, c_ge, c_eqI, c_neI, c_isNN, c_isIN, c_noNN, c_noIN, o_lenL, o_lenS, o_lenT, o_abs, o_listL, o_listT, o_intI, o_intB, o_max2, o_min2, neg_I] <;> rfl, .inl ?_, es, fs, some (encR (s, g, l, c), .no), rfl, I.skip hj fun z => absurd z h1⟩
        refine (exs_f (by simp only [i_r0, i_r1, i_r2, i_r3, ig, is, h1, runF, exs, ex, evT, ev, evs, evB, evP, evC, evI, blOf, sc, Option.bind_some, Option.bind_none, Option.map_some, Option.map_none, bindT, Fl.al, Fl.el, Fl.ow, Fl.rt, Fl.at, tpAt, movOw, als, retF, D.cl, D.cl1, D.hasL, D.hasLs, retO, retOs, cnt, Env.drp, Env.lock, Env.unlock, Out.unlock, setAll, List.getElem?_cons_zero, List.getElem?_cons_succ, List.set_cons_zero, List.set_cons_succ, List.length_cons, List.length_nil, List.map_cons, List.map_nil, List.cons_append, List.nil_append, List.append_nil, List.flatten_cons, List.flatten_nil, List.replicate_succ, List.replicate_zero, List.getElem?_nil, List.set_nil, List.all_cons, List.all_nil, List.filter_cons, List.filter_nil, List.length_set, List.isEmpty_nil, List.isEmpty_cons, List.foldl_cons, List.foldl_nil, List.append_assoc, List.contains_cons, List.zip_cons_cons, List.zip_nil_left, List.zip_nil_right, if_true, if_false, if_pos rfl, ite_true, ite_false, Bool.true_or, Bool.or_true, Bool.false_or, Bool.or_false, Bool.and_true, Bool.true_and, Bool.false_and, Bool.and_false, Bool.not_true, Bool.not_false, decide_true, decide_false, Bool.true_eq_false, Bool.false_eq_true, reduceIte, reduceCtorEq, Nat.reduceAdd, Nat.reduceSub, Nat.reduceLT, Nat.reduceLeDiff, Nat.reduceEqDiff, Nat.zero_lt_succ, Nat.reduceBEq, BEq.rfl, beq_self_eq_true, Nat.lt_add_one, and_self, and_true, true_and, Nat.zero_add, Nat.add_zero, Nat.add_one_sub_one, Nat.sub_self, Nat.sub_zero, decide_eq_true_eq, Nat.zero_le, Nat.add_zero, Nat.le_refl, b_add, b_sub, c_lt, c_le, c_gt, c_ge, c_eqI, c_neI, c_isNN, c_isIN, c_noNN, c_noIN, o_lenL, o_lenS, o_lenT, o_abs, o_listL, o_listT, o_intI, o_intB, o_max2, o_min2, neg_I] <;> rfl) rfl).trans ?_
        simp only [exs])
  subst he
  rw [Nat.zero_add, List.length_map] at I
  have hrep := fun f g => b_rep (d := .int (-1)) (n := n) (f := f) (g := g) (by omega)
  have hrep2 := fun f g => b_rep (d := .non) (n := n) (f := f) (g := g) (by omega)
  have hput := put_lst (ds := List.replicate n (D.int (-1))) (k := h) (by simpa using hh)
  have hset : (List.replicate n (D.int (-1))).set h (.int t) = ((List.replicate n (-1)).set h (t : Int)).map D.int := by rw [List.map_set, List.map_replicate]
  have hnn : List.replicate n D.non = (List.replicate n none).map encOR := by rw [List.map_replicate]; rfl
  have hsk := fun f => o_srk (f := f) hl hs
  refine ⟨es, fs, runF_rt [some (encNet n ps, .no), some (encTale last rs sg, .no), some (spot h t, .no), none, none, none] rfl rfl ?_, I.done fun r hr => (hmem r).mpr hr⟩
  refine (exs_nx (by simp only [i_net0, hrep, runF, exs, ex, evT, ev, evs, evB, evP, evC, evI, blOf, sc, Option.bind_some, Option.bind_none, Option.map_some, Option.map_none, bindT, Fl.al, Fl.el, Fl.ow, Fl.rt, Fl.at, tpAt, movOw, als, retF, D.cl, D.cl1, D.hasL, D.hasLs, retO, retOs, cnt, Env.drp, Env.lock, Env.unlock, Out.unlock, setAll, List.getElem?_cons_zero, List.getElem?_cons_succ, List.set_cons_zero, List.set_cons_succ, List.length_cons, List.length_nil, List.map_cons, List.map_nil, List.cons_append, List.nil_append, List.append_nil, List.flatten_cons, List.flatten_nil, List.replicate_succ, List.replicate_zero, List.getElem?_nil, List.set_nil, List.all_cons, List.all_nil, List.filter_cons, List.filter_nil, List.length_set, List.isEmpty_nil, List.isEmpty_cons, List.foldl_cons, List.foldl_nil, List.append_assoc, List.contains_cons, List.zip_cons_cons, List.zip_nil_left, List.zip_nil_right, if_true, if_false, if_pos rfl, ite_true, ite_false, Bool.true_or, Bool.or_true, Bool.false_or, Bool.or_false, Bool.and_true, Bool.true_and, Bool.false_and, Bool.and_false, Bool.not_true, Bool.not_false, decide_true, decide_false, Bool.true_eq_false, Bool.false_eq_true, reduceIte, reduceCtorEq, Nat.reduceAdd, Nat.reduceSub, Nat.reduceLT, Nat.reduceLeDiff, Nat.reduceEqDiff, Nat.zero_lt_succ, Nat.reduceBEq, BEq.rfl, beq_self_eq_true, Nat.lt_add_one, and_self, and_true, true_and, Nat.zero_add, Nat.add_zero, Nat.add_one_sub_one, Nat.sub_self, Nat.sub_zero, decide_eq_true_eq, Nat.zero_le, Nat.add_zero, Nat.le_refl, b_add, b_sub, c_lt, c_le, c_gt, c_ge, c_eqI, c_neI, c_isNN, c_isIN, c_noNN, c_noIN, o_lenL, o_lenS, o_lenT, o_abs, o_listL, o_listT, o_intI, o_intB, o_max2, o_min2, neg_I] <;> rfl)).trans ?_
  refine (exs_nx (by simp only [i_s0, i_s1, hput, hset, runF, exs, ex, evT, ev, evs, evB, evP, evC, evI, blOf, sc, Option.bind_some, Option.bind_none, Option.map_some, Option.map_none, bindT, Fl.al, Fl.el, Fl.ow, Fl.rt, Fl.at, tpAt, movOw, als, retF, D.cl, D.cl1, D.hasL, D.hasLs, retO, retOs, cnt, Env.drp, Env.lock, Env.unlock, Out.unlock, setAll, List.getElem?_cons_zero, List.getElem?_cons_succ, List.set_cons_zero, List.set_cons_succ, List.length_cons, List.length_nil, List.map_cons, List.map_nil, List.cons_append, List.nil_append, List.append_nil, List.flatten_cons, List.flatten_nil, List.replicate_succ, List.replicate_zero, List.getElem?_nil, List.set_nil, List.all_cons, List.all_nil, List.filter_cons, List.filter_nil, List.length_set, List.isEmpty_nil, List.isEmpty_cons, List.foldl_cons, List.foldl_nil, List.append_assoc, List.contains_cons, List.zip_cons_cons, List.zip_nil_left, List.zip_nil_right, if_true, if_false, if_pos rfl, ite_true, ite_false, Bool.true_or, Bool.or_true, Bool.false_or, Bool.or_false, Bool.and_true, Bool.true_and, Bool.false_and, Bool.and_false, Bool.not_true, Bool.not_false, decide_true, decide_false, Bool.true_eq_false, Bool.false_eq_true, reduceIte, reduceCtorEq, Nat.reduceAdd, Nat.reduceSub, Nat.reduceLT, Nat.reduceLeDiff, Nat.reduceEqDiff, Nat.zero_lt_succ, Nat.reduceBEq, BEq.rfl, beq_self_eq_true, Nat.lt_add_one, and_self, and_true, true_and, Nat.zero_add, Nat.add_zero, Nat.add_one_sub_one, Nat.sub_self, Nat.sub_zero, decide_eq_true_eq, Nat.zero_le, Nat.add_zero, Nat.le_refl, b_add, b_sub, c_lt, c_le, c_gt, c_ge, c_eqI, c_neI, c_isNN, c_isIN, c_noNN, c_noIN, o_lenL, o_lenS, o_lenT, o_abs, o_listL, o_listT, o_intI, o_intB, o_max2, o_min2, neg_I] <;> rfl)).trans ?_
  refine (exs_nx (by simp only [i_net0, hrep2, hnn, runF, exs, ex, evT, ev, evs, evB, evP, evC, evI, blOf, sc, Option.bind_some, Option.bind_none, Option.map_some, Option.map_none, bindT, Fl.al, Fl.el, Fl.ow, Fl.rt, Fl.at, tpAt, movOw, als, retF, D.cl, D.cl1, D.hasL, D.hasLs, retO, retOs, cnt, Env.drp, Env.lock, Env.unlock, Out.unlock, setAll, List.getElem?_cons_zero, List.getElem?_cons_succ, List.set_cons_zero, List.set_cons_succ, List.length_cons, List.length_nil, List.map_cons, List.map_nil, List.cons_append, List.nil_append, List.append_nil, List.flatten_cons, List.flatten_nil, List.replicate_succ, List.replicate_zero, List.getElem?_nil, List.set_nil, List.all_cons, List.all_nil, List.filter_cons, List.filter_nil, List.length_set, List.isEmpty_nil, List.isEmpty_cons, List.foldl_cons, List.foldl_nil, List.append_assoc, List.contains_cons, List.zip_cons_cons, List.zip_nil_left, List.zip_nil_right, if_true, if_false, if_pos rfl, ite_true, ite_false, Bool.true_or, Bool.or_true, Bool.false_or, Bool.or_false, Bool.and_true, Bool.true_and, Bool.false_and, Bool.and_false, Bool.not_true, Bool.not_false, decide_true, decide_false, Bool.true_eq_false, Bool.false_eq_true, reduceIte, reduceCtorEq, Nat.reduceAdd, Nat.reduceSub, Nat.reduceLT, Nat.reduceLeDiff, Nat.reduceEqDiff, Nat.zero_lt_succ, Nat.reduceBEq, BEq.rfl, beq_self_eq_true, Nat.lt_add_one, and_self, and_true, true_and, Nat.zero_add, Nat.add_zero, Nat.add_one_sub_one, Nat.sub_self, Nat.sub_zero, decide_eq_true_eq, Nat.zero_le, Nat.add_zero, Nat.le_refl, b_add, b_sub, c_lt, c_le, c_gt, c_ge, c_eqI, c_neI, c_isNN, c_isIN, c_noNN, c_noIN, o_lenL, o_lenS, o_lenT, o_abs, o_listL, o_listT, o_intI, o_intB, o_max2, o_min2, neg_I] <;> rfl)).trans ?_
  refine (exs_for (p := (srt.map encR, [], [])) (by simp only [i_t1, hsk, runF, exs, ex, evT, ev, evs, evB, evP, evC, evI, blOf, sc, Option.bind_some, Option.bind_none, Option.map_some, Option.map_none, bindT, Fl.al, Fl.el, Fl.ow, Fl.rt, Fl.at, tpAt, movOw, als, retF, D.cl, D.cl1, D.hasL, D.hasLs, retO, retOs, cnt, Env.drp, Env.lock, Env.unlock, Out.unlock, setAll, List.getElem?_cons_zero, List.getElem?_cons_succ, List.set_cons_zero, List.set_cons_succ, List.length_cons, List.length_nil, List.map_cons, List.map_nil, List.cons_append, List.nil_append, List.append_nil, List.flatten_cons, List.flatten_nil, List.replicate_succ, List.replicate_zero, List.getElem?_nil, List.set_nil, List.all_cons, List.all_nil, List.filter_cons, List.filter_nil, List.length_set, List.isEmpty_nil, List.isEmpty_cons, List.foldl_cons, List.foldl_nil, List.append_assoc, List.contains_cons, List.zip_cons_cons, List.zip_nil_left, List.zip_nil_right, if_true, if_false, if_pos rfl, ite_true, ite_false, Bool.true_or, Bool.or_true, Bool.false_or, Bool.or_false, Bool.and_true, Bool.true_and, Bool.false_and, Bool.and_false, Bool.not_true, Bool.not_false, decide_true, decide_false, Bool.true_eq_false, Bool.false_eq_true, reduceIte, reduceCtorEq, Nat.reduceAdd, Nat.reduceSub, Nat.reduceLT, Nat.reduceLeDiff, Nat.reduceEqDiff, Nat.zero_lt_succ, Nat.reduceBEq, BEq.rfl, beq_self_eq_true, Nat.lt_add_one, and_self, and_true, true_and, Nat.zero_add, Nat.add_zero, Nat.add_one_sub_one, Nat.sub_self, Nat.sub_zero, decide_eq_true_eq, Nat.zero_le, Nat.add_zero, Nat.le_refl, b_add, b_sub, c_lt, c_le, c_gt, c_ge, c_eqI, c_neI, c_isNN, c_isIN, c_noNN, c_noIN, o_lenL, o_lenS, o_lenT, o_abs, o_listL, o_listT, o_intI, o_intB, o_max2, o_min2, neg_I] <;> rfl) rfl hfor).trans ?_
  refine exs_rt (by simp only [runF, exs, ex, evT, ev, evs, evB, evP, evC, evI, blOf, sc, Option.bind_some, Option.bind_none, Option.map_some, Option.map_none, bindT, Fl.al, Fl.el, Fl.ow, Fl.rt, Fl.at, tpAt, movOw, als, retF, D.cl, D.cl1, D.hasL, D.hasLs, retO, retOs, cnt, Env.drp, Env.lock, Env.unlock, Out.unlock, setAll, List.getElem?_cons_zero, List.getElem?_cons_succ, List.set_cons_zero, List.set_cons_succ, List.length_cons, List.length_nil, List.map_cons, List.map_nil, List.cons_append, List.nil_append, List.append_nil, List.flatten_cons, List.flatten_nil, List.replicate_succ, List.replicate_zero, List.getElem?_nil, List.set_nil, List.all_cons, List.all_nil, List.filter_cons, List.filter_nil, List.length_set, List.isEmpty_nil, List.isEmpty_cons, List.foldl_cons, List.foldl_nil, List.append_assoc, List.contains_cons, List.zip_cons_cons, List.zip_nil_left, List.zip_nil_right, if_true, if_false, if_pos rfl, ite_true, ite_false, Bool.true_or, Bool.or_true, Bool.false_or, Bool.or_false, Bool.and_true, Bool.true_and, Bool.false_and, Bool.and_false, Bool.not_true, Bool.not_false, decide_true, decide_false, Bool.true_eq_false, Bool.false_eq_true, reduceIte, reduceCtorEq, Nat.reduceAdd, Nat.reduceSub, Nat.reduceLT, Nat.reduceLeDiff, Nat.reduceEqDiff, Nat.zero_lt_succ, Nat.reduceBEq, BEq.rfl, beq_self_eq_true, Nat.lt_add_one, and_self, and_true, true_and, Nat.zero_add, Nat.add_zero, Nat.add_one_sub_one, Nat.sub_self, Nat.sub_zero, decide_eq_true_eq, Nat.zero_le, Nat.add_zero, Nat.le_refl, b_add, b_sub, c_lt, c_le, c_gt, c_ge, c_eqI, c_neI, c_isNN, c_isIN, c_noNN, c_noIN, o_lenL, o_lenS, o_lenT, o_abs, o_listL, o_listT, o_intI, o_intB, o_max2, o_min2, neg_I] <;> rfl)
theorem heard43 (G : Orc) (n : Nat) (ps : List Path) (last : Nat) (rs : List Run) (sg : List Sgn) (h t : Nat) {es : List Int} {fs : List (Option Run)}
    (hc : G.call 42 [encNet n ps, encTale last rs sg, spot h t] = some (.tup [.lst (es.map D.int), .lst (fs.map encOR)], .tp [.top, .top])) :
    runF G F43 [encNet n ps, encTale last rs sg, spot h t] = some (.lst (es.map D.int), .top) := by
  have i0 : ∀ f, idxop (.tup [.lst (es.map D.int), .lst (fs.map encOR)], f) (.int 0) = some (.lst (es.map D.int), f.at 0) := fun f => rfl
  refine runF_rt [some (encNet n ps, .no), some (encTale last rs sg, .no), some (spot h t, .no)] rfl rfl ?_
  refine exs_rt (by simp only [hc, i0, runF, exs, ex, evT, ev, evs, evB, evP, evC, evI, blOf, sc, Option.bind_some, Option.bind_none, Option.map_some, Option.map_none, bindT, Fl.al, Fl.el, Fl.ow, Fl.rt, Fl.at, tpAt, movOw, als, retF, D.cl, D.cl1, D.hasL, D.hasLs, retO, retOs, cnt, Env.drp, Env.lock, Env.unlock, Out.unlock, setAll, List.getElem?_cons_zero, List.getElem?_cons_succ, List.set_cons_zero, List.set_cons_succ, List.length_cons, List.length_nil, List.map_cons, List.map_nil, List.cons_append, List.nil_append, List.append_nil, List.flatten_cons, List.flatten_nil, List.replicate_succ, List.replicate_zero, List.getElem?_nil, List.set_nil, List.all_cons, List.all_nil, List.filter_cons, List.filter_nil, List.length_set, List.isEmpty_nil, List.isEmpty_cons, List.foldl_cons, List.foldl_nil, List.append_assoc, List.contains_cons, List.zip_cons_cons, List.zip_nil_left, List.zip_nil_right, if_true, if_false, if_pos rfl, ite_true, ite_false, Bool.true_or, Bool.or_true, Bool.false_or, Bool.or_false, Bool.and_true, Bool.true_and, Bool.false_and, Bool.and_false, Bool.not_true, Bool.not_false, decide_true, decide_false, Bool.true_eq_false, Bool.false_eq_true, reduceIte, reduceCtorEq, Nat.reduceAdd, Nat.reduceSub, Nat.reduceLT, Nat.reduceLeDiff, Nat.reduceEqDiff, Nat.zero_lt_succ, Nat.reduceBEq, BEq.rfl, beq_self_eq_true, Nat.lt_add_one, and_self, and_true, true_and, Nat.zero_add, Nat.add_zero, Nat.add_one_sub_one, Nat.sub_self, Nat.sub_zero, decide_eq_true_eq, Nat.zero_le, Nat.add_zero, Nat.le_refl, b_add, b_sub, c_lt, c_le, c_gt, c_ge, c_eqI, c_neI, c_isNN, c_isIN, c_noNN, c_noIN, o_lenL, o_lenS, o_lenT, o_abs, o_listL, o_listT, o_intI, o_intB, o_max2, o_min2, neg_I] <;> rfl)
end Ix
set_option Elab.async false
set_option linter.all false
set_option maxRecDepth 100000
set_option maxHeartbeats 4000000
namespace Ix
open PySem PySem.Spec PyProof.Rows L2

theorem Hear.trans' {rs : List Run} {y u x v z w : Nat} (H : Hear rs x v z w) (K : Hear rs y u x v) : Hear rs y u z w := by
  induction H with
  | self hu => exact K.mono hu
  | run h1 h2 h3 ih => exact .run h1 h2 ih
/-- sure times are kept -/
theorem sure_kept {n : Nat} {ps : List Path} {last : Nat} {rs : List Run} (N : NetOk n ps) (R : RsOk ps last rs) {h v w u : Nat} (W : Wk ps h v w) (hl : u + w ≤ last) : Hear rs v (u + w) h u := by
  induction W with
  | nil => exact .self (Nat.le_refl _)
  | @step y z w m W hp ih =>
    have ih := ih (by omega)
    obtain ⟨c, hc⟩ := R.due y z m (u + w) hp (by omega)
    obtain ⟨⟨mo, h1, h2⟩, h3, h4⟩ := R.at_ _ hc
    simp only at h1 h2 h3 h4
    have hmo : mo = some (m : Int) := by
      obtain ⟨a, ha, e1⟩ := List.getElem_of_mem hp
      obtain ⟨b, hb, e2⟩ := List.getElem_of_mem h1
      have k1 : ps[a]? = some (y, z, some (m : Int)) := by rw [List.getElem?_eq_getElem ha, e1]
      have k2 : ps[b]? = some (y, z, mo) := by rw [List.getElem?_eq_getElem hb, e2]
      have := N.idx k1 k2
      subst this
      rw [k1] at k2
      simp only [Option.some.injEq, Prod.mk.injEq, true_and] at k2
      exact k2.symm
    have := h2 m hmo
    exact Hear.trans' ih (.run hc (Nat.le_refl _) (.self (by omega)))
theorem law51 (G : Orc) (ns : List Int) (n : Nat) (ps : List Path) (last : Nat) (rs : List Run) (sg : List Sgn) (N : NetOk n ps) (T : TaleOk n ps last rs sg)
    (h27 : G.call 27 [.scr ns] = some (encNet n ps, .tp [.no, .top])) (h29 : G.call 29 [.scr ns, encNet n ps] = some (encTale last rs sg, .tp [.no, .top, .top]))
    (h6 : ∀ h, h < n → ∃ cs, G.call 6 [encNet n ps, .int h] = some (.lst (cs.map encN), .top) ∧ Sure n h ps cs)
    (h43 : ∀ h t : Nat, h < n → t ≤ last → ∃ es fs, G.call 43 [encNet n ps, encTale last rs sg, spot h t] = some (.lst (es.map D.int), .top) ∧ Ends n rs h t es fs) :
    ∃ o, runF G F51 [.scr ns] = some (.bl true, o) := by
  have hlo := N.lo
  have hhi := N.hi
  have hl := T.hi
  have hr := okR_of (i := n) (by omega) (by omega)
  have htale : D.tup [.int last, .lst (rs.map encR), .lst (sg.map encS)] = encTale last rs sg := rfl
  have hclr := (encR_pu rs).2.2
  have hcls := (encS_pu sg fun s hs => (T.sg_.at_ s hs).2.2).2.2
  obtain ⟨e', hfor, x3, x4, x5, x6, he⟩ := forL_inv (f := fun _ e => exs G e (.cons (.set 4 (.call 6 (.cons (.var 1) (.cons (.var 3) .nil)))) (.cons (.ifs (.bop false (.cmp .NotEq (.idx (.var 4) (.var 3)) (.int 0)) (.cons (.cmp .NotEq (.b1 .len (.var 4)) (.idx (.var 1) (.int 0))) .nil)) (.cons (.ret (.bl false)) .nil) .nil) (.cons (.for_ (.one 5) (.rng1 (.idx (.var 1) (.int 0))) (.cons (.ifs (.cmp .Is (.idx (.var 4) (.var 5)) .non) (.cons .cont .nil) .nil) (.cons (.for_ (.one 6) (.rng1 (.bin .Add (.bin .Sub (.idx (.var 2) (.int 0)) (.idx (.var 4) (.var 5))) (.int 1))) (.cons (.ifs (.cmp .Lt (.idx (.call 43 (.cons (.var 1) (.cons (.var 2) (.cons (.tup (.cons (.var 5) (.cons (.bin .Add (.var 6) (.idx (.var 4) (.var 5))) .nil))) .nil)))) (.var 3)) (.var 6)) (.cons (.ret (.bl false)) .nil) .nil) .nil)) .nil))) .nil)))) (tg := .one 3)
    (fun i e => ∃ x3 x4 x5 x6 : Option (D × Ow), e = [some (.scr ns, .no), some (encNet n ps, .tp [.no, .top]), some (encTale last rs sg, .tp [.no, .top, .top]), x3, x4, x5, x6])
    (ds := (List.range ((n : Int)).toNat).map fun k : Nat => D.int k) (env := [some (.scr ns, .no), some (encNet n ps, .tp [.no, .top]), some (encTale last rs sg, .tp [.no, .top, .top]), none, none, none, none]) 0 ⟨none, none, none, none, rfl⟩ (by
      rintro i d e hd ⟨x3, x4, x5, x6, rfl⟩
      rw [List.getElem?_map] at hd
      obtain ⟨k, hk, rfl⟩ := Option.map_eq_some_iff.mp hd
      obtain ⟨hk1, hk2⟩ := List.getElem?_eq_some_iff.mp hk
      rw [List.getElem_range] at hk2
      rw [List.length_range] at hk1
      subst hk2
      have hin : i < n := by omega
      obtain ⟨cs, hcs, W⟩ := h6 i hin
      have hcl := (encN_pu cs).2.2
      have hz : At cs i 0 := (W.at_ i 0).mpr ⟨hin, .self⟩
      have ii := fun f => i_lst (f := f) (ds := cs.map encN) (k := i) (d := .int (0 : Nat)) (by rw [List.getElem?_map, hz]; rfl)
      have e00 : (((0 : Nat) : Int) = 0) := rfl
      rw [e00] at ii
      have hlen : ((cs.map encN).length : Int) = n := by rw [List.length_map, W.len]
      obtain ⟨e', hfor, x5, x6, he⟩ := forL_inv (f := fun _ e => exs G e (.cons (.ifs (.cmp .Is (.idx (.var 4) (.var 5)) .non) (.cons .cont .nil) .nil) (.cons (.for_ (.one 6) (.rng1 (.bin .Add (.bin .Sub (.idx (.var 2) (.int 0)) (.idx (.var 4) (.var 5))) (.int 1))) (.cons (.ifs (.cmp .Lt (.idx (.call 43 (.cons (.var 1) (.cons (.var 2) (.cons (.tup (.cons (.var 5) (.cons (.bin .Add (.var 6) (.idx (.var 4) (.var 5))) .nil))) .nil)))) (.var 3)) (.var 6)) (.cons (.ret (.bl false)) .nil) .nil) .nil)) .nil))) (tg := .one 5)
        (fun j e => ∃ x5 x6 : Option (D × Ow), e = [some (.scr ns, .no), some (encNet n ps, .tp [.no, .top]), some (encTale last rs sg, .tp [.no, .top, .top]), some (.int i, .no), some (.lst (cs.map encN), .top), x5, x6])
        (ds := (List.range ((n : Int)).toNat).map fun k : Nat => D.int k) (env := [some (.scr ns, .no), some (encNet n ps, .tp [.no, .top]), some (encTale last rs sg, .tp [.no, .top, .top]), some (.int i, .no), some (.lst (cs.map encN), .top), x5, x6]) 0 ⟨x5, x6, rfl⟩ (by
          rintro j d e hd ⟨x5, x6, rfl⟩
          rw [List.getElem?_map] at hd
          obtain ⟨k, hk, rfl⟩ := Option.map_eq_some_iff.mp hd
          obtain ⟨hk1, hk2⟩ := List.getElem?_eq_some_iff.mp hk
          rw [List.getElem_range] at hk2
          rw [List.length_range] at hk1
          subst hk2
          have hjn : j < n := by omega
          have hjl : j < cs.length := by rw [W.len]; exact hjn
          have ij := fun f => i_lst (f := f) (ds := cs.map encN) (k := j) (d := encN cs[j]) (by rw [List.getElem?_map, List.getElem?_eq_getElem hjl]; rfl)
          cases hcj : cs[j] with
          | none =>
            rw [hcj] at ij
            exact ⟨_, _, by simp only [runF, exs, ex, evT, ev, evs, evB, evP, evC, evI, blOf, sc, Option.bind_some, Option.bind_none, Option.map_some, Option.map_none, bindT, Fl.al, Fl.el, Fl.ow, Fl.rt, Fl.at, tpAt, movOw, als, retF, D.cl, D.cl1, D.hasL, D.hasLs, retO, retOs, cnt, Env.drp, Env.lock, Env.unlock, Out.unlock, setAll, List.getElem?_cons_zero, List.getElem?_cons_succ, List.set_cons_zero, List.set_cons_succ, List.length_cons, List.length_nil, List.map_cons, List.map_nil, List.cons_append, List.nil_append, List.append_nil, List.flatten_cons, List.flatten_nil, List.replicate_succ, List.replicate_zero, List.getElem?_nil, List.set_nil, List.all_cons, List.all_nil, List.filter_cons, List.filter_nil, List.length_set, List.isEmpty_nil, List.isEmpty_cons, List.foldl_cons, List.foldl_nil, List.append_assoc, List.contains_cons, List.zip_cons_cons, List.zip_nil_left, List.zip_nil_right, if_true, if_false, if_pos rfl, ite_true, ite_false, Bool.true_or, Bool.or_true, Bool.false_or, Bool.or_false, Bool.and_true, Bool.true_and, Bool.false_and, Bool.and_false, Bool.not_true, Bool.not_false, decide_true, decide_false, Bool.true_eq_false, Bool.false_eq_true, reduceIte, reduceCtorEq, Nat.reduceAdd, Nat.reduceSub, Nat.reduceLT, Nat.reduceLeDiff, Nat.reduceEqDiff, Nat.zero_lt_succ, Nat.reduceBEq, BEq.rfl, beq_self_eq_true, Nat.lt_add_one, and_self, and_true, true_and, Nat.zero_add, Nat.add_zero, Nat.add_one_sub_one, Nat.sub_self, Nat.sub_zero, decide_eq_true_eq, Nat.zero_le, Nat.add_zero, Nat.le_refl, b_add, b_sub, c_lt, c_le, c_gt, c_ge, c_eqI, c_neI, c_isNN, c_isIN, c_noNN, c_noIN, o_lenL, o_lenS, o_lenT, o_abs, o_listL, o_listT, o_intI, o_intB, o_max2, o_min2, neg_I] <;> rfl, .inr (exs_tc (by simp only [ij, c_isN, Option.isNone_none, runF, exs, ex, evT, ev, evs, evB, evP, evC, evI, blOf, sc, Option.bind_some, Option.bind_none, Option.map_some, Option.map_none, bindT, Fl.al, Fl.el, Fl.ow, Fl.rt, Fl.at, tpAt, movOw, als, retF, D.cl, D.cl1, D.hasL, D.hasLs, retO, retOs, cnt, Env.drp, Env.lock, Env.unlock, Out.unlock, setAll, List.getElem?_cons_zero, List.getElem?_cons_succ, List.set_cons_zero, List.set_cons_succ, List.length_cons, List.length_nil, List.map_cons, List.map_nil, List.cons_append, List.nil_append, List.append_nil, List.flatten_cons, List.flatten_nil, List.replicate_succ, List.replicate_zero, List.getElem?_nil, List.set_nil, List.all_cons, List.all_nil, List.filter_cons, List.filter_nil, List.length_set, List.isEmpty_nil, List.isEmpty_cons, List.foldl_cons, List.foldl_nil, List.append_assoc, List.contains_cons, List.zip_cons_cons, List.zip_nil_left, List.zip_nil_right, if_true, if_false, if_pos rfl, ite_true, ite_false, Bool.true_or, Bool.or_true, Bool.false_or, Bool.or_false, Bool.and_true, Bool.true_and, Bool.false_and, Bool.and_false, Bool.not_true, Bool.not_false, decide_true, decide_false, Bool.true_eq_false, Bool.false_eq_true, reduceIte, reduceCtorEq, Nat.reduceAdd, Nat.reduceSub, Nat.reduceLT, Nat.reduceLeDiff, Nat.reduceEqDiff, Nat.zero_lt_succ, Nat.reduceBEq, BEq.rfl, beq_self_eq_true, Nat.lt_add_one, and_self, and_true, true_and, Nat.zero_add, Nat.add_zero, Nat.add_one_sub_one, Nat.sub_self, Nat.sub_zero, decide_eq_true_eq, Nat.zero_le, Nat.add_zero, Nat.le_refl, b_add, b_sub, c_lt, c_le, c_gt, c_ge, c_eqI, c_neI, c_isNN, c_isIN, c_noNN, c_noIN, o_lenL, o_lenS, o_lenT, o_abs, o_listL, o_listT, o_intI, o_intB, o_max2, o_min2, neg_I] <;> rfl) (by simp only [runF, exs, ex, evT, ev, evs, evB, evP, evC, evI, blOf, sc, Option.bind_some, Option.bind_none, Option.map_some, Option.map_none, bindT, Fl.al, Fl.el, Fl.ow, Fl.rt, Fl.at, tpAt, movOw, als, retF, D.cl, D.cl1, D.hasL, D.hasLs, retO, retOs, cnt, Env.drp, Env.lock, Env.unlock, Out.unlock, setAll, List.getElem?_cons_zero, List.getElem?_cons_succ, List.set_cons_zero, List.set_cons_succ, List.length_cons, List.length_nil, List.map_cons, List.map_nil, List.cons_append, List.nil_append, List.append_nil, List.flatten_cons, List.flatten_nil, List.replicate_succ, List.replicate_zero, List.getElem?_nil, List.set_nil, List.all_cons, List.all_nil, List.filter_cons, List.filter_nil, List.length_set, List.isEmpty_nil, List.isEmpty_cons, List.foldl_cons, List.foldl_nil, List.append_assoc, List.contains_cons, List.zip_cons_cons, List.zip_nil_left, List.zip_nil_right, if_true, if_false, if_pos rfl, ite_true, ite_false, Bool.true_or, Bool.or_true, Bool.false_or, Bool.or_false, Bool.and_true, Bool.true_and, Bool.false_and, Bool.and_false, Bool.not_true, Bool.not_false, decide_true, decide_false, Bool.true_eq_false, Bool.false_eq_true, reduceIte, reduceCtorEq, Nat.reduceAdd, Nat.reduceSub, Nat.reduceLT, Nat.reduceLeDiff, Nat.reduceEqDiff, Nat.zero_lt_succ, Nat.reduceBEq, BEq.rfl, beq_self_eq_true, Nat.lt_add_one, and_self, and_true, true_and, Nat.zero_add, Nat.add_zero, Nat.add_one_sub_one, Nat.sub_self, Nat.sub_zero, decide_eq_true_eq, Nat.zero_le, Nat.add_zero, Nat.le_refl, b_add, b_sub, c_lt, c_le, c_gt, c_ge, c_eqI, c_neI, c_isNN, c_isIN, c_noNN, c_noIN, o_lenL, o_lenS, o_lenT, o_abs, o_listL, o_listT, o_intI, o_intB, o_max2, o_min2, neg_I] <;> rfl)), some (.int j, .no), x6, rfl⟩
          | some c =>
            rw [hcj] at ij
            have hc : At cs j c := by unfold At; rw [List.getElem?_eq_getElem hjl, hcj]
            have Dj := ((W.at_ j c).mp hc).2
            by_cases hlc : c ≤ last
            · have e1 : ((last : Int) - c + 1) = ((last - c + 1 : Nat) : Int) := by omega
              have hr2 := okR_of (i := ((last - c + 1 : Nat) : Int)) (by omega) (by omega)
              obtain ⟨e', hfor, x6, he⟩ := forL_inv (f := fun _ e => exs G e (.cons (.ifs (.cmp .Lt (.idx (.call 43 (.cons (.var 1) (.cons (.var 2) (.cons (.tup (.cons (.var 5) (.cons (.bin .Add (.var 6) (.idx (.var 4) (.var 5))) .nil))) .nil)))) (.var 3)) (.var 6)) (.cons (.ret (.bl false)) .nil) .nil) .nil)) (tg := .one 6)
                (fun u e => ∃ x6 : Option (D × Ow), e = [some (.scr ns, .no), some (encNet n ps, .tp [.no, .top]), some (encTale last rs sg, .tp [.no, .top, .top]), some (.int i, .no), some (.lst (cs.map encN), .top), some (.int j, .no), x6])
                (ds := (List.range ((last - c + 1 : Nat) : Int).toNat).map fun k : Nat => D.int k) (env := [some (.scr ns, .no), some (encNet n ps, .tp [.no, .top]), some (encTale last rs sg, .tp [.no, .top, .top]), some (.int i, .no), some (.lst (cs.map encN), .top), some (.int j, .no), x6]) 0 ⟨x6, rfl⟩ (by
                  rintro u d e hd ⟨x6, rfl⟩
                  rw [List.getElem?_map] at hd
                  obtain ⟨k, hk, rfl⟩ := Option.map_eq_some_iff.mp hd
                  obtain ⟨hk1, hk2⟩ := List.getElem?_eq_some_iff.mp hk
                  rw [List.getElem_range] at hk2
                  rw [List.length_range] at hk1
                  subst hk2
                  have hul : u + c ≤ last := by omega
                  obtain ⟨es, fs, hes, E⟩ := h43 j (u + c) hjn hul
                  have e3 : ((u : Int) + c) = ((u + c : Nat) : Int) := by omega
                  have hes' : G.call 43 [encNet n ps, encTale last rs sg, .tup [.int j, .int (u + c : Nat)]] = some (.lst (es.map D.int), .top) := hes
                  have hcl3 := ints_hasL es
                  have ie := fun f => i_lst (f := f) (ds := es.map D.int) (k := i) (d := .int (gt es i)) (by rw [List.getElem?_map, gt_at (by rw [E.len]; exact hin)]; rfl)
                  have hge : ¬ gt es i < u := by
                    have := (E.hear i u hin).mp (sure_kept N T.rs_ Dj.1 hul)
                    omega
                  refine ⟨_, _, by simp only [runF, exs, ex, evT, ev, evs, evB, evP, evC, evI, blOf, sc, Option.bind_some, Option.bind_none, Option.map_some, Option.map_none, bindT, Fl.al, Fl.el, Fl.ow, Fl.rt, Fl.at, tpAt, movOw, als, retF, D.cl, D.cl1, D.hasL, D.hasLs, retO, retOs, cnt, Env.drp, Env.lock, Env.unlock, Out.unlock, setAll, List.getElem?_cons_zero, List.getElem?_cons_succ, List.set_cons_zero, List.set_cons_succ, List.length_cons, List.length_nil, List.map_cons, List.map_nil, List.cons_append, List.nil_append, List.append_nil, List.flatten_cons, List.flatten_nil, List.replicate_succ, List.replicate_zero, List.getElem?_nil, List.set_nil, List.all_cons, List.all_nil, List.filter_cons, List.filter_nil, List.length_set, List.isEmpty_nil, List.isEmpty_cons, List.foldl_cons, List.foldl_nil, List.append_assoc, List.contains_cons, List.zip_cons_cons, List.zip_nil_left, List.zip_nil_right, if_true, if_false, if_pos rfl, ite_true, ite_false, Bool.true_or, Bool.or_true, Bool.false_or, Bool.or_false, Bool.and_true, Bool.true_and, Bool.false_and, Bool.and_false, Bool.not_true, Bool.not_false, decide_true, decide_false, Bool.true_eq_false, Bool.false_eq_true, reduceIte, reduceCtorEq, Nat.reduceAdd, Nat.reduceSub, Nat.reduceLT, Nat.reduceLeDiff, Nat.reduceEqDiff, Nat.zero_lt_succ, Nat.reduceBEq, BEq.rfl, beq_self_eq_true, Nat.lt_add_one, and_self, and_true, true_and, Nat.zero_add, Nat.add_zero, Nat.add_one_sub_one, Nat.sub_self, Nat.sub_zero, decide_eq_true_eq, Nat.zero_le, Nat.add_zero, Nat.le_refl, b_add, b_sub, c_lt, c_le, c_gt, c_ge, c_eqI, c_neI, c_isNN, c_isIN, c_noNN, c_noIN, o_lenL, o_lenS, o_lenT, o_abs, o_listL, o_listT, o_intI, o_intB, o_max2, o_min2, neg_I] <;> rfl, .inl ?_, some (.int u, .no), rfl⟩
                  refine (exs_f (by simp only [ij, encN, e3, hes', hcl3, ie, hge, runF, exs, ex, evT, ev, evs, evB, evP, evC, evI, blOf, sc, Option.bind_some, Option.bind_none, Option.map_some, Option.map_none, bindT, Fl.al, Fl.el, Fl.ow, Fl.rt, Fl.at, tpAt, movOw, als, retF, D.cl, D.cl1, D.hasL, D.hasLs, retO, retOs, cnt, Env.drp, Env.lock, Env.unlock, Out.unlock, setAll, List.getElem?_cons_zero, List.getElem?_cons_succ, List.set_cons_zero, List.set_cons_succ, List.length_cons, List.length_nil, List.map_cons, List.map_nil, List.cons_append, List.nil_append, List.append_nil, List.flatten_cons, List.flatten_nil, List.replicate_succ, List.replicate_zero, List.getElem?_nil, List.set_nil, List.all_cons, List.all_nil, List.filter_cons, List.filter_nil, List.length_set, List.isEmpty_nil, List.isEmpty_cons, List.foldl_cons, List.foldl_nil, List.append_assoc, List.contains_cons, List.zip_cons_cons, List.zip_nil_left, List.zip_nil_right, if_true, if_false, if_pos rfl, ite_true, ite_false, Bool.true_or, Bool.or_true, Bool.false_or, Bool.or_false, Bool.and_true, Bool.true_and, Bool.false_and, Bool.and_false, Bool.not_true, Bool.not_false, decide_true, decide_false, Bool.true_eq_false, Bool.false_eq_true, reduceIte, reduceCtorEq, Nat.reduceAdd, Nat.reduceSub, Nat.reduceLT, Nat.reduceLeDiff, Nat.reduceEqDiff, Nat.zero_lt_succ, Nat.reduceBEq, BEq.rfl, beq_self_eq_true, Nat.lt_add_one, and_self, and_true, true_and, Nat.zero_add, Nat.add_zero, Nat.add_one_sub_one, Nat.sub_self, Nat.sub_zero, decide_eq_true_eq, Nat.zero_le, Nat.add_zero, Nat.le_refl, b_add, b_sub, c_lt, c_le, c_gt, c_ge, c_eqI, c_neI, c_isNN, c_isIN, c_noNN, c_noIN, o_lenL, o_lenS, o_lenT, o_abs, o_listL, o_listT, o_intI, o_intB, o_max2, o_min2, neg_I] <;> rfl) rfl).trans ?_
                  simp only [exs])
              subst he
              refine ⟨_, _, by simp only [runF, exs, ex, evT, ev, evs, evB, evP, evC, evI, blOf, sc, Option.bind_some, Option.bind_none, Option.map_some, Option.map_none, bindT, Fl.al, Fl.el, Fl.ow, Fl.rt, Fl.at, tpAt, movOw, als, retF, D.cl, D.cl1, D.hasL, D.hasLs, retO, retOs, cnt, Env.drp, Env.lock, Env.unlock, Out.unlock, setAll, List.getElem?_cons_zero, List.getElem?_cons_succ, List.set_cons_zero, List.set_cons_succ, List.length_cons, List.length_nil, List.map_cons, List.map_nil, List.cons_append, List.nil_append, List.append_nil, List.flatten_cons, List.flatten_nil, List.replicate_succ, List.replicate_zero, List.getElem?_nil, List.set_nil, List.all_cons, List.all_nil, List.filter_cons, List.filter_nil, List.length_set, List.isEmpty_nil, List.isEmpty_cons, List.foldl_cons, List.foldl_nil, List.append_assoc, List.contains_cons, List.zip_cons_cons, List.zip_nil_left, List.zip_nil_right, if_true, if_false, if_pos rfl, ite_true, ite_false, Bool.true_or, Bool.or_true, Bool.false_or, Bool.or_false, Bool.and_true, Bool.true_and, Bool.false_and, Bool.and_false, Bool.not_true, Bool.not_false, decide_true, decide_false, Bool.true_eq_false, Bool.false_eq_true, reduceIte, reduceCtorEq, Nat.reduceAdd, Nat.reduceSub, Nat.reduceLT, Nat.reduceLeDiff, Nat.reduceEqDiff, Nat.zero_lt_succ, Nat.reduceBEq, BEq.rfl, beq_self_eq_true, Nat.lt_add_one, and_self, and_true, true_and, Nat.zero_add, Nat.add_zero, Nat.add_one_sub_one, Nat.sub_self, Nat.sub_zero, decide_eq_true_eq, Nat.zero_le, Nat.add_zero, Nat.le_refl, b_add, b_sub, c_lt, c_le, c_gt, c_ge, c_eqI, c_neI, c_isNN, c_isIN, c_noNN, c_noIN, o_lenL, o_lenS, o_lenT, o_abs, o_listL, o_listT, o_intI, o_intB, o_max2, o_min2, neg_I] <;> rfl, .inl ?_, some (.int j, .no), x6, rfl⟩
              refine (exs_f (by simp only [ij, c_isN, Option.isNone_some, runF, exs, ex, evT, ev, evs, evB, evP, evC, evI, blOf, sc, Option.bind_some, Option.bind_none, Option.map_some, Option.map_none, bindT, Fl.al, Fl.el, Fl.ow, Fl.rt, Fl.at, tpAt, movOw, als, retF, D.cl, D.cl1, D.hasL, D.hasLs, retO, retOs, cnt, Env.drp, Env.lock, Env.unlock, Out.unlock, setAll, List.getElem?_cons_zero, List.getElem?_cons_succ, List.set_cons_zero, List.set_cons_succ, List.length_cons, List.length_nil, List.map_cons, List.map_nil, List.cons_append, List.nil_append, List.append_nil, List.flatten_cons, List.flatten_nil, List.replicate_succ, List.replicate_zero, List.getElem?_nil, List.set_nil, List.all_cons, List.all_nil, List.filter_cons, List.filter_nil, List.length_set, List.isEmpty_nil, List.isEmpty_cons, List.foldl_cons, List.foldl_nil, List.append_assoc, List.contains_cons, List.zip_cons_cons, List.zip_nil_left, List.zip_nil_right, if_true, if_false, if_pos rfl, ite_true, ite_false, Bool.true_or, Bool.or_true, Bool.false_or, Bool.or_false, Bool.and_true, Bool.true_and, Bool.false_and, Bool.and_false, Bool.not_true, Bool.not_false, decide_true, decide_false, Bool.true_eq_false, Bool.false_eq_true, reduceIte, reduceCtorEq, Nat.reduceAdd, Nat.reduceSub, Nat.reduceLT, Nat.reduceLeDiff, Nat.reduceEqDiff, Nat.zero_lt_succ, Nat.reduceBEq, BEq.rfl, beq_self_eq_true, Nat.lt_add_one, and_self, and_true, true_and, Nat.zero_add, Nat.add_zero, Nat.add_one_sub_one, Nat.sub_self, Nat.sub_zero, decide_eq_true_eq, Nat.zero_le, Nat.add_zero, Nat.le_refl, b_add, b_sub, c_lt, c_le, c_gt, c_ge, c_eqI, c_neI, c_isNN, c_isIN, c_noNN, c_noIN, o_lenL, o_lenS, o_lenT, o_abs, o_listL, o_listT, o_intI, o_intB, o_max2, o_min2, neg_I] <;> rfl) rfl).trans ?_
              refine (exs_for (p := ((List.range ((last - c + 1 : Nat) : Int).toNat).map fun k : Nat => D.int k, [], [])) (by simp only [i_t0, ij, encN, e1, hr2, runF, exs, ex, evT, ev, evs, evB, evP, evC, evI, blOf, sc, Option.bind_some, Option.bind_none, Option.map_some, Option.map_none, bindT, Fl.al, Fl.el, Fl.ow, Fl.rt, Fl.at, tpAt, movOw, als, retF, D.cl, D.cl1, D.hasL, D.hasLs, retO, retOs, cnt, Env.drp, Env.lock, Env.unlock, Out.unlock, setAll, List.getElem?_cons_zero, List.getElem?_cons_succ, List.set_cons_zero, List.set_cons_succ, List.length_cons, List.length_nil, List.map_cons, List.map_nil, List.cons_append, List.nil_append, List.append_nil, List.flatten_cons, List.flatten_nil, List.replicate_succ, List.replicate_zero, List.getElem?_nil, List.set_nil, List.all_cons, List.all_nil, List.filter_cons, List.filter_nil, List.length_set, List.isEmpty_nil, List.isEmpty_cons, List.foldl_cons, List.foldl_nil, List.append_assoc, List.contains_cons, List.zip_cons_cons, List.zip_nil_left, List.zip_nil_right, if_true, if_false, if_pos rfl, ite_true, ite_false, Bool.true_or, Bool.or_true, Bool.false_or, Bool.or_false, Bool.and_true, Bool.true_and, Bool.false_and, Bool.and_false, Bool.not_true, Bool.not_false, decide_true, decide_false, Bool.true_eq_false, Bool.false_eq_true, reduceIte, reduceCtorEq, Nat.reduceAdd, Nat.reduceSub, Nat.reduceLT, Nat.reduceLeDiff, Nat.reduceEqDiff, Nat.zero_lt_succ, Nat.reduceBEq, BEq.rfl, beq_self_eq_true, Nat.lt_add_one, and_self, and_true, true_and, Nat.zero_add, Nat.add_zero, Nat.add_one_sub_one, Nat.sub_self, Nat.sub_zero, decide_eq_true_eq, Nat.zero_le, Nat.add_zero, Nat.le_refl, b_add, b_sub, c_lt, c_le, c_gt, c_ge, c_eqI, c_neI, c_isNN, c_isIN, c_noNN, c_noIN, o_lenL, o_lenS, o_lenT, o_abs, o_listL, o_listT, o_intI, o_intB, o_max2, o_min2, neg_I] <;> rfl) rfl hfor).trans ?_
              simp only [exs]
              rfl
            · refine ⟨_, _, by simp only [runF, exs, ex, evT, ev, evs, evB, evP, evC, evI, blOf, sc, Option.bind_some, Option.bind_none, Option.map_some, Option.map_none, bindT, Fl.al, Fl.el, Fl.ow, Fl.rt, Fl.at, tpAt, movOw, als, retF, D.cl, D.cl1, D.hasL, D.hasLs, retO, retOs, cnt, Env.drp, Env.lock, Env.unlock, Out.unlock, setAll, List.getElem?_cons_zero, List.getElem?_cons_succ, List.set_cons_zero, List.set_cons_succ, List.length_cons, List.length_nil, List.map_cons, List.map_nil, List.cons_append, List.nil_append, List.append_nil, List.flatten_cons, List.flatten_nil, List.replicate_succ, List.replicate_zero, List.getElem?_nil, List.set_nil, List.all_cons, List.all_nil, List.filter_cons, List.filter_nil, List.length_set, List.isEmpty_nil, List.isEmpty_cons, List.foldl_cons, List.foldl_nil, List.append_assoc, List.contains_cons, List.zip_cons_cons, List.zip_nil_left, List.zip_nil_right, if_true, if_false, if_pos rfl, ite_true, ite_false, Bool.true_or, Bool.or_true, Bool.false_or, Bool.or_false, Bool.and_true, Bool.true_and, Bool.false_and, Bool.and_false, Bool.not_true, Bool.not_false, decide_true, decide_false, Bool.true_eq_false, Bool.false_eq_true, reduceIte, reduceCtorEq, Nat.reduceAdd, Nat.reduceSub, Nat.reduceLT, Nat.reduceLeDiff, Nat.reduceEqDiff, Nat.zero_lt_succ, Nat.reduceBEq, BEq.rfl, beq_self_eq_true, Nat.lt_add_one, and_self, and_true, true_and, Nat.zero_add, Nat.add_zero, Nat.add_one_sub_one, Nat.sub_self, Nat.sub_zero, decide_eq_true_eq, Nat.zero_le, Nat.add_zero, Nat.le_refl, b_add, b_sub, c_lt, c_le, c_gt, c_ge, c_eqI, c_neI, c_isNN, c_isIN, c_noNN, c_noIN, o_lenL, o_lenS, o_lenT, o_abs, o_listL, o_listT, o_intI, o_intB, o_max2, o_min2, neg_I] <;> rfl, .inl ?_, some (.int j, .no), x6, rfl⟩
              refine (exs_f (by simp only [ij, c_isN, Option.isNone_some, runF, exs, ex, evT, ev, evs, evB, evP, evC, evI, blOf, sc, Option.bind_some, Option.bind_none, Option.map_some, Option.map_none, bindT, Fl.al, Fl.el, Fl.ow, Fl.rt, Fl.at, tpAt, movOw, als, retF, D.cl, D.cl1, D.hasL, D.hasLs, retO, retOs, cnt, Env.drp, Env.lock, Env.unlock, Out.unlock, setAll, List.getElem?_cons_zero, List.getElem?_cons_succ, List.set_cons_zero, List.set_cons_succ, List.length_cons, List.length_nil, List.map_cons, List.map_nil, List.cons_append, List.nil_append, List.append_nil, List.flatten_cons, List.flatten_nil, List.replicate_succ, List.replicate_zero, List.getElem?_nil, List.set_nil, List.all_cons, List.all_nil, List.filter_cons, List.filter_nil, List.length_set, List.isEmpty_nil, List.isEmpty_cons, List.foldl_cons, List.foldl_nil, List.append_assoc, List.contains_cons, List.zip_cons_cons, List.zip_nil_left, List.zip_nil_right, if_true, if_false, if_pos rfl, ite_true, ite_false, Bool.true_or, Bool.or_true, Bool.false_or, Bool.or_false, Bool.and_true, Bool.true_and, Bool.false_and, Bool.and_false, Bool.not_true, Bool.not_false, decide_true, decide_false, Bool.true_eq_false, Bool.false_eq_true, reduceIte, reduceCtorEq, Nat.reduceAdd, Nat.reduceSub, Nat.reduceLT, Nat.reduceLeDiff, Nat.reduceEqDiff, Nat.zero_lt_succ, Nat.reduceBEq, BEq.rfl, beq_self_eq_true, Nat.lt_add_one, and_self, and_true, true_and, Nat.zero_add, Nat.add_zero, Nat.add_one_sub_one, Nat.sub_self, Nat.sub_zero, decide_eq_true_eq, Nat.zero_le, Nat.add_zero, Nat.le_refl, b_add, b_sub, c_lt, c_le, c_gt, c_ge, c_eqI, c_neI, c_isNN, c_isIN, c_noNN, c_noIN, o_lenL, o_lenS, o_lenT, o_abs, o_listL, o_listT, o_intI, o_intB, o_max2, o_min2, neg_I] <;> rfl) rfl).trans ?_
              -- nothing is walked
              have hev : evI G [some (.scr ns, .no), some (encNet n ps, .tp [.no, .top]), some (encTale last rs sg, .tp [.no, .top, .top]), some (.int i, .no), some (.lst (cs.map encN), .top), some (.int j, .no), x6] (.rng1 (.bin .Add (.bin .Sub (.idx (.var 2) (.int 0)) (.idx (.var 4) (.var 5))) (.int 1))) = some ([], [], []) := by
                have hno : ((last : Int) - c + 1).toNat = 0 := by omega
                by_cases hk : okR ((last : Int) - c + 1) = true
                · simp only [i_t0, ij, encN, hk, hno, List.range_zero, runF, exs, ex, evT, ev, evs, evB, evP, evC, evI, blOf, sc, Option.bind_some, Option.bind_none, Option.map_some, Option.map_none, bindT, Fl.al, Fl.el, Fl.ow, Fl.rt, Fl.at, tpAt, movOw, als, retF, D.cl, D.cl1, D.hasL, D.hasLs, retO, retOs, cnt, Env.drp, Env.lock, Env.unlock, Out.unlock, setAll, List.getElem?_cons_zero, List.getElem?_cons_succ, List.set_cons_zero, List.set_cons_succ, List.length_cons, List.length_nil, List.map_cons, List.map_nil, List.cons_append, List.nil_append, List.append_nil, List.flatten_cons, List.flatten_nil, List.replicate_succ, List.replicate_zero, List.getElem?_nil, List.set_nil, List.all_cons, List.all_nil, List.filter_cons, List.filter_nil, List.length_set, List.isEmpty_nil, List.isEmpty_cons, List.foldl_cons, List.foldl_nil, List.append_assoc, List.contains_cons, List.zip_cons_cons, List.zip_nil_left, List.zip_nil_right, if_true, if_false, if_pos rfl, ite_true, ite_false, Bool.true_or, Bool.or_true, Bool.false_or, Bool.or_false, Bool.and_true, Bool.true_and, Bool.false_and, Bool.and_false, Bool.not_true, Bool.not_false, decide_true, decide_false, Bool.true_eq_false, Bool.false_eq_true, reduceIte, reduceCtorEq, Nat.reduceAdd, Nat.reduceSub, Nat.reduceLT, Nat.reduceLeDiff, Nat.reduceEqDiff, Nat.zero_lt_succ, Nat.reduceBEq, BEq.rfl, beq_self_eq_true, Nat.lt_add_one, and_self, and_true, true_and, Nat.zero_add, Nat.add_zero, Nat.add_one_sub_one, Nat.sub_self, Nat.sub_zero, decide_eq_true_eq, Nat.zero_le, Nat.add_zero, Nat.le_refl, b_add, b_sub, c_lt, c_le, c_gt, c_ge, c_eqI, c_neI, c_isNN, c_isIN, c_noNN, c_noIN, o_lenL, o_lenS, o_lenT, o_abs, o_listL, o_listT, o_intI, o_intB, o_max2, o_min2, neg_I]
                · have hk2 : okL ((last : Int) - c + 1) = true ∨ (last : Int) - c + 1 = 0 := by rw [okL_iff]; omega
                  rcases hk2 with hk2 | hk2
                  · simp only [i_t0, ij, encN, hk, hk2, runF, exs, ex, evT, ev, evs, evB, evP, evC, evI, blOf, sc, Option.bind_some, Option.bind_none, Option.map_some, Option.map_none, bindT, Fl.al, Fl.el, Fl.ow, Fl.rt, Fl.at, tpAt, movOw, als, retF, D.cl, D.cl1, D.hasL, D.hasLs, retO, retOs, cnt, Env.drp, Env.lock, Env.unlock, Out.unlock, setAll, List.getElem?_cons_zero, List.getElem?_cons_succ, List.set_cons_zero, List.set_cons_succ, List.length_cons, List.length_nil, List.map_cons, List.map_nil, List.cons_append, List.nil_append, List.append_nil, List.flatten_cons, List.flatten_nil, List.replicate_succ, List.replicate_zero, List.getElem?_nil, List.set_nil, List.all_cons, List.all_nil, List.filter_cons, List.filter_nil, List.length_set, List.isEmpty_nil, List.isEmpty_cons, List.foldl_cons, List.foldl_nil, List.append_assoc, List.contains_cons, List.zip_cons_cons, List.zip_nil_left, List.zip_nil_right, if_true, if_false, if_pos rfl, ite_true, ite_false, Bool.true_or, Bool.or_true, Bool.false_or, Bool.or_false, Bool.and_true, Bool.true_and, Bool.false_and, Bool.and_false, Bool.not_true, Bool.not_false, decide_true, decide_false, Bool.true_eq_false, Bool.false_eq_true, reduceIte, reduceCtorEq, Nat.reduceAdd, Nat.reduceSub, Nat.reduceLT, Nat.reduceLeDiff, Nat.reduceEqDiff, Nat.zero_lt_succ, Nat.reduceBEq, BEq.rfl, beq_self_eq_true, Nat.lt_add_one, and_self, and_true, true_and, Nat.zero_add, Nat.add_zero, Nat.add_one_sub_one, Nat.sub_self, Nat.sub_zero, decide_eq_true_eq, Nat.zero_le, Nat.add_zero, Nat.le_refl, b_add, b_sub, c_lt, c_le, c_gt, c_ge, c_eqI, c_neI, c_isNN, c_isIN, c_noNN, c_noIN, o_lenL, o_lenS, o_lenT, o_abs, o_listL, o_listT, o_intI, o_intB, o_max2, o_min2, neg_I]
                  · rw [hk2] at hk
                    exact absurd (okR_of (by omega) (by omega)) hk
              refine (exs_for (p := ([], [], [])) hev rfl rfl).trans ?_
              simp only [exs]
              rfl)
      subst he
      refine ⟨_, _, by simp only [runF, exs, ex, evT, ev, evs, evB, evP, evC, evI, blOf, sc, Option.bind_some, Option.bind_none, Option.map_some, Option.map_none, bindT, Fl.al, Fl.el, Fl.ow, Fl.rt, Fl.at, tpAt, movOw, als, retF, D.cl, D.cl1, D.hasL, D.hasLs, retO, retOs, cnt, Env.drp, Env.lock, Env.unlock, Out.unlock, setAll, List.getElem?_cons_zero, List.getElem?_cons_succ, List.set_cons_zero, List.set_cons_succ, List.length_cons, List.length_nil, List.map_cons, List.map_nil, List.cons_append, List.nil_append, List.append_nil, List.flatten_cons, List.flatten_nil, List.replicate_succ, List.replicate_zero, List.getElem?_nil, List.set_nil, List.all_cons, List.all_nil, List.filter_cons, List.filter_nil, List.length_set, List.isEmpty_nil, List.isEmpty_cons, List.foldl_cons, List.foldl_nil, List.append_assoc, List.contains_cons, List.zip_cons_cons, List.zip_nil_left, List.zip_nil_right, if_true, if_false, if_pos rfl, ite_true, ite_false, Bool.true_or, Bool.or_true, Bool.false_or, Bool.or_false, Bool.and_true, Bool.true_and, Bool.false_and, Bool.and_false, Bool.not_true, Bool.not_false, decide_true, decide_false, Bool.true_eq_false, Bool.false_eq_true, reduceIte, reduceCtorEq, Nat.reduceAdd, Nat.reduceSub, Nat.reduceLT, Nat.reduceLeDiff, Nat.reduceEqDiff, Nat.zero_lt_succ, Nat.reduceBEq, BEq.rfl, beq_self_eq_true, Nat.lt_add_one, and_self, and_true, true_and, Nat.zero_add, Nat.add_zero, Nat.add_one_sub_one, Nat.sub_self, Nat.sub_zero, decide_eq_true_eq, Nat.zero_le, Nat.add_zero, Nat.le_refl, b_add, b_sub, c_lt, c_le, c_gt, c_ge, c_eqI, c_neI, c_isNN, c_isIN, c_noNN, c_noIN, o_lenL, o_lenS, o_lenT, o_abs, o_listL, o_listT, o_intI, o_intB, o_max2, o_min2, neg_I] <;> rfl, .inl ?_, some (.int i, .no), some (.lst (cs.map encN), .top), x5, x6, rfl⟩
      refine (exs_nx (by simp only [hcs, hcl, runF, exs, ex, evT, ev, evs, evB, evP, evC, evI, blOf, sc, Option.bind_some, Option.bind_none, Option.map_some, Option.map_none, bindT, Fl.al, Fl.el, Fl.ow, Fl.rt, Fl.at, tpAt, movOw, als, retF, D.cl, D.cl1, D.hasL, D.hasLs, retO, retOs, cnt, Env.drp, Env.lock, Env.unlock, Out.unlock, setAll, List.getElem?_cons_zero, List.getElem?_cons_succ, List.set_cons_zero, List.set_cons_succ, List.length_cons, List.length_nil, List.map_cons, List.map_nil, List.cons_append, List.nil_append, List.append_nil, List.flatten_cons, List.flatten_nil, List.replicate_succ, List.replicate_zero, List.getElem?_nil, List.set_nil, List.all_cons, List.all_nil, List.filter_cons, List.filter_nil, List.length_set, List.isEmpty_nil, List.isEmpty_cons, List.foldl_cons, List.foldl_nil, List.append_assoc, List.contains_cons, List.zip_cons_cons, List.zip_nil_left, List.zip_nil_right, if_true, if_false, if_pos rfl, ite_true, ite_false, Bool.true_or, Bool.or_true, Bool.false_or, Bool.or_false, Bool.and_true, Bool.true_and, Bool.false_and, Bool.and_false, Bool.not_true, Bool.not_false, decide_true, decide_false, Bool.true_eq_false, Bool.false_eq_true, reduceIte, reduceCtorEq, Nat.reduceAdd, Nat.reduceSub, Nat.reduceLT, Nat.reduceLeDiff, Nat.reduceEqDiff, Nat.zero_lt_succ, Nat.reduceBEq, BEq.rfl, beq_self_eq_true, Nat.lt_add_one, and_self, and_true, true_and, Nat.zero_add, Nat.add_zero, Nat.add_one_sub_one, Nat.sub_self, Nat.sub_zero, decide_eq_true_eq, Nat.zero_le, Nat.add_zero, Nat.le_refl, b_add, b_sub, c_lt, c_le, c_gt, c_ge, c_eqI, c_neI, c_isNN, c_isIN, c_noNN, c_noIN, o_lenL, o_lenS, o_lenT, o_abs, o_listL, o_listT, o_intI, o_intB, o_max2, o_min2, neg_I] <;> rfl)).trans ?_
      refine (exs_f (by simp only [ii, hlen, i_net0, runF, exs, ex, evT, ev, evs, evB, evP, evC, evI, blOf, sc, Option.bind_some, Option.bind_none, Option.map_some, Option.map_none, bindT, Fl.al, Fl.el, Fl.ow, Fl.rt, Fl.at, tpAt, movOw, als, retF, D.cl, D.cl1, D.hasL, D.hasLs, retO, retOs, cnt, Env.drp, Env.lock, Env.unlock, Out.unlock, setAll, List.getElem?_cons_zero, List.getElem?_cons_succ, List.set_cons_zero, List.set_cons_succ, List.length_cons, List.length_nil, List.map_cons, List.map_nil, List.cons_append, List.nil_append, List.append_nil, List.flatten_cons, List.flatten_nil, List.replicate_succ, List.replicate_zero, List.getElem?_nil, List.set_nil, List.all_cons, List.all_nil, List.filter_cons, List.filter_nil, List.length_set, List.isEmpty_nil, List.isEmpty_cons, List.foldl_cons, List.foldl_nil, List.append_assoc, List.contains_cons, List.zip_cons_cons, List.zip_nil_left, List.zip_nil_right, if_true, if_false, if_pos rfl, ite_true, ite_false, Bool.true_or, Bool.or_true, Bool.false_or, Bool.or_false, Bool.and_true, Bool.true_and, Bool.false_and, Bool.and_false, Bool.not_true, Bool.not_false, decide_true, decide_false, Bool.true_eq_false, Bool.false_eq_true, reduceIte, reduceCtorEq, Nat.reduceAdd, Nat.reduceSub, Nat.reduceLT, Nat.reduceLeDiff, Nat.reduceEqDiff, Nat.zero_lt_succ, Nat.reduceBEq, BEq.rfl, beq_self_eq_true, Nat.lt_add_one, and_self, and_true, true_and, Nat.zero_add, Nat.add_zero, Nat.add_one_sub_one, Nat.sub_self, Nat.sub_zero, decide_eq_true_eq, Nat.zero_le, Nat.add_zero, Nat.le_refl, b_add, b_sub, c_lt, c_le, c_gt, c_ge, c_eqI, c_neI, c_isNN, c_isIN, c_noNN, c_noIN, o_lenL, o_lenS, o_lenT, o_abs, o_listL, o_listT, o_intI, o_intB, o_max2, o_min2, neg_I] <;> rfl) rfl).trans ?_
      refine (exs_for (p := ((List.range ((n : Int)).toNat).map fun k : Nat => D.int k, [], [])) (by simp only [i_net0, hr, runF, exs, ex, evT, ev, evs, evB, evP, evC, evI, blOf, sc, Option.bind_some, Option.bind_none, Option.map_some, Option.map_none, bindT, Fl.al, Fl.el, Fl.ow, Fl.rt, Fl.at, tpAt, movOw, als, retF, D.cl, D.cl1, D.hasL, D.hasLs, retO, retOs, cnt, Env.drp, Env.lock, Env.unlock, Out.unlock, setAll, List.getElem?_cons_zero, List.getElem?_cons_succ, List.set_cons_zero, List.set_cons_succ, List.length_cons, List.length_nil, List.map_cons, List.map_nil, List.cons_append, List.nil_append, List.append_nil, List.flatten_cons, List.flatten_nil, List.replicate_succ, List.replicate_zero, List.getElem?_nil, List.set_nil, List.all_cons, List.all_nil, List.filter_cons, List.filter_nil, List.length_set, List.isEmpty_nil, List.isEmpty_cons, List.foldl_cons, List.foldl_nil, List.append_assoc, List.contains_cons, List.zip_cons_cons, List.zip_nil_left, List.zip_nil_right, if_true, if_false, if_pos rfl, ite_true, ite_false, Bool.true_or, Bool.or_true, Bool.false_or, Bool.or_false, Bool.and_true, Bool.true_and, Bool.false_and, Bool.and_false, Bool.not_true, Bool.not_false, decide_true, decide_false, Bool.true_eq_false, Bool.false_eq_true, reduceIte, reduceCtorEq, Nat.reduceAdd, Nat.reduceSub, Nat.reduceLT, Nat.reduceLeDiff, Nat.reduceEqDiff, Nat.zero_lt_succ, Nat.reduceBEq, BEq.rfl, beq_self_eq_true, Nat.lt_add_one, and_self, and_true, true_and, Nat.zero_add, Nat.add_zero, Nat.add_one_sub_one, Nat.sub_self, Nat.sub_zero, decide_eq_true_eq, Nat.zero_le, Nat.add_zero, Nat.le_refl, b_add, b_sub, c_lt, c_le, c_gt, c_ge, c_eqI, c_neI, c_isNN, c_isIN, c_noNN, c_noIN, o_lenL, o_lenS, o_lenT, o_abs, o_listL, o_listT, o_intI, o_intB, o_max2, o_min2, neg_I] <;> rfl) rfl hfor).trans ?_
      simp only [exs]
      rfl)
  subst he
  refine ⟨.no, runF_rt [some (.scr ns, .no), none, none, none, none, none, none] rfl rfl ?_⟩
  refine (exs_nx (by simp only [h27, runF, exs, ex, evT, ev, evs, evB, evP, evC, evI, blOf, sc, Option.bind_some, Option.bind_none, Option.map_some, Option.map_none, bindT, Fl.al, Fl.el, Fl.ow, Fl.rt, Fl.at, tpAt, movOw, als, retF, D.cl, D.cl1, D.hasL, D.hasLs, retO, retOs, cnt, Env.drp, Env.lock, Env.unlock, Out.unlock, setAll, List.getElem?_cons_zero, List.getElem?_cons_succ, List.set_cons_zero, List.set_cons_succ, List.length_cons, List.length_nil, List.map_cons, List.map_nil, List.cons_append, List.nil_append, List.append_nil, List.flatten_cons, List.flatten_nil, List.replicate_succ, List.replicate_zero, List.getElem?_nil, List.set_nil, List.all_cons, List.all_nil, List.filter_cons, List.filter_nil, List.length_set, List.isEmpty_nil, List.isEmpty_cons, List.foldl_cons, List.foldl_nil, List.append_assoc, List.contains_cons, List.zip_cons_cons, List.zip_nil_left, List.zip_nil_right, if_true, if_false, if_pos rfl, ite_true, ite_false, Bool.true_or, Bool.or_true, Bool.false_or, Bool.or_false, Bool.and_true, Bool.true_and, Bool.false_and, Bool.and_false, Bool.not_true, Bool.not_false, decide_true, decide_false, Bool.true_eq_false, Bool.false_eq_true, reduceIte, reduceCtorEq, Nat.reduceAdd, Nat.reduceSub, Nat.reduceLT, Nat.reduceLeDiff, Nat.reduceEqDiff, Nat.zero_lt_succ, Nat.reduceBEq, BEq.rfl, beq_self_eq_true, Nat.lt_add_one, and_self, and_true, true_and, Nat.zero_add, Nat.add_zero, Nat.add_one_sub_one, Nat.sub_self, Nat.sub_zero, decide_eq_true_eq, Nat.zero_le, Nat.add_zero, Nat.le_refl, b_add, b_sub, c_lt, c_le, c_gt, c_ge, c_eqI, c_neI, c_isNN, c_isIN, c_noNN, c_noIN, o_lenL, o_lenS, o_lenT, o_abs, o_listL, o_listT, o_intI, o_intB, o_max2, o_min2, neg_I] <;> rfl)).trans ?_
  refine (exs_nx (by simp only [h29, encTale, hclr, hcls, runF, exs, ex, evT, ev, evs, evB, evP, evC, evI, blOf, sc, Option.bind_some, Option.bind_none, Option.map_some, Option.map_none, bindT, Fl.al, Fl.el, Fl.ow, Fl.rt, Fl.at, tpAt, movOw, als, retF, D.cl, D.cl1, D.hasL, D.hasLs, retO, retOs, cnt, Env.drp, Env.lock, Env.unlock, Out.unlock, setAll, List.getElem?_cons_zero, List.getElem?_cons_succ, List.set_cons_zero, List.set_cons_succ, List.length_cons, List.length_nil, List.map_cons, List.map_nil, List.cons_append, List.nil_append, List.append_nil, List.flatten_cons, List.flatten_nil, List.replicate_succ, List.replicate_zero, List.getElem?_nil, List.set_nil, List.all_cons, List.all_nil, List.filter_cons, List.filter_nil, List.length_set, List.isEmpty_nil, List.isEmpty_cons, List.foldl_cons, List.foldl_nil, List.append_assoc, List.contains_cons, List.zip_cons_cons, List.zip_nil_left, List.zip_nil_right, if_true, if_false, if_pos rfl, ite_true, ite_false, Bool.true_or, Bool.or_true, Bool.false_or, Bool.or_false, Bool.and_true, Bool.true_and, Bool.false_and, Bool.and_false, Bool.not_true, Bool.not_false, decide_true, decide_false, Bool.true_eq_false, Bool.false_eq_true, reduceIte, reduceCtorEq, Nat.reduceAdd, Nat.reduceSub, Nat.reduceLT, Nat.reduceLeDiff, Nat.reduceEqDiff, Nat.zero_lt_succ, Nat.reduceBEq, BEq.rfl, beq_self_eq_true, Nat.lt_add_one, and_self, and_true, true_and, Nat.zero_add, Nat.add_zero, Nat.add_one_sub_one, Nat.sub_self, Nat.sub_zero, decide_eq_true_eq, Nat.zero_le, Nat.add_zero, Nat.le_refl, b_add, b_sub, c_lt, c_le, c_gt, c_ge, c_eqI, c_neI, c_isNN, c_isIN, c_noNN, c_noIN, o_lenL, o_lenS, o_lenT, o_abs, o_listL, o_listT, o_intI, o_intB, o_max2, o_min2, neg_I] <;> rfl)).trans ?_
  rw [htale]
  refine (exs_for (p := ((List.range ((n : Int)).toNat).map fun k : Nat => D.int k, [], [])) (by simp only [i_net0, hr, runF, exs, ex, evT, ev, evs, evB, evP, evC, evI, blOf, sc, Option.bind_some, Option.bind_none, Option.map_some, Option.map_none, bindT, Fl.al, Fl.el, Fl.ow, Fl.rt, Fl.at, tpAt, movOw, als, retF, D.cl, D.cl1, D.hasL, D.hasLs, retO, retOs, cnt, Env.drp, Env.lock, Env.unlock, Out.unlock, setAll, List.getElem?_cons_zero, List.getElem?_cons_succ, List.set_cons_zero, List.set_cons_succ, List.length_cons, List.length_nil, List.map_cons, List.map_nil, List.cons_append, List.nil_append, List.append_nil, List.flatten_cons, List.flatten_nil, List.replicate_succ, List.replicate_zero, List.getElem?_nil, List.set_nil, List.all_cons, List.all_nil, List.filter_cons, List.filter_nil, List.length_set, List.isEmpty_nil, List.isEmpty_cons, List.foldl_cons, List.foldl_nil, List.append_assoc, List.contains_cons, List.zip_cons_cons, List.zip_nil_left, List.zip_nil_right, if_true, if_false, if_pos rfl, ite_true, ite_false, Bool.true_or, Bool.or_true, Bool.false_or, Bool.or_false, Bool.and_true, Bool.true_and, Bool.false_and, Bool.and_false, Bool.not_true, Bool.not_false, decide_true, decide_false, Bool.true_eq_false, Bool.false_eq_true, reduceIte, reduceCtorEq, Nat.reduceAdd, Nat.reduceSub, Nat.reduceLT, Nat.reduceLeDiff, Nat.reduceEqDiff, Nat.zero_lt_succ, Nat.reduceBEq, BEq.rfl, beq_self_eq_true, Nat.lt_add_one, and_self, and_true, true_and, Nat.zero_add, Nat.add_zero, Nat.add_one_sub_one, Nat.sub_self, Nat.sub_zero, decide_eq_true_eq, Nat.zero_le, Nat.add_zero, Nat.le_refl, b_add, b_sub, c_lt, c_le, c_gt, c_ge, c_eqI, c_neI, c_isNN, c_isIN, c_noNN, c_noIN, o_lenL, o_lenS, o_lenT, o_abs, o_listL, o_listT, o_intI, o_intB, o_max2, o_min2, neg_I] <;> rfl) rfl hfor).trans ?_
  refine exs_rt (by simp only [runF, exs, ex, evT, ev, evs, evB, evP, evC, evI, blOf, sc, Option.bind_some, Option.bind_none, Option.map_some, Option.map_none, bindT, Fl.al, Fl.el, Fl.ow, Fl.rt, Fl.at, tpAt, movOw, als, retF, D.cl, D.cl1, D.hasL, D.hasLs, retO, retOs, cnt, Env.drp, Env.lock, Env.unlock, Out.unlock, setAll, List.getElem?_cons_zero, List.getElem?_cons_succ, List.set_cons_zero, List.set_cons_succ, List.length_cons, List.length_nil, List.map_cons, List.map_nil, List.cons_append, List.nil_append, List.append_nil, List.flatten_cons, List.flatten_nil, List.replicate_succ, List.replicate_zero, List.getElem?_nil, List.set_nil, List.all_cons, List.all_nil, List.filter_cons, List.filter_nil, List.length_set, List.isEmpty_nil, List.isEmpty_cons, List.foldl_cons, List.foldl_nil, List.append_assoc, List.contains_cons, List.zip_cons_cons, List.zip_nil_left, List.zip_nil_right, if_true, if_false, if_pos rfl, ite_true, ite_false, Bool.true_or, Bool.or_true, Bool.false_or, Bool.or_false, Bool.and_true, Bool.true_and, Bool.false_and, Bool.and_false, Bool.not_true, Bool.not_false, decide_true, decide_false, Bool.true_eq_false, Bool.false_eq_true, reduceIte, reduceCtorEq, Nat.reduceAdd, Nat.reduceSub, Nat.reduceLT, Nat.reduceLeDiff, Nat.reduceEqDiff, Nat.zero_lt_succ, Nat.reduceBEq, BEq.rfl, beq_self_eq_true, Nat.lt_add_one, and_self, and_true, true_and, Nat.zero_add, Nat.add_zero, Nat.add_one_sub_one, Nat.sub_self, Nat.sub_zero, decide_eq_true_eq, Nat.zero_le, Nat.add_zero, Nat.le_refl, b_add, b_sub, c_lt, c_le, c_gt, c_ge, c_eqI, c_neI, c_isNN, c_isIN, c_noNN, c_noIN, o_lenL, o_lenS, o_lenT, o_abs, o_listL, o_listT, o_intI, o_intB, o_max2, o_min2, neg_I] <;> rfl)
end Ix
set_option Elab.async false
set_option linter.all false
set_option maxRecDepth 100000
set_option maxHeartbeats 4000000
namespace Ix
open PySem PySem.Spec PyProof.Rows L2

theorem net27 (G : Orc) (ns : List Int) (hc : ∀ k : Nat, k ≤ 1000000 → ∃ c, G.call 26 [.scr ns, .int k] = some (.int c, .no)) (hm : ∀ c k : Int, 0 ≤ k → k ≤ 1000000 → ∃ m, G.call 2 [.int c, .int k] = some (.int m, .no) ∧ 0 ≤ m) :
    ∃ n ps, runF G F27 [.scr ns] = some (encNet n ps, .tp [.no, .top]) ∧ NetOk n ps := by
  obtain ⟨c0, hc0⟩ := hc 0 (by omega)
  have hc0 : G.call 26 [.scr ns, .int 0] = some (.int c0, .no) := hc0
  obtain ⟨c1, hc1⟩ := hc 1 (by omega)
  have hc1 : G.call 26 [.scr ns, .int 1] = some (.int c1, .no) := hc1
  obtain ⟨m0, hm0, p0⟩ := hm c0 1 (by omega) (by omega)
  obtain ⟨B, p50, pB⟩ := big50
  have d8 := fun a f g => b_div (a := a) (b := 8) (f := f) (g := g) (by decide) (by decide)
  have d64 := fun a f g => b_div (a := a) (b := 64) (f := f) (g := g) (by decide) (by decide)
  have d4 := fun a f g => b_div (a := a) (b := 4) (f := f) (g := g) (by decide) (by decide)
  have d6 := fun a f g => b_div (a := a) (b := 6) (f := f) (g := g) (by decide) (by decide)
  have r8 := fun a f g => b_mod (a := a) (b := 8) (f := f) (g := g) (by decide)
  have r4 := fun a f g => b_mod (a := a) (b := 4) (f := f) (g := g) (by decide)
  have r6 := fun a f g => b_mod (a := a) (b := 6) (f := f) (g := g) (by decide)
  have r2 := fun a f g => b_mod (a := a) (b := 2) (f := f) (g := g) (by decide)
  -- how many houses
  obtain ⟨n, hn1, hn8, hh⟩ : ∃ n : Nat, 1 ≤ n ∧ n ≤ 8 ∧ ∀ r : ISs, exs G [some (.scr ns, .no), some (.int m0, .no), some (.int (1 + c0 % 4), .no), none, none, none, none, none, none]
      (.cons (.ifs (.cmp .Eq (.bin .Mod (.bin .FloorDiv (.var 1) (.int 8)) (.int 8)) (.int 1)) (.cons (.set 2 (.bin .Add (.int 5) (.bin .Mod (.bin .FloorDiv (.var 1) (.int 64)) (.int 4)))) .nil) .nil)
      (.cons (.ifs (.cmp .Eq (.bin .Mod (.bin .FloorDiv (.var 1) (.int 8)) (.int 8)) (.int 2)) (.cons (.set 2 (.int 2)) .nil) .nil) r)) =
      exs G [some (.scr ns, .no), some (.int m0, .no), some (.int n, .no), none, none, none, none, none, none] r := by
    by_cases h1 : m0 / 8 % 8 = 1
    · obtain ⟨n, e, l⟩ := nat_of (x := 5 + m0 / 64 % 4) (n := 9) (by omega) (by omega)
      refine ⟨n, by omega, by omega, fun r => ?_⟩
      have h2 : ¬ m0 / 8 % 8 = 2 := by omega
      refine (exs_t (by simp only [d8, r8, h1, runF, exs, ex, evT, ev, evs, evB, evP, evC, evI, blOf, sc, Option.bind_some, Option.bind_none, Option.map_some, Option.map_none, bindT, Fl.al, Fl.el, Fl.ow, Fl.rt, Fl.at, tpAt, movOw, als, retF, D.cl, D.cl1, D.hasL, D.hasLs, retO, retOs, cnt, Env.drp, Env.lock, Env.unlock, Out.unlock, setAll, List.getElem?_cons_zero, List.getElem?_cons_succ, List.set_cons_zero, List.set_cons_succ, List.length_cons, List.length_nil, List.map_cons, List.map_nil, List.cons_append, List.nil_append, List.append_nil, List.flatten_cons, List.flatten_nil, List.replicate_succ, List.replicate_zero, List.getElem?_nil, List.set_nil, List.all_cons, List.all_nil, List.filter_cons, List.filter_nil, List.length_set, List.isEmpty_nil, List.isEmpty_cons, List.foldl_cons, List.foldl_nil, List.append_assoc, List.contains_cons, List.zip_cons_cons, List.zip_nil_left, List.zip_nil_right, if_true, if_false, if_pos rfl, ite_true, ite_false, Bool.true_or, Bool.or_true, Bool.false_or, Bool.or_false, Bool.and_true, Bool.true_and, Bool.false_and, Bool.and_false, Bool.not_true, Bool.not_false, decide_true, decide_false, Bool.true_eq_false, Bool.false_eq_true, reduceIte, reduceCtorEq, Nat.reduceAdd, Nat.reduceSub, Nat.reduceLT, Nat.reduceLeDiff, Nat.reduceEqDiff, Nat.zero_lt_succ, Nat.reduceBEq, BEq.rfl, beq_self_eq_true, Nat.lt_add_one, and_self, and_true, true_and, Nat.zero_add, Nat.add_zero, Nat.add_one_sub_one, Nat.sub_self, Nat.sub_zero, decide_eq_true_eq, Nat.zero_le, Nat.add_zero, Nat.le_refl, b_add, b_sub, c_lt, c_le, c_gt, c_ge, c_eqI, c_neI, c_isNN, c_isIN, c_noNN, c_noIN, o_lenL, o_lenS, o_lenT, o_abs, o_listL, o_listT, o_intI, o_intB, o_max2, o_min2, neg_I] <;> rfl) (by simp only [d64, r4, e, runF, exs, ex, evT, ev, evs, evB, evP, evC, evI, blOf, sc, Option.bind_some, Option.bind_none, Option.map_some, Option.map_none, bindT, Fl.al, Fl.el, Fl.ow, Fl.rt, Fl.at, tpAt, movOw, als, retF, D.cl, D.cl1, D.hasL, D.hasLs, retO, retOs, cnt, Env.drp, Env.lock, Env.unlock, Out.unlock, setAll, List.getElem?_cons_zero, List.getElem?_cons_succ, List.set_cons_zero, List.set_cons_succ, List.length_cons, List.length_nil, List.map_cons, List.map_nil, List.cons_append, List.nil_append, List.append_nil, List.flatten_cons, List.flatten_nil, List.replicate_succ, List.replicate_zero, List.getElem?_nil, List.set_nil, List.all_cons, List.all_nil, List.filter_cons, List.filter_nil, List.length_set, List.isEmpty_nil, List.isEmpty_cons, List.foldl_cons, List.foldl_nil, List.append_assoc, List.contains_cons, List.zip_cons_cons, List.zip_nil_left, List.zip_nil_right, if_true, if_false, if_pos rfl, ite_true, ite_false, Bool.true_or, Bool.or_true, Bool.false_or, Bool.or_false, Bool.and_true, Bool.true_and, Bool.false_and, Bool.and_false, Bool.not_true, Bool.not_false, decide_true, decide_false, Bool.true_eq_false, Bool.false_eq_true, reduceIte, reduceCtorEq, Nat.reduceAdd, Nat.reduceSub, Nat.reduceLT, Nat.reduceLeDiff, Nat.reduceEqDiff, Nat.zero_lt_succ, Nat.reduceBEq, BEq.rfl, beq_self_eq_true, Nat.lt_add_one, and_self, and_true, true_and, Nat.zero_add, Nat.add_zero, Nat.add_one_sub_one, Nat.sub_self, Nat.sub_zero, decide_eq_true_eq, Nat.zero_le, Nat.add_zero, Nat.le_refl, b_add, b_sub, c_lt, c_le, c_gt, c_ge, c_eqI, c_neI, c_isNN, c_isIN, c_noNN, c_noIN, o_lenL, o_lenS, o_lenT, o_abs, o_listL, o_listT, o_intI, o_intB, o_max2, o_min2, neg_I] <;> rfl)).trans ?_
      exact exs_f (by simp only [d8, r8, h2, runF, exs, ex, evT, ev, evs, evB, evP, evC, evI, blOf, sc, Option.bind_some, Option.bind_none, Option.map_some, Option.map_none, bindT, Fl.al, Fl.el, Fl.ow, Fl.rt, Fl.at, tpAt, movOw, als, retF, D.cl, D.cl1, D.hasL, D.hasLs, retO, retOs, cnt, Env.drp, Env.lock, Env.unlock, Out.unlock, setAll, List.getElem?_cons_zero, List.getElem?_cons_succ, List.set_cons_zero, List.set_cons_succ, List.length_cons, List.length_nil, List.map_cons, List.map_nil, List.cons_append, List.nil_append, List.append_nil, List.flatten_cons, List.flatten_nil, List.replicate_succ, List.replicate_zero, List.getElem?_nil, List.set_nil, List.all_cons, List.all_nil, List.filter_cons, List.filter_nil, List.length_set, List.isEmpty_nil, List.isEmpty_cons, List.foldl_cons, List.foldl_nil, List.append_assoc, List.contains_cons, List.zip_cons_cons, List.zip_nil_left, List.zip_nil_right, if_true, if_false, if_pos rfl, ite_true, ite_false, Bool.true_or, Bool.or_true, Bool.false_or, Bool.or_false, Bool.and_true, Bool.true_and, Bool.false_and, Bool.and_false, Bool.not_true, Bool.not_false, decide_true, decide_false, Bool.true_eq_false, Bool.false_eq_true, reduceIte, reduceCtorEq, Nat.reduceAdd, Nat.reduceSub, Nat.reduceLT, Nat.reduceLeDiff, Nat.reduceEqDiff, Nat.zero_lt_succ, Nat.reduceBEq, BEq.rfl, beq_self_eq_true, Nat.lt_add_one, and_self, and_true, true_and, Nat.zero_add, Nat.add_zero, Nat.add_one_sub_one, Nat.sub_self, Nat.sub_zero, decide_eq_true_eq, Nat.zero_le, Nat.add_zero, Nat.le_refl, b_add, b_sub, c_lt, c_le, c_gt, c_ge, c_eqI, c_neI, c_isNN, c_isIN, c_noNN, c_noIN, o_lenL, o_lenS, o_lenT, o_abs, o_listL, o_listT, o_intI, o_intB, o_max2, o_min2, neg_I] <;> rfl) rfl
    · by_cases h2 : m0 / 8 % 8 = 2
      · refine ⟨2, by omega, by omega, fun r => ?_⟩
        refine (exs_f (by simp only [d8, r8, h1, runF, exs, ex, evT, ev, evs, evB, evP, evC, evI, blOf, sc, Option.bind_some, Option.bind_none, Option.map_some, Option.map_none, bindT, Fl.al, Fl.el, Fl.ow, Fl.rt, Fl.at, tpAt, movOw, als, retF, D.cl, D.cl1, D.hasL, D.hasLs, retO, retOs, cnt, Env.drp, Env.lock, Env.unlock, Out.unlock, setAll, List.getElem?_cons_zero, List.getElem?_cons_succ, List.set_cons_zero, List.set_cons_succ, List.length_cons, List.length_nil, List.map_cons, List.map_nil, List.cons_append, List.nil_append, List.append_nil, List.flatten_cons, List.flatten_nil, List.replicate_succ, List.replicate_zero, List.getElem?_nil, List.set_nil, List.all_cons, List.all_nil, List.filter_cons, List.filter_nil, List.length_set, List.isEmpty_nil, List.isEmpty_cons, List.foldl_cons, List.foldl_nil, List.append_assoc, List.contains_cons, List.zip_cons_cons, List.zip_nil_left, List.zip_nil_right, if_true, if_false, if_pos rfl, ite_true, ite_false, Bool.true_or, Bool.or_true, Bool.false_or, Bool.or_false, Bool.and_true, Bool.true_and, Bool.false_and, Bool.and_false, Bool.not_true, Bool.not_false, decide_true, decide_false, Bool.true_eq_false, Bool.false_eq_true, reduceIte, reduceCtorEq, Nat.reduceAdd, Nat.reduceSub, Nat.reduceLT, Nat.reduceLeDiff, Nat.reduceEqDiff, Nat.zero_lt_succ, Nat.reduceBEq, BEq.rfl, beq_self_eq_true, Nat.lt_add_one, and_self, and_true, true_and, Nat.zero_add, Nat.add_zero, Nat.add_one_sub_one, Nat.sub_self, Nat.sub_zero, decide_eq_true_eq, Nat.zero_le, Nat.add_zero, Nat.le_refl, b_add, b_sub, c_lt, c_le, c_gt, c_ge, c_eqI, c_neI, c_isNN, c_isIN, c_noNN, c_noIN, o_lenL, o_lenS, o_lenT, o_abs, o_listL, o_listT, o_intI, o_intB, o_max2, o_min2, neg_I] <;> rfl) rfl).trans ?_
        exact exs_t (by simp only [d8, r8, h2, runF, exs, ex, evT, ev, evs, evB, evP, evC, evI, blOf, sc, Option.bind_some, Option.bind_none, Option.map_some, Option.map_none, bindT, Fl.al, Fl.el, Fl.ow, Fl.rt, Fl.at, tpAt, movOw, als, retF, D.cl, D.cl1, D.hasL, D.hasLs, retO, retOs, cnt, Env.drp, Env.lock, Env.unlock, Out.unlock, setAll, List.getElem?_cons_zero, List.getElem?_cons_succ, List.set_cons_zero, List.set_cons_succ, List.length_cons, List.length_nil, List.map_cons, List.map_nil, List.cons_append, List.nil_append, List.append_nil, List.flatten_cons, List.flatten_nil, List.replicate_succ, List.replicate_zero, List.getElem?_nil, List.set_nil, List.all_cons, List.all_nil, List.filter_cons, List.filter_nil, List.length_set, List.isEmpty_nil, List.isEmpty_cons, List.foldl_cons, List.foldl_nil, List.append_assoc, List.contains_cons, List.zip_cons_cons, List.zip_nil_left, List.zip_nil_right, if_true, if_false, if_pos rfl, ite_true, ite_false, Bool.true_or, Bool.or_true, Bool.false_or, Bool.or_false, Bool.and_true, Bool.true_and, Bool.false_and, Bool.and_false, Bool.not_true, Bool.not_false, decide_true, decide_false, Bool.true_eq_false, Bool.false_eq_true, reduceIte, reduceCtorEq, Nat.reduceAdd, Nat.reduceSub, Nat.reduceLT, Nat.reduceLeDiff, Nat.reduceEqDiff, Nat.zero_lt_succ, Nat.reduceBEq, BEq.rfl, beq_self_eq_true, Nat.lt_add_one, and_self, and_true, true_and, Nat.zero_add, Nat.add_zero, Nat.add_one_sub_one, Nat.sub_self, Nat.sub_zero, decide_eq_true_eq, Nat.zero_le, Nat.add_zero, Nat.le_refl, b_add, b_sub, c_lt, c_le, c_gt, c_ge, c_eqI, c_neI, c_isNN, c_isIN, c_noNN, c_noIN, o_lenL, o_lenS, o_lenT, o_abs, o_listL, o_listT, o_intI, o_intB, o_max2, o_min2, neg_I] <;> rfl) (by simp only [runF, exs, ex, evT, ev, evs, evB, evP, evC, evI, blOf, sc, Option.bind_some, Option.bind_none, Option.map_some, Option.map_none, bindT, Fl.al, Fl.el, Fl.ow, Fl.rt, Fl.at, tpAt, movOw, als, retF, D.cl, D.cl1, D.hasL, D.hasLs, retO, retOs, cnt, Env.drp, Env.lock, Env.unlock, Out.unlock, setAll, List.getElem?_cons_zero, List.getElem?_cons_succ, List.set_cons_zero, List.set_cons_succ, List.length_cons, List.length_nil, List.map_cons, List.map_nil, List.cons_append, List.nil_append, List.append_nil, List.flatten_cons, List.flatten_nil, List.replicate_succ, List.replicate_zero, List.getElem?_nil, List.set_nil, List.all_cons, List.all_nil, List.filter_cons, List.filter_nil, List.length_set, List.isEmpty_nil, List.isEmpty_cons, List.foldl_cons, List.foldl_nil, List.append_assoc, List.contains_cons, List.zip_cons_cons, List.zip_nil_left, List.zip_nil_right, if_true, if_false, if_pos rfl, ite_true, ite_false, Bool.true_or, Bool.or_true, Bool.false_or, Bool.or_false, Bool.and_true, Bool.true_and, Bool.false_and, Bool.and_false, Bool.not_true, Bool.not_false, decide_true, decide_false, Bool.true_eq_false, Bool.false_eq_true, reduceIte, reduceCtorEq, Nat.reduceAdd, Nat.reduceSub, Nat.reduceLT, Nat.reduceLeDiff, Nat.reduceEqDiff, Nat.zero_lt_succ, Nat.reduceBEq, BEq.rfl, beq_self_eq_true, Nat.lt_add_one, and_self, and_true, true_and, Nat.zero_add, Nat.add_zero, Nat.add_one_sub_one, Nat.sub_self, Nat.sub_zero, decide_eq_true_eq, Nat.zero_le, Nat.add_zero, Nat.le_refl, b_add, b_sub, c_lt, c_le, c_gt, c_ge, c_eqI, c_neI, c_isNN, c_isIN, c_noNN, c_noIN, o_lenL, o_lenS, o_lenT, o_abs, o_listL, o_listT, o_intI, o_intB, o_max2, o_min2, neg_I] <;> rfl)
      · obtain ⟨n, e, l⟩ := nat_of (x := 1 + c0 % 4) (n := 5) (by omega) (by omega)
        refine ⟨n, by omega, by omega, fun r => ?_⟩
        rw [e]
        refine (exs_f (by simp only [d8, r8, h1, runF, exs, ex, evT, ev, evs, evB, evP, evC, evI, blOf, sc, Option.bind_some, Option.bind_none, Option.map_some, Option.map_none, bindT, Fl.al, Fl.el, Fl.ow, Fl.rt, Fl.at, tpAt, movOw, als, retF, D.cl, D.cl1, D.hasL, D.hasLs, retO, retOs, cnt, Env.drp, Env.lock, Env.unlock, Out.unlock, setAll, List.getElem?_cons_zero, List.getElem?_cons_succ, List.set_cons_zero, List.set_cons_succ, List.length_cons, List.length_nil, List.map_cons, List.map_nil, List.cons_append, List.nil_append, List.append_nil, List.flatten_cons, List.flatten_nil, List.replicate_succ, List.replicate_zero, List.getElem?_nil, List.set_nil, List.all_cons, List.all_nil, List.filter_cons, List.filter_nil, List.length_set, List.isEmpty_nil, List.isEmpty_cons, List.foldl_cons, List.foldl_nil, List.append_assoc, List.contains_cons, List.zip_cons_cons, List.zip_nil_left, List.zip_nil_right, if_true, if_false, if_pos rfl, ite_true, ite_false, Bool.true_or, Bool.or_true, Bool.false_or, Bool.or_false, Bool.and_true, Bool.true_and, Bool.false_and, Bool.and_false, Bool.not_true, Bool.not_false, decide_true, decide_false, Bool.true_eq_false, Bool.false_eq_true, reduceIte, reduceCtorEq, Nat.reduceAdd, Nat.reduceSub, Nat.reduceLT, Nat.reduceLeDiff, Nat.reduceEqDiff, Nat.zero_lt_succ, Nat.reduceBEq, BEq.rfl, beq_self_eq_true, Nat.lt_add_one, and_self, and_true, true_and, Nat.zero_add, Nat.add_zero, Nat.add_one_sub_one, Nat.sub_self, Nat.sub_zero, decide_eq_true_eq, Nat.zero_le, Nat.add_zero, Nat.le_refl, b_add, b_sub, c_lt, c_le, c_gt, c_ge, c_eqI, c_neI, c_isNN, c_isIN, c_noNN, c_noIN, o_lenL, o_lenS, o_lenT, o_abs, o_listL, o_listT, o_intI, o_intB, o_max2, o_min2, neg_I] <;> rfl) rfl).trans ?_
        exact exs_f (by simp only [d8, r8, h2, runF, exs, ex, evT, ev, evs, evB, evP, evC, evI, blOf, sc, Option.bind_some, Option.bind_none, Option.map_some, Option.map_none, bindT, Fl.al, Fl.el, Fl.ow, Fl.rt, Fl.at, tpAt, movOw, als, retF, D.cl, D.cl1, D.hasL, D.hasLs, retO, retOs, cnt, Env.drp, Env.lock, Env.unlock, Out.unlock, setAll, List.getElem?_cons_zero, List.getElem?_cons_succ, List.set_cons_zero, List.set_cons_succ, List.length_cons, List.length_nil, List.map_cons, List.map_nil, List.cons_append, List.nil_append, List.append_nil, List.flatten_cons, List.flatten_nil, List.replicate_succ, List.replicate_zero, List.getElem?_nil, List.set_nil, List.all_cons, List.all_nil, List.filter_cons, List.filter_nil, List.length_set, List.isEmpty_nil, List.isEmpty_cons, List.foldl_cons, List.foldl_nil, List.append_assoc, List.contains_cons, List.zip_cons_cons, List.zip_nil_left, List.zip_nil_right, if_true, if_false, if_pos rfl, ite_true, ite_false, Bool.true_or, Bool.or_true, Bool.false_or, Bool.or_false, Bool.and_true, Bool.true_and, Bool.false_and, Bool.and_false, Bool.not_true, Bool.not_false, decide_true, decide_false, Bool.true_eq_false, Bool.false_eq_true, reduceIte, reduceCtorEq, Nat.reduceAdd, Nat.reduceSub, Nat.reduceLT, Nat.reduceLeDiff, Nat.reduceEqDiff, Nat.zero_lt_succ, Nat.reduceBEq, BEq.rfl, beq_self_eq_true, Nat.lt_add_one, and_self, and_true, true_and, Nat.zero_add, Nat.add_zero, Nat.add_one_sub_one, Nat.sub_self, Nat.sub_zero, decide_eq_true_eq, Nat.zero_le, Nat.add_zero, Nat.le_refl, b_add, b_sub, c_lt, c_le, c_gt, c_ge, c_eqI, c_neI, c_isNN, c_isIN, c_noNN, c_noIN, o_lenL, o_lenS, o_lenT, o_abs, o_listL, o_listT, o_intI, o_intB, o_max2, o_min2, neg_I] <;> rfl) rfl
  have hr := okR_of (i := n) (by omega) (by omega)
  obtain ⟨e', hfor, ps, x4, x5, x6, x7, x8, he, q1, q2, q3⟩ := forL_inv (f := fun _ e => exs G e (.cons (.for_ (.one 5) (.rng1 (.var 2)) (.cons (.set 6 (.call 2 (.cons (.call 26 (.cons (.var 0) (.cons (.int 1) .nil))) (.cons (.bin .Add (.bin .Mult (.int 10) (.var 4)) (.var 5)) .nil)))) (.cons (.set 7 (.bop true (.cmp .Gt (.b1 .abs (.bin .Sub (.var 5) (.var 4))) (.int 1)) (.cons (.bop false (.cmp .Eq (.bin .Mod (.var 1) (.int 4)) (.int 1)) (.cons (.cmp .Gt (.var 2) (.int 4)) .nil)) .nil))) (.cons (.ifs (.bop false (.cmp .Eq (.var 4) (.var 5)) (.cons (.var 7) (.cons (.cmp .Eq (.bin .Mod (.var 6) (.int 6)) (.int 0)) .nil))) (.cons .cont .nil) .nil) (.cons (.set 8 (.idx (.lst (.cons .non (.cons (.int 1) (.cons (.int 2) (.cons (.bin .Add (.int 1) (.bin .Mod (.bin .FloorDiv (.var 6) (.int 6)) (.int 6))) (.cons (.bin .Add (.bin .Pow (.int 10) (.int 50)) (.var 6)) .nil)))))) (.bin .Sub (.bin .Mod (.var 6) (.int 6)) (.int 1)))) (.cons (.app 3 (.tup (.cons (.var 4) (.cons (.var 5) (.cons (.var 8) .nil))))) .nil)))))) .nil)) (tg := .one 4)
    (fun i e => ∃ (ps : List Path) (x4 x5 x6 x7 x8 : Option (D × Ow)), e = [some (.scr ns, .no), some (.int m0, .no), some (.int n, .no), some (.lst (ps.map encP), .top), x4, x5, x6, x7, x8] ∧
      (∀ p ∈ ps, p.1 < i ∧ p.1 < n ∧ p.2.1 < n ∧ p.1 ≠ p.2.1 ∧ ∀ m, p.2.2 = some m → 1 ≤ m) ∧ (ps.map fun p => (p.1, p.2.1)).Nodup ∧ ps.length ≤ 7 * i)
    (ds := (List.range ((n : Int)).toNat).map fun k : Nat => D.int k) (env := [some (.scr ns, .no), some (.int m0, .no), some (.int n, .no), some (.lst [], .top), none, none, none, none, none]) 0 ⟨[], none, none, none, none, none, rfl, by simp, List.nodup_nil, by simp⟩ (by
      rintro i d e hd ⟨ps, x4, x5, x6, x7, x8, rfl, q1, q2, q3⟩
      rw [List.getElem?_map] at hd
      obtain ⟨k, hk, rfl⟩ := Option.map_eq_some_iff.mp hd
      obtain ⟨hk1, hk2⟩ := List.getElem?_eq_some_iff.mp hk
      rw [List.getElem_range] at hk2
      rw [List.length_range] at hk1
      subst hk2
      simp only [Nat.zero_add] at q1 q3 ⊢
      have hin : i < n := by omega
      obtain ⟨e', hfor, ps, x5, x6, x7, x8, he, t1, t2, t3⟩ := forL_inv (f := fun _ e => exs G e (.cons (.set 6 (.call 2 (.cons (.call 26 (.cons (.var 0) (.cons (.int 1) .nil))) (.cons (.bin .Add (.bin .Mult (.int 10) (.var 4)) (.var 5)) .nil)))) (.cons (.set 7 (.bop true (.cmp .Gt (.b1 .abs (.bin .Sub (.var 5) (.var 4))) (.int 1)) (.cons (.bop false (.cmp .Eq (.bin .Mod (.var 1) (.int 4)) (.int 1)) (.cons (.cmp .Gt (.var 2) (.int 4)) .nil)) .nil))) (.cons (.ifs (.bop false (.cmp .Eq (.var 4) (.var 5)) (.cons (.var 7) (.cons (.cmp .Eq (.bin .Mod (.var 6) (.int 6)) (.int 0)) .nil))) (.cons .cont .nil) .nil) (.cons (.set 8 (.idx (.lst (.cons .non (.cons (.int 1) (.cons (.int 2) (.cons (.bin .Add (.int 1) (.bin .Mod (.bin .FloorDiv (.var 6) (.int 6)) (.int 6))) (.cons (.bin .Add (.bin .Pow (.int 10) (.int 50)) (.var 6)) .nil)))))) (.bin .Sub (.bin .Mod (.var 6) (.int 6)) (.int 1)))) (.cons (.app 3 (.tup (.cons (.var 4) (.cons (.var 5) (.cons (.var 8) .nil))))) .nil)))))) (tg := .one 5)
        (fun j e => ∃ (ps : List Path) (x5 x6 x7 x8 : Option (D × Ow)), e = [some (.scr ns, .no), some (.int m0, .no), some (.int n, .no), some (.lst (ps.map encP), .top), some (.int i, .no), x5, x6, x7, x8] ∧
          (∀ p ∈ ps, (p.1 < i ∨ p.1 = i ∧ p.2.1 < j) ∧ p.1 < n ∧ p.2.1 < n ∧ p.1 ≠ p.2.1 ∧ ∀ m, p.2.2 = some m → 1 ≤ m) ∧ (ps.map fun p => (p.1, p.2.1)).Nodup ∧ ps.length ≤ 7 * i + (j - if i < j then 1 else 0))
        (ds := (List.range ((n : Int)).toNat).map fun k : Nat => D.int k) (env := [some (.scr ns, .no), some (.int m0, .no), some (.int n, .no), some (.lst (ps.map encP), .top), some (.int i, .no), x5, x6, x7, x8]) 0 ⟨ps, x5, x6, x7, x8, rfl, fun p hp => ⟨.inl (q1 p hp).1, (q1 p hp).2⟩, q2, by omega⟩ (by
          rintro j d e hd ⟨ps, x5, x6, x7, x8, rfl, t1, t2, t3⟩
          rw [List.getElem?_map] at hd
          obtain ⟨k, hk, rfl⟩ := Option.map_eq_some_iff.mp hd
          obtain ⟨hk1, hk2⟩ := List.getElem?_eq_some_iff.mp hk
          rw [List.getElem_range] at hk2
          rw [List.length_range] at hk1
          subst hk2
          simp only [Nat.zero_add] at t1 t3 ⊢
          have hjn : j < n := by omega
          have m10 := fun f g => b_mul (a := 10) (b := i) (f := f) (g := g) (by omega) (by omega) (by omega) (by omega)
          obtain ⟨dr, hdr, pdr⟩ := hm c1 (10 * i + j) (by omega) (by omega)
          obtain ⟨fa, hfa⟩ : ∃ fa : Bool, ∀ (x7 x8 : Option (D × Ow)) (r : ISs), exs G [some (.scr ns, .no), some (.int m0, .no), some (.int n, .no), some (.lst (ps.map encP), .top), some (.int i, .no), some (.int j, .no), some (.int dr, .no), x7, x8]
              (.cons (.set 7 (.bop true (.cmp .Gt (.b1 .abs (.bin .Sub (.var 5) (.var 4))) (.int 1)) (.cons (.bop false (.cmp .Eq (.bin .Mod (.var 1) (.int 4)) (.int 1)) (.cons (.cmp .Gt (.var 2) (.int 4)) .nil)) .nil))) r) =
              exs G [some (.scr ns, .no), some (.int m0, .no), some (.int n, .no), some (.lst (ps.map encP), .top), some (.int i, .no), some (.int j, .no), some (.int dr, .no), some (.bl fa, .no), x8] r := by
            by_cases h1 : (1 : Int) < (if (j : Int) - i < 0 then -((j : Int) - i) else (j : Int) - i)
            · by_cases h2 : m0 % 4 = 1
              · exact ⟨true, fun x7 x8 r => exs_nx (by simp only [h1, r4, h2, runF, exs, ex, evT, ev, evs, evB, evP, evC, evI, blOf, sc, Option.bind_some, Option.bind_none, Option.map_some, Option.map_none, bindT, Fl.al, Fl.el, Fl.ow, Fl.rt, Fl.at, tpAt, movOw, als, retF, D.cl, D.cl1, D.hasL, D.hasLs, retO, retOs, cnt, Env.drp, Env.lock, Env.unlock, Out.unlock, setAll, List.getElem?_cons_zero, List.getElem?_cons_succ, List.set_cons_zero, List.set_cons_succ, List.length_cons, List.length_nil, List.map_cons, List.map_nil, List.cons_append, List.nil_append, List.append_nil, List.flatten_cons, List.flatten_nil, List.replicate_succ, List.replicate_zero, List.getElem?_nil, List.set_nil, List.all_cons, List.all_nil, List.filter_cons, List.filter_nil, List.length_set, List.isEmpty_nil, List.isEmpty_cons, List.foldl_cons, List.foldl_nil, List.append_assoc, List.contains_cons, List.zip_cons_cons, List.zip_nil_left, List.zip_nil_right, if_true, if_false, if_pos rfl, ite_true, ite_false, Bool.true_or, Bool.or_true, Bool.false_or, Bool.or_false, Bool.and_true, Bool.true_and, Bool.false_and, Bool.and_false, Bool.not_true, Bool.not_false, decide_true, decide_false, Bool.true_eq_false, Bool.false_eq_true, reduceIte, reduceCtorEq, Nat.reduceAdd, Nat.reduceSub, Nat.reduceLT, Nat.reduceLeDiff, Nat.reduceEqDiff, Nat.zero_lt_succ, Nat.reduceBEq, BEq.rfl, beq_self_eq_true, Nat.lt_add_one, and_self, and_true, true_and, Nat.zero_add, Nat.add_zero, Nat.add_one_sub_one, Nat.sub_self, Nat.sub_zero, decide_eq_true_eq, Nat.zero_le, Nat.add_zero, Nat.le_refl, b_add, b_sub, c_lt, c_le, c_gt, c_ge, c_eqI, c_neI, c_isNN, c_isIN, c_noNN, c_noIN, o_lenL, o_lenS, o_lenT, o_abs, o_listL, o_listT, o_intI, o_intB, o_max2, o_min2, neg_I] <;> rfl)⟩
              · by_cases h3 : (4 : Int) < n
                · exact ⟨true, fun x7 x8 r => exs_nx (by simp only [h1, r4, h2, h3, runF, exs, ex, evT, ev, evs, evB, evP, evC, evI, blOf, sc, Option.bind_some, Option.bind_none, Option.map_some, Option.map_none, bindT, Fl.al, Fl.el, Fl.ow, Fl.rt, Fl.at, tpAt, movOw, als, retF, D.cl, D.cl1, D.hasL, D.hasLs, retO, retOs, cnt, Env.drp, Env.lock, Env.unlock, Out.unlock, setAll, List.getElem?_cons_zero, List.getElem?_cons_succ, List.set_cons_zero, List.set_cons_succ, List.length_cons, List.length_nil, List.map_cons, List.map_nil, List.cons_append, List.nil_append, List.append_nil, List.flatten_cons, List.flatten_nil, List.replicate_succ, List.replicate_zero, List.getElem?_nil, List.set_nil, List.all_cons, List.all_nil, List.filter_cons, List.filter_nil, List.length_set, List.isEmpty_nil, List.isEmpty_cons, List.foldl_cons, List.foldl_nil, List.append_assoc, List.contains_cons, List.zip_cons_cons, List.zip_nil_left, List.zip_nil_right, if_true, if_false, if_pos rfl, ite_true, ite_false, Bool.true_or, Bool.or_true, Bool.false_or, Bool.or_false, Bool.and_true, Bool.true_and, Bool.false_and, Bool.and_false, Bool.not_true, Bool.not_false, decide_true, decide_false, Bool.true_eq_false, Bool.false_eq_true, reduceIte, reduceCtorEq, Nat.reduceAdd, Nat.reduceSub, Nat.reduceLT, Nat.reduceLeDiff, Nat.reduceEqDiff, Nat.zero_lt_succ, Nat.reduceBEq, BEq.rfl, beq_self_eq_true, Nat.lt_add_one, and_self, and_true, true_and, Nat.zero_add, Nat.add_zero, Nat.add_one_sub_one, Nat.sub_self, Nat.sub_zero, decide_eq_true_eq, Nat.zero_le, Nat.add_zero, Nat.le_refl, b_add, b_sub, c_lt, c_le, c_gt, c_ge, c_eqI, c_neI, c_isNN, c_isIN, c_noNN, c_noIN, o_lenL, o_lenS, o_lenT, o_abs, o_listL, o_listT, o_intI, o_intB, o_max2, o_min2, neg_I] <;> rfl)⟩
                · exact ⟨false, fun x7 x8 r => exs_nx (by simp only [h1, r4, h2, h3, runF, exs, ex, evT, ev, evs, evB, evP, evC, evI, blOf, sc, Option.bind_some, Option.bind_none, Option.map_some, Option.map_none, bindT, Fl.al, Fl.el, Fl.ow, Fl.rt, Fl.at, tpAt, movOw, als, retF, D.cl, D.cl1, D.hasL, D.hasLs, retO, retOs, cnt, Env.drp, Env.lock, Env.unlock, Out.unlock, setAll, List.getElem?_cons_zero, List.getElem?_cons_succ, List.set_cons_zero, List.set_cons_succ, List.length_cons, List.length_nil, List.map_cons, List.map_nil, List.cons_append, List.nil_append, List.append_nil, List.flatten_cons, List.flatten_nil, List.replicate_succ, List.replicate_zero, List.getElem?_nil, List.set_nil, List.all_cons, List.all_nil, List.filter_cons, List.filter_nil, List.length_set, List.isEmpty_nil, List.isEmpty_cons, List.foldl_cons, List.foldl_nil, List.append_assoc, List.contains_cons, List.zip_cons_cons, List.zip_nil_left, List.zip_nil_right, if_true, if_false, if_pos rfl, ite_true, ite_false, Bool.true_or, Bool.or_true, Bool.false_or, Bool.or_false, Bool.and_true, Bool.true_and, Bool.false_and, Bool.and_false, Bool.not_true, Bool.not_false, decide_true, decide_false, Bool.true_eq_false, Bool.false_eq_true, reduceIte, reduceCtorEq, Nat.reduceAdd, Nat.reduceSub, Nat.reduceLT, Nat.reduceLeDiff, Nat.reduceEqDiff, Nat.zero_lt_succ, Nat.reduceBEq, BEq.rfl, beq_self_eq_true, Nat.lt_add_one, and_self, and_true, true_and, Nat.zero_add, Nat.add_zero, Nat.add_one_sub_one, Nat.sub_self, Nat.sub_zero, decide_eq_true_eq, Nat.zero_le, Nat.add_zero, Nat.le_refl, b_add, b_sub, c_lt, c_le, c_gt, c_ge, c_eqI, c_neI, c_isNN, c_isIN, c_noNN, c_noIN, o_lenL, o_lenS, o_lenT, o_abs, o_listL, o_listT, o_intI, o_intB, o_max2, o_min2, neg_I] <;> rfl)⟩
            · exact ⟨false, fun x7 x8 r => exs_nx (by simp only [h1, runF, exs, ex, evT, ev, evs, evB, evP, evC, evI, blOf, sc, Option.bind_some, Option.bind_none, Option.map_some, Option.map_none, bindT, Fl.al, Fl.el, Fl.ow, Fl.rt, Fl.at, tpAt, movOw, als, retF, D.cl, D.cl1, D.hasL, D.hasLs, retO, retOs, cnt, Env.drp, Env.lock, Env.unlock, Out.unlock, setAll, List.getElem?_cons_zero, List.getElem?_cons_succ, List.set_cons_zero, List.set_cons_succ, List.length_cons, List.length_nil, List.map_cons, List.map_nil, List.cons_append, List.nil_append, List.append_nil, List.flatten_cons, List.flatten_nil, List.replicate_succ, List.replicate_zero, List.getElem?_nil, List.set_nil, List.all_cons, List.all_nil, List.filter_cons, List.filter_nil, List.length_set, List.isEmpty_nil, List.isEmpty_cons, List.foldl_cons, List.foldl_nil, List.append_assoc, List.contains_cons, List.zip_cons_cons, List.zip_nil_left, List.zip_nil_right, if_true, if_false, if_pos rfl, ite_true, ite_false, Bool.true_or, Bool.or_true, Bool.false_or, Bool.or_false, Bool.and_true, Bool.true_and, Bool.false_and, Bool.and_false, Bool.not_true, Bool.not_false, decide_true, decide_false, Bool.true_eq_false, Bool.false_eq_true, reduceIte, reduceCtorEq, Nat.reduceAdd, Nat.reduceSub, Nat.reduceLT, Nat.reduceLeDiff, Nat.reduceEqDiff, Nat.zero_lt_succ, Nat.reduceBEq, BEq.rfl, beq_self_eq_true, Nat.lt_add_one, and_self, and_true, true_and, Nat.zero_add, Nat.add_zero, Nat.add_one_sub_one, Nat.sub_self, Nat.sub_zero, decide_eq_true_eq, Nat.zero_le, Nat.add_zero, Nat.le_refl, b_add, b_sub, c_lt, c_le, c_gt, c_ge, c_eqI, c_neI, c_isNN, c_isIN, c_noNN, c_noIN, o_lenL, o_lenS, o_lenT, o_abs, o_listL, o_listT, o_intI, o_intB, o_max2, o_min2, neg_I] <;> rfl)⟩
          have start : ∀ o, exs G [some (.scr ns, .no), some (.int m0, .no), some (.int n, .no), some (.lst (ps.map encP), .top), some (.int i, .no), some (.int j, .no), some (.int dr, .no), some (.bl fa, .no), x8]
              (.cons (.ifs (.bop false (.cmp .Eq (.var 4) (.var 5)) (.cons (.var 7) (.cons (.cmp .Eq (.bin .Mod (.var 6) (.int 6)) (.int 0)) .nil))) (.cons .cont .nil) .nil)
              (.cons (.set 8 (.idx (.lst (.cons .non (.cons (.int 1) (.cons (.int 2) (.cons (.bin .Add (.int 1) (.bin .Mod (.bin .FloorDiv (.var 6) (.int 6)) (.int 6))) (.cons (.bin .Add (.bin .Pow (.int 10) (.int 50)) (.var 6)) .nil)))))) (.bin .Sub (.bin .Mod (.var 6) (.int 6)) (.int 1))))
              (.cons (.app 3 (.tup (.cons (.var 4) (.cons (.var 5) (.cons (.var 8) .nil))))) .nil))) = some o →
              exs G [some (.scr ns, .no), some (.int m0, .no), some (.int n, .no), some (.lst (ps.map encP), .top), some (.int i, .no), some (.int j, .no), x6, x7, x8] (.cons (.set 6 (.call 2 (.cons (.call 26 (.cons (.var 0) (.cons (.int 1) .nil))) (.cons (.bin .Add (.bin .Mult (.int 10) (.var 4)) (.var 5)) .nil)))) (.cons (.set 7 (.bop true (.cmp .Gt (.b1 .abs (.bin .Sub (.var 5) (.var 4))) (.int 1)) (.cons (.bop false (.cmp .Eq (.bin .Mod (.var 1) (.int 4)) (.int 1)) (.cons (.cmp .Gt (.var 2) (.int 4)) .nil)) .nil))) (.cons (.ifs (.bop false (.cmp .Eq (.var 4) (.var 5)) (.cons (.var 7) (.cons (.cmp .Eq (.bin .Mod (.var 6) (.int 6)) (.int 0)) .nil))) (.cons .cont .nil) .nil) (.cons (.set 8 (.idx (.lst (.cons .non (.cons (.int 1) (.cons (.int 2) (.cons (.bin .Add (.int 1) (.bin .Mod (.bin .FloorDiv (.var 6) (.int 6)) (.int 6))) (.cons (.bin .Add (.bin .Pow (.int 10) (.int 50)) (.var 6)) .nil)))))) (.bin .Sub (.bin .Mod (.var 6) (.int 6)) (.int 1)))) (.cons (.app 3 (.tup (.cons (.var 4) (.cons (.var 5) (.cons (.var 8) .nil))))) .nil))))) = some o := fun o ho => by
            refine (exs_nx (by simp only [hc1, m10, hdr, runF, exs, ex, evT, ev, evs, evB, evP, evC, evI, blOf, sc, Option.bind_some, Option.bind_none, Option.map_some, Option.map_none, bindT, Fl.al, Fl.el, Fl.ow, Fl.rt, Fl.at, tpAt, movOw, als, retF, D.cl, D.cl1, D.hasL, D.hasLs, retO, retOs, cnt, Env.drp, Env.lock, Env.unlock, Out.unlock, setAll, List.getElem?_cons_zero, List.getElem?_cons_succ, List.set_cons_zero, List.set_cons_succ, List.length_cons, List.length_nil, List.map_cons, List.map_nil, List.cons_append, List.nil_append, List.append_nil, List.flatten_cons, List.flatten_nil, List.replicate_succ, List.replicate_zero, List.getElem?_nil, List.set_nil, List.all_cons, List.all_nil, List.filter_cons, List.filter_nil, List.length_set, List.isEmpty_nil, List.isEmpty_cons, List.foldl_cons, List.foldl_nil, List.append_assoc, List.contains_cons, List.zip_cons_cons, List.zip_nil_left, List.zip_nil_right, if_true, if_false, if_pos rfl, ite_true, ite_false, Bool.true_or, Bool.or_true, Bool.false_or, Bool.or_false, Bool.and_true, Bool.true_and, Bool.false_and, Bool.and_false, Bool.not_true, Bool.not_false, decide_true, decide_false, Bool.true_eq_false, Bool.false_eq_true, reduceIte, reduceCtorEq, Nat.reduceAdd, Nat.reduceSub, Nat.reduceLT, Nat.reduceLeDiff, Nat.reduceEqDiff, Nat.zero_lt_succ, Nat.reduceBEq, BEq.rfl, beq_self_eq_true, Nat.lt_add_one, and_self, and_true, true_and, Nat.zero_add, Nat.add_zero, Nat.add_one_sub_one, Nat.sub_self, Nat.sub_zero, decide_eq_true_eq, Nat.zero_le, Nat.add_zero, Nat.le_refl, b_add, b_sub, c_lt, c_le, c_gt, c_ge, c_eqI, c_neI, c_isNN, c_isIN, c_noNN, c_noIN, o_lenL, o_lenS, o_lenT, o_abs, o_listL, o_listT, o_intI, o_intB, o_max2, o_min2, neg_I] <;> rfl)).trans ?_
            exact (hfa x7 x8 _).trans ho
          have keep : ∀ p ∈ ps, (p.1 < i ∨ p.1 = i ∧ p.2.1 < j + 1) ∧ p.1 < n ∧ p.2.1 < n ∧ p.1 ≠ p.2.1 ∧ ∀ m, p.2.2 = some m → 1 ≤ m := fun p hp => ⟨(t1 p hp).1.imp id fun z => ⟨z.1, by omega⟩, (t1 p hp).2⟩
          have klen : ps.length ≤ 7 * i + (j + 1 - if i < j + 1 then 1 else 0) := by
            split <;> split at t3 <;> omega
          by_cases hij : i = j
          · refine ⟨_, _, by simp only [runF, exs, ex, evT, ev, evs, evB, evP, evC, evI, blOf, sc, Option.bind_some, Option.bind_none, Option.map_some, Option.map_none, bindT, Fl.al, Fl.el, Fl.ow, Fl.rt, Fl.at, tpAt, movOw, als, retF, D.cl, D.cl1, D.hasL, D.hasLs, retO, retOs, cnt, Env.drp, Env.lock, Env.unlock, Out.unlock, setAll, List.getElem?_cons_zero, List.getElem?_cons_succ, List.set_cons_zero, List.set_cons_succ, List.length_cons, List.length_nil, List.map_cons, List.map_nil, List.cons_append, List.nil_append, List.append_nil, List.flatten_cons, List.flatten_nil, List.replicate_succ, List.replicate_zero, List.getElem?_nil, List.set_nil, List.all_cons, List.all_nil, List.filter_cons, List.filter_nil, List.length_set, List.isEmpty_nil, List.isEmpty_cons, List.foldl_cons, List.foldl_nil, List.append_assoc, List.contains_cons, List.zip_cons_cons, List.zip_nil_left, List.zip_nil_right, if_true, if_false, if_pos rfl, ite_true, ite_false, Bool.true_or, Bool.or_true, Bool.false_or, Bool.or_false, Bool.and_true, Bool.true_and, Bool.false_and, Bool.and_false, Bool.not_true, Bool.not_false, decide_true, decide_false, Bool.true_eq_false, Bool.false_eq_true, reduceIte, reduceCtorEq, Nat.reduceAdd, Nat.reduceSub, Nat.reduceLT, Nat.reduceLeDiff, Nat.reduceEqDiff, Nat.zero_lt_succ, Nat.reduceBEq, BEq.rfl, beq_self_eq_true, Nat.lt_add_one, and_self, and_true, true_and, Nat.zero_add, Nat.add_zero, Nat.add_one_sub_one, Nat.sub_self, Nat.sub_zero, decide_eq_true_eq, Nat.zero_le, Nat.add_zero, Nat.le_refl, b_add, b_sub, c_lt, c_le, c_gt, c_ge, c_eqI, c_neI, c_isNN, c_isIN, c_noNN, c_noIN, o_lenL, o_lenS, o_lenT, o_abs, o_listL, o_listT, o_intI, o_intB, o_max2, o_min2, neg_I] <;> rfl, .inr (start _ (exs_tc ?_ (by simp only [runF, exs, ex, evT, ev, evs, evB, evP, evC, evI, blOf, sc, Option.bind_some, Option.bind_none, Option.map_some, Option.map_none, bindT, Fl.al, Fl.el, Fl.ow, Fl.rt, Fl.at, tpAt, movOw, als, retF, D.cl, D.cl1, D.hasL, D.hasLs, retO, retOs, cnt, Env.drp, Env.lock, Env.unlock, Out.unlock, setAll, List.getElem?_cons_zero, List.getElem?_cons_succ, List.set_cons_zero, List.set_cons_succ, List.length_cons, List.length_nil, List.map_cons, List.map_nil, List.cons_append, List.nil_append, List.append_nil, List.flatten_cons, List.flatten_nil, List.replicate_succ, List.replicate_zero, List.getElem?_nil, List.set_nil, List.all_cons, List.all_nil, List.filter_cons, List.filter_nil, List.length_set, List.isEmpty_nil, List.isEmpty_cons, List.foldl_cons, List.foldl_nil, List.append_assoc, List.contains_cons, List.zip_cons_cons, List.zip_nil_left, List.zip_nil_right, if_true, if_false, if_pos rfl, ite_true, ite_false, Bool.true_or, Bool.or_true, Bool.false_or, Bool.or_false, Bool.and_true, Bool.true_and, Bool.false_and, Bool.and_false, Bool.not_true, Bool.not_false, decide_true, decide_false, Bool.true_eq_false, Bool.false_eq_true, reduceIte, reduceCtorEq, Nat.reduceAdd, Nat.reduceSub, Nat.reduceLT, Nat.reduceLeDiff, Nat.reduceEqDiff, Nat.zero_lt_succ, Nat.reduceBEq, BEq.rfl, beq_self_eq_true, Nat.lt_add_one, and_self, and_true, true_and, Nat.zero_add, Nat.add_zero, Nat.add_one_sub_one, Nat.sub_self, Nat.sub_zero, decide_eq_true_eq, Nat.zero_le, Nat.add_zero, Nat.le_refl, b_add, b_sub, c_lt, c_le, c_gt, c_ge, c_eqI, c_neI, c_isNN, c_isIN, c_noNN, c_noIN, o_lenL, o_lenS, o_lenT, o_abs, o_listL, o_listT, o_intI, o_intB, o_max2, o_min2, neg_I] <;> rfl))), ps, some (.int j, .no), some (.int dr, .no), some (.bl fa, .no), x8, rfl, keep, t2, klen⟩
            have : ((i : Int) = j) := by omega
            simp only [this, runF, exs, ex, evT, ev, evs, evB, evP, evC, evI, blOf, sc, Option.bind_some, Option.bind_none, Option.map_some, Option.map_none, bindT, Fl.al, Fl.el, Fl.ow, Fl.rt, Fl.at, tpAt, movOw, als, retF, D.cl, D.cl1, D.hasL, D.hasLs, retO, retOs, cnt, Env.drp, Env.lock, Env.unlock, Out.unlock, setAll, List.getElem?_cons_zero, List.getElem?_cons_succ, List.set_cons_zero, List.set_cons_succ, List.length_cons, List.length_nil, List.map_cons, List.map_nil, List.cons_append, List.nil_append, List.append_nil, List.flatten_cons, List.flatten_nil, List.replicate_succ, List.replicate_zero, List.getElem?_nil, List.set_nil, List.all_cons, List.all_nil, List.filter_cons, List.filter_nil, List.length_set, List.isEmpty_nil, List.isEmpty_cons, List.foldl_cons, List.foldl_nil, List.append_assoc, List.contains_cons, List.zip_cons_cons, List.zip_nil_left, List.zip_nil_right, if_true, if_false, if_pos rfl, ite_true, ite_false, Bool.true_or, Bool.or_true, Bool.false_or, Bool.or_false, Bool.and_true, Bool.true_and, Bool.false_and, Bool.and_false, Bool.not_true, Bool.not_false, decide_true, decide_false, Bool.true_eq_false, Bool.false_eq_true, reduceIte, reduceCtorEq, Nat.reduceAdd, Nat.reduceSub, Nat.reduceLT, Nat.reduceLeDiff, Nat.reduceEqDiff, Nat.zero_lt_succ, Nat.reduceBEq, BEq.rfl, beq_self_eq_true, Nat.lt_add_one, and_self, and_true, true_and, Nat.zero_add, Nat.add_zero, Nat.add_one_sub_one, Nat.sub_self, Nat.sub_zero, decide_eq_true_eq, Nat.zero_le, Nat.add_zero, Nat.le_refl, b_add, b_sub, c_lt, c_le, c_gt, c_ge, c_eqI, c_neI, c_isNN, c_isIN, c_noNN, c_noIN, o_lenL, o_lenS, o_lenT, o_abs, o_listL, o_listT, o_intI, o_intB, o_max2, o_min2, neg_I]
          · have hij' : ¬ ((i : Int) = j) := by omega
            cases fa with
            | true =>
              refine ⟨_, _, by simp only [runF, exs, ex, evT, ev, evs, evB, evP, evC, evI, blOf, sc, Option.bind_some, Option.bind_none, Option.map_some, Option.map_none, bindT, Fl.al, Fl.el, Fl.ow, Fl.rt, Fl.at, tpAt, movOw, als, retF, D.cl, D.cl1, D.hasL, D.hasLs, retO, retOs, cnt, Env.drp, Env.lock, Env.unlock, Out.unlock, setAll, List.getElem?_cons_zero, List.getElem?_cons_succ, List.set_cons_zero, List.set_cons_succ, List.length_cons, List.length_nil, List.map_cons, List.map_nil, List.cons_append, List.nil_append, List.append_nil, List.flatten_cons, List.flatten_nil, List.replicate_succ, List.replicate_zero, List.getElem?_nil, List.set_nil, List.all_cons, List.all_nil, List.filter_cons, List.filter_nil, List.length_set, List.isEmpty_nil, List.isEmpty_cons, List.foldl_cons, List.foldl_nil, List.append_assoc, List.contains_cons, List.zip_cons_cons, List.zip_nil_left, List.zip_nil_right, if_true, if_false, if_pos rfl, ite_true, ite_false, Bool.true_or, Bool.or_true, Bool.false_or, Bool.or_false, Bool.and_true, Bool.true_and, Bool.false_and, Bool.and_false, Bool.not_true, Bool.not_false, decide_true, decide_false, Bool.true_eq_false, Bool.false_eq_true, reduceIte, reduceCtorEq, Nat.reduceAdd, Nat.reduceSub, Nat.reduceLT, Nat.reduceLeDiff, Nat.reduceEqDiff, Nat.zero_lt_succ, Nat.reduceBEq, BEq.rfl, beq_self_eq_true, Nat.lt_add_one, and_self, and_true, true_and, Nat.zero_add, Nat.add_zero, Nat.add_one_sub_one, Nat.sub_self, Nat.sub_zero, decide_eq_true_eq, Nat.zero_le, Nat.add_zero, Nat.le_refl, b_add, b_sub, c_lt, c_le, c_gt, c_ge, c_eqI, c_neI, c_isNN, c_isIN, c_noNN, c_noIN, o_lenL, o_lenS, o_lenT, o_abs, o_listL, o_listT, o_intI, o_intB, o_max2, o_min2, neg_I] <;> rfl, .inr (start _ (exs_tc ?_ (by simp only [runF, exs, ex, evT, ev, evs, evB, evP, evC, evI, blOf, sc, Option.bind_some, Option.bind_none, Option.map_some, Option.map_none, bindT, Fl.al, Fl.el, Fl.ow, Fl.rt, Fl.at, tpAt, movOw, als, retF, D.cl, D.cl1, D.hasL, D.hasLs, retO, retOs, cnt, Env.drp, Env.lock, Env.unlock, Out.unlock, setAll, List.getElem?_cons_zero, List.getElem?_cons_succ, List.set_cons_zero, List.set_cons_succ, List.length_cons, List.length_nil, List.map_cons, List.map_nil, List.cons_append, List.nil_append, List.append_nil, List.flatten_cons, List.flatten_nil, List.replicate_succ, List.replicate_zero, List.getElem?_nil, List.set_nil, List.all_cons, List.all_nil, List.filter_cons, List.filter_nil, List.length_set, List.isEmpty_nil, List.isEmpty_cons, List.foldl_cons, List.foldl_nil, List.append_assoc, List.contains_cons, List.zip_cons_cons, List.zip_nil_left, List.zip_nil_right, if_true, if_false, if_pos rfl, ite_true, ite_false, Bool.true_or, Bool.or_true, Bool.false_or, Bool.or_false, Bool.and_true, Bool.true_and, Bool.false_and, Bool.and_false, Bool.not_true, Bool.not_false, decide_true, decide_false, Bool.true_eq_false, Bool.false_eq_true, reduceIte, reduceCtorEq, Nat.reduceAdd, Nat.reduceSub, Nat.reduceLT, Nat.reduceLeDiff, Nat.reduceEqDiff, Nat.zero_lt_succ, Nat.reduceBEq, BEq.rfl, beq_self_eq_true, Nat.lt_add_one, and_self, and_true, true_and, Nat.zero_add, Nat.add_zero, Nat.add_one_sub_one, Nat.sub_self, Nat.sub_zero, decide_eq_true_eq, Nat.zero_le, Nat.add_zero, Nat.le_refl, b_add, b_sub, c_lt, c_le, c_gt, c_ge, c_eqI, c_neI, c_isNN, c_isIN, c_noNN, c_noIN, o_lenL, o_lenS, o_lenT, o_abs, o_listL, o_listT, o_intI, o_intB, o_max2, o_min2, neg_I] <;> rfl))), ps, some (.int j, .no), some (.int dr, .no), some (.bl true, .no), x8, rfl, keep, t2, klen⟩
              simp only [hij', runF, exs, ex, evT, ev, evs, evB, evP, evC, evI, blOf, sc, Option.bind_some, Option.bind_none, Option.map_some, Option.map_none, bindT, Fl.al, Fl.el, Fl.ow, Fl.rt, Fl.at, tpAt, movOw, als, retF, D.cl, D.cl1, D.hasL, D.hasLs, retO, retOs, cnt, Env.drp, Env.lock, Env.unlock, Out.unlock, setAll, List.getElem?_cons_zero, List.getElem?_cons_succ, List.set_cons_zero, List.set_cons_succ, List.length_cons, List.length_nil, List.map_cons, List.map_nil, List.cons_append, List.nil_append, List.append_nil, List.flatten_cons, List.flatten_nil, List.replicate_succ, List.replicate_zero, List.getElem?_nil, List.set_nil, List.all_cons, List.all_nil, List.filter_cons, List.filter_nil, List.length_set, List.isEmpty_nil, List.isEmpty_cons, List.foldl_cons, List.foldl_nil, List.append_assoc, List.contains_cons, List.zip_cons_cons, List.zip_nil_left, List.zip_nil_right, if_true, if_false, if_pos rfl, ite_true, ite_false, Bool.true_or, Bool.or_true, Bool.false_or, Bool.or_false, Bool.and_true, Bool.true_and, Bool.false_and, Bool.and_false, Bool.not_true, Bool.not_false, decide_true, decide_false, Bool.true_eq_false, Bool.false_eq_true, reduceIte, reduceCtorEq, Nat.reduceAdd, Nat.reduceSub, Nat.reduceLT, Nat.reduceLeDiff, Nat.reduceEqDiff, Nat.zero_lt_succ, Nat.reduceBEq, BEq.rfl, beq_self_eq_true, Nat.lt_add_one, and_self, and_true, true_and, Nat.zero_add, Nat.add_zero, Nat.add_one_sub_one, Nat.sub_self, Nat.sub_zero, decide_eq_true_eq, Nat.zero_le, Nat.add_zero, Nat.le_refl, b_add, b_sub, c_lt, c_le, c_gt, c_ge, c_eqI, c_neI, c_isNN, c_isIN, c_noNN, c_noIN, o_lenL, o_lenS, o_lenT, o_abs, o_listL, o_listT, o_intI, o_intB, o_max2, o_min2, neg_I]
            | false =>
              by_cases h6 : dr % 6 = 0
              · refine ⟨_, _, by simp only [runF, exs, ex, evT, ev, evs, evB, evP, evC, evI, blOf, sc, Option.bind_some, Option.bind_none, Option.map_some, Option.map_none, bindT, Fl.al, Fl.el, Fl.ow, Fl.rt, Fl.at, tpAt, movOw, als, retF, D.cl, D.cl1, D.hasL, D.hasLs, retO, retOs, cnt, Env.drp, Env.lock, Env.unlock, Out.unlock, setAll, List.getElem?_cons_zero, List.getElem?_cons_succ, List.set_cons_zero, List.set_cons_succ, List.length_cons, List.length_nil, List.map_cons, List.map_nil, List.cons_append, List.nil_append, List.append_nil, List.flatten_cons, List.flatten_nil, List.replicate_succ, List.replicate_zero, List.getElem?_nil, List.set_nil, List.all_cons, List.all_nil, List.filter_cons, List.filter_nil, List.length_set, List.isEmpty_nil, List.isEmpty_cons, List.foldl_cons, List.foldl_nil, List.append_assoc, List.contains_cons, List.zip_cons_cons, List.zip_nil_left, List.zip_nil_right, if_true, if_false, if_pos rfl, ite_true, ite_false, Bool.true_or, Bool.or_true, Bool.false_or, Bool.or_false, Bool.and_true, Bool.true_and, Bool.false_and, Bool.and_false, Bool.not_true, Bool.not_false, decide_true, decide_false, Bool.true_eq_false, Bool.false_eq_true, reduceIte, reduceCtorEq, Nat.reduceAdd, Nat.reduceSub, Nat.reduceLT, Nat.reduceLeDiff, Nat.reduceEqDiff, Nat.zero_lt_succ, Nat.reduceBEq, BEq.rfl, beq_self_eq_true, Nat.lt_add_one, and_self, and_true, true_and, Nat.zero_add, Nat.add_zero, Nat.add_one_sub_one, Nat.sub_self, Nat.sub_zero, decide_eq_true_eq, Nat.zero_le, Nat.add_zero, Nat.le_refl, b_add, b_sub, c_lt, c_le, c_gt, c_ge, c_eqI, c_neI, c_isNN, c_isIN, c_noNN, c_noIN, o_lenL, o_lenS, o_lenT, o_abs, o_listL, o_listT, o_intI, o_intB, o_max2, o_min2, neg_I] <;> rfl, .inr (start _ (exs_tc ?_ (by simp only [runF, exs, ex, evT, ev, evs, evB, evP, evC, evI, blOf, sc, Option.bind_some, Option.bind_none, Option.map_some, Option.map_none, bindT, Fl.al, Fl.el, Fl.ow, Fl.rt, Fl.at, tpAt, movOw, als, retF, D.cl, D.cl1, D.hasL, D.hasLs, retO, retOs, cnt, Env.drp, Env.lock, Env.unlock, Out.unlock, setAll, List.getElem?_cons_zero, List.getElem?_cons_succ, List.set_cons_zero, List.set_cons_succ, List.length_cons, List.length_nil, List.map_cons, List.map_nil, List.cons_append, List.nil_append, List.append_nil, List.flatten_cons, List.flatten_nil, List.replicate_succ, List.replicate_zero, List.getElem?_nil, List.set_nil, List.all_cons, List.all_nil, List.filter_cons, List.filter_nil, List.length_set, List.isEmpty_nil, List.isEmpty_cons, List.foldl_cons, List.foldl_nil, List.append_assoc, List.contains_cons, List.zip_cons_cons, List.zip_nil_left, List.zip_nil_right, if_true, if_false, if_pos rfl, ite_true, ite_false, Bool.true_or, Bool.or_true, Bool.false_or, Bool.or_false, Bool.and_true, Bool.true_and, Bool.false_and, Bool.and_false, Bool.not_true, Bool.not_false, decide_true, decide_false, Bool.true_eq_false, Bool.false_eq_true, reduceIte, reduceCtorEq, Nat.reduceAdd, Nat.reduceSub, Nat.reduceLT, Nat.reduceLeDiff, Nat.reduceEqDiff, Nat.zero_lt_succ, Nat.reduceBEq, BEq.rfl, beq_self_eq_true, Nat.lt_add_one, and_self, and_true, true_and, Nat.zero_add, Nat.add_zero, Nat.add_one_sub_one, Nat.sub_self, Nat.sub_zero, decide_eq_true_eq, Nat.zero_le, Nat.add_zero, Nat.le_refl, b_add, b_sub, c_lt, c_le, c_gt, c_ge, c_eqI, c_neI, c_isNN, c_isIN, c_noNN, c_noIN, o_lenL, o_lenS, o_lenT, o_abs, o_listL, o_listT, o_intI, o_intB, o_max2, o_min2, neg_I] <;> rfl))), ps, some (.int j, .no), some (.int dr, .no), some (.bl false, .no), x8, rfl, keep, t2, klen⟩
                simp only [hij', r6, h6, runF, exs, ex, evT, ev, evs, evB, evP, evC, evI, blOf, sc, Option.bind_some, Option.bind_none, Option.map_some, Option.map_none, bindT, Fl.al, Fl.el, Fl.ow, Fl.rt, Fl.at, tpAt, movOw, als, retF, D.cl, D.cl1, D.hasL, D.hasLs, retO, retOs, cnt, Env.drp, Env.lock, Env.unlock, Out.unlock, setAll, List.getElem?_cons_zero, List.getElem?_cons_succ, List.set_cons_zero, List.set_cons_succ, List.length_cons, List.length_nil, List.map_cons, List.map_nil, List.cons_append, List.nil_append, List.append_nil, List.flatten_cons, List.flatten_nil, List.replicate_succ, List.replicate_zero, List.getElem?_nil, List.set_nil, List.all_cons, List.all_nil, List.filter_cons, List.filter_nil, List.length_set, List.isEmpty_nil, List.isEmpty_cons, List.foldl_cons, List.foldl_nil, List.append_assoc, List.contains_cons, List.zip_cons_cons, List.zip_nil_left, List.zip_nil_right, if_true, if_false, if_pos rfl, ite_true, ite_false, Bool.true_or, Bool.or_true, Bool.false_or, Bool.or_false, Bool.and_true, Bool.true_and, Bool.false_and, Bool.and_false, Bool.not_true, Bool.not_false, decide_true, decide_false, Bool.true_eq_false, Bool.false_eq_true, reduceIte, reduceCtorEq, Nat.reduceAdd, Nat.reduceSub, Nat.reduceLT, Nat.reduceLeDiff, Nat.reduceEqDiff, Nat.zero_lt_succ, Nat.reduceBEq, BEq.rfl, beq_self_eq_true, Nat.lt_add_one, and_self, and_true, true_and, Nat.zero_add, Nat.add_zero, Nat.add_one_sub_one, Nat.sub_self, Nat.sub_zero, decide_eq_true_eq, Nat.zero_le, Nat.add_zero, Nat.le_refl, b_add, b_sub, c_lt, c_le, c_gt, c_ge, c_eqI, c_neI, c_isNN, c_isIN, c_noNN, c_noIN, o_lenL, o_lenS, o_lenT, o_abs, o_listL, o_listT, o_intI, o_intB, o_max2, o_min2, neg_I]
              · obtain ⟨mo, hmo, pmo⟩ := pick5 (1 + dr / 6 % 6) (B + dr) dr (by omega) (by omega) h6
                have hsz : (ps.map encP).length < szb := by rw [List.length_map]; simp only [szb]; omega
                refine ⟨_, _, by simp only [runF, exs, ex, evT, ev, evs, evB, evP, evC, evI, blOf, sc, Option.bind_some, Option.bind_none, Option.map_some, Option.map_none, bindT, Fl.al, Fl.el, Fl.ow, Fl.rt, Fl.at, tpAt, movOw, als, retF, D.cl, D.cl1, D.hasL, D.hasLs, retO, retOs, cnt, Env.drp, Env.lock, Env.unlock, Out.unlock, setAll, List.getElem?_cons_zero, List.getElem?_cons_succ, List.set_cons_zero, List.set_cons_succ, List.length_cons, List.length_nil, List.map_cons, List.map_nil, List.cons_append, List.nil_append, List.append_nil, List.flatten_cons, List.flatten_nil, List.replicate_succ, List.replicate_zero, List.getElem?_nil, List.set_nil, List.all_cons, List.all_nil, List.filter_cons, List.filter_nil, List.length_set, List.isEmpty_nil, List.isEmpty_cons, List.foldl_cons, List.foldl_nil, List.append_assoc, List.contains_cons, List.zip_cons_cons, List.zip_nil_left, List.zip_nil_right, if_true, if_false, if_pos rfl, ite_true, ite_false, Bool.true_or, Bool.or_true, Bool.false_or, Bool.or_false, Bool.and_true, Bool.true_and, Bool.false_and, Bool.and_false, Bool.not_true, Bool.not_false, decide_true, decide_false, Bool.true_eq_false, Bool.false_eq_true, reduceIte, reduceCtorEq, Nat.reduceAdd, Nat.reduceSub, Nat.reduceLT, Nat.reduceLeDiff, Nat.reduceEqDiff, Nat.zero_lt_succ, Nat.reduceBEq, BEq.rfl, beq_self_eq_true, Nat.lt_add_one, and_self, and_true, true_and, Nat.zero_add, Nat.add_zero, Nat.add_one_sub_one, Nat.sub_self, Nat.sub_zero, decide_eq_true_eq, Nat.zero_le, Nat.add_zero, Nat.le_refl, b_add, b_sub, c_lt, c_le, c_gt, c_ge, c_eqI, c_neI, c_isNN, c_isIN, c_noNN, c_noIN, o_lenL, o_lenS, o_lenT, o_abs, o_listL, o_listT, o_intI, o_intB, o_max2, o_min2, neg_I] <;> rfl, .inl (start _ ((exs_f (by simp only [hij', r6, h6, runF, exs, ex, evT, ev, evs, evB, evP, evC, evI, blOf, sc, Option.bind_some, Option.bind_none, Option.map_some, Option.map_none, bindT, Fl.al, Fl.el, Fl.ow, Fl.rt, Fl.at, tpAt, movOw, als, retF, D.cl, D.cl1, D.hasL, D.hasLs, retO, retOs, cnt, Env.drp, Env.lock, Env.unlock, Out.unlock, setAll, List.getElem?_cons_zero, List.getElem?_cons_succ, List.set_cons_zero, List.set_cons_succ, List.length_cons, List.length_nil, List.map_cons, List.map_nil, List.cons_append, List.nil_append, List.append_nil, List.flatten_cons, List.flatten_nil, List.replicate_succ, List.replicate_zero, List.getElem?_nil, List.set_nil, List.all_cons, List.all_nil, List.filter_cons, List.filter_nil, List.length_set, List.isEmpty_nil, List.isEmpty_cons, List.foldl_cons, List.foldl_nil, List.append_assoc, List.contains_cons, List.zip_cons_cons, List.zip_nil_left, List.zip_nil_right, if_true, if_false, if_pos rfl, ite_true, ite_false, Bool.true_or, Bool.or_true, Bool.false_or, Bool.or_false, Bool.and_true, Bool.true_and, Bool.false_and, Bool.and_false, Bool.not_true, Bool.not_false, decide_true, decide_false, Bool.true_eq_false, Bool.false_eq_true, reduceIte, reduceCtorEq, Nat.reduceAdd, Nat.reduceSub, Nat.reduceLT, Nat.reduceLeDiff, Nat.reduceEqDiff, Nat.zero_lt_succ, Nat.reduceBEq, BEq.rfl, beq_self_eq_true, Nat.lt_add_one, and_self, and_true, true_and, Nat.zero_add, Nat.add_zero, Nat.add_one_sub_one, Nat.sub_self, Nat.sub_zero, decide_eq_true_eq, Nat.zero_le, Nat.add_zero, Nat.le_refl, b_add, b_sub, c_lt, c_le, c_gt, c_ge, c_eqI, c_neI, c_isNN, c_isIN, c_noNN, c_noIN, o_lenL, o_lenS, o_lenT, o_abs, o_listL, o_listT, o_intI, o_intB, o_max2, o_min2, neg_I] <;> rfl) rfl).trans ?_)), ps ++ [(i, j, mo)], some (.int j, .no), some (.int dr, .no), some (.bl false, .no), some (encO mo, .no), rfl, ?_, ?_, ?_⟩
                · refine (exs_nx (by simp only [d6, r6, p50, hmo, runF, exs, ex, evT, ev, evs, evB, evP, evC, evI, blOf, sc, Option.bind_some, Option.bind_none, Option.map_some, Option.map_none, bindT, Fl.al, Fl.el, Fl.ow, Fl.rt, Fl.at, tpAt, movOw, als, retF, D.cl, D.cl1, D.hasL, D.hasLs, retO, retOs, cnt, Env.drp, Env.lock, Env.unlock, Out.unlock, setAll, List.getElem?_cons_zero, List.getElem?_cons_succ, List.set_cons_zero, List.set_cons_succ, List.length_cons, List.length_nil, List.map_cons, List.map_nil, List.cons_append, List.nil_append, List.append_nil, List.flatten_cons, List.flatten_nil, List.replicate_succ, List.replicate_zero, List.getElem?_nil, List.set_nil, List.all_cons, List.all_nil, List.filter_cons, List.filter_nil, List.length_set, List.isEmpty_nil, List.isEmpty_cons, List.foldl_cons, List.foldl_nil, List.append_assoc, List.contains_cons, List.zip_cons_cons, List.zip_nil_left, List.zip_nil_right, if_true, if_false, if_pos rfl, ite_true, ite_false, Bool.true_or, Bool.or_true, Bool.false_or, Bool.or_false, Bool.and_true, Bool.true_and, Bool.false_and, Bool.and_false, Bool.not_true, Bool.not_false, decide_true, decide_false, Bool.true_eq_false, Bool.false_eq_true, reduceIte, reduceCtorEq, Nat.reduceAdd, Nat.reduceSub, Nat.reduceLT, Nat.reduceLeDiff, Nat.reduceEqDiff, Nat.zero_lt_succ, Nat.reduceBEq, BEq.rfl, beq_self_eq_true, Nat.lt_add_one, and_self, and_true, true_and, Nat.zero_add, Nat.add_zero, Nat.add_one_sub_one, Nat.sub_self, Nat.sub_zero, decide_eq_true_eq, Nat.zero_le, Nat.add_zero, Nat.le_refl, b_add, b_sub, c_lt, c_le, c_gt, c_ge, c_eqI, c_neI, c_isNN, c_isIN, c_noNN, c_noIN, o_lenL, o_lenS, o_lenT, o_abs, o_listL, o_listT, o_intI, o_intB, o_max2, o_min2, neg_I] <;> rfl)).trans ?_
                  refine (exs_nx (by simp only [hsz, runF, exs, ex, evT, ev, evs, evB, evP, evC, evI, blOf, sc, Option.bind_some, Option.bind_none, Option.map_some, Option.map_none, bindT, Fl.al, Fl.el, Fl.ow, Fl.rt, Fl.at, tpAt, movOw, als, retF, D.cl, D.cl1, D.hasL, D.hasLs, retO, retOs, cnt, Env.drp, Env.lock, Env.unlock, Out.unlock, setAll, List.getElem?_cons_zero, List.getElem?_cons_succ, List.set_cons_zero, List.set_cons_succ, List.length_cons, List.length_nil, List.map_cons, List.map_nil, List.cons_append, List.nil_append, List.append_nil, List.flatten_cons, List.flatten_nil, List.replicate_succ, List.replicate_zero, List.getElem?_nil, List.set_nil, List.all_cons, List.all_nil, List.filter_cons, List.filter_nil, List.length_set, List.isEmpty_nil, List.isEmpty_cons, List.foldl_cons, List.foldl_nil, List.append_assoc, List.contains_cons, List.zip_cons_cons, List.zip_nil_left, List.zip_nil_right, if_true, if_false, if_pos rfl, ite_true, ite_false, Bool.true_or, Bool.or_true, Bool.false_or, Bool.or_false, Bool.and_true, Bool.true_and, Bool.false_and, Bool.and_false, Bool.not_true, Bool.not_false, decide_true, decide_false, Bool.true_eq_false, Bool.false_eq_true, reduceIte, reduceCtorEq, Nat.reduceAdd, Nat.reduceSub, Nat.reduceLT, Nat.reduceLeDiff, Nat.reduceEqDiff, Nat.zero_lt_succ, Nat.reduceBEq, BEq.rfl, beq_self_eq_true, Nat.lt_add_one, and_self, and_true, true_and, Nat.zero_add, Nat.add_zero, Nat.add_one_sub_one, Nat.sub_self, Nat.sub_zero, decide_eq_true_eq, Nat.zero_le, Nat.add_zero, Nat.le_refl, b_add, b_sub, c_lt, c_le, c_gt, c_ge, c_eqI, c_neI, c_isNN, c_isIN, c_noNN, c_noIN, o_lenL, o_lenS, o_lenT, o_abs, o_listL, o_listT, o_intI, o_intB, o_max2, o_min2, neg_I] <;> rfl)).trans ?_
                  simp only [exs, List.map_append, List.map_cons, List.map_nil, encP]
                · intro p hp
                  rcases List.mem_append.mp hp with hp | hp
                  · exact keep p hp
                  · rw [List.mem_singleton] at hp
                    subst hp
                    exact ⟨.inr ⟨rfl, Nat.lt_succ_self j⟩, hin, hjn, hij, pmo⟩
                · rw [List.map_append, List.map_cons, List.map_nil]
                  refine List.nodup_append.mpr ⟨t2, by simp, ?_⟩
                  intro a ha b hb
                  rw [List.mem_singleton] at hb
                  subst hb
                  rintro rfl
                  obtain ⟨p, hp, e⟩ := List.mem_map.mp ha
                  simp only [Prod.mk.injEq] at e
                  have := (t1 p hp).1
                  omega
                · rw [List.length_append, List.length_singleton]
                  split <;> split at t3 <;> omega)
      subst he
      simp only [Nat.zero_add, List.length_map, List.length_range, Int.toNat_natCast] at t1 t3
      refine ⟨_, _, by simp only [runF, exs, ex, evT, ev, evs, evB, evP, evC, evI, blOf, sc, Option.bind_some, Option.bind_none, Option.map_some, Option.map_none, bindT, Fl.al, Fl.el, Fl.ow, Fl.rt, Fl.at, tpAt, movOw, als, retF, D.cl, D.cl1, D.hasL, D.hasLs, retO, retOs, cnt, Env.drp, Env.lock, Env.unlock, Out.unlock, setAll, List.getElem?_cons_zero, List.getElem?_cons_succ, List.set_cons_zero, List.set_cons_succ, List.length_cons, List.length_nil, List.map_cons, List.map_nil, List.cons_append, List.nil_append, List.append_nil, List.flatten_cons, List.flatten_nil, List.replicate_succ, List.replicate_zero, List.getElem?_nil, List.set_nil, List.all_cons, List.all_nil, List.filter_cons, List.filter_nil, List.length_set, List.isEmpty_nil, List.isEmpty_cons, List.foldl_cons, List.foldl_nil, List.append_assoc, List.contains_cons, List.zip_cons_cons, List.zip_nil_left, List.zip_nil_right, if_true, if_false, if_pos rfl, ite_true, ite_false, Bool.true_or, Bool.or_true, Bool.false_or, Bool.or_false, Bool.and_true, Bool.true_and, Bool.false_and, Bool.and_false, Bool.not_true, Bool.not_false, decide_true, decide_false, Bool.true_eq_false, Bool.false_eq_true, reduceIte, reduceCtorEq, Nat.reduceAdd, Nat.reduceSub, Nat.reduceLT, Nat.reduceLeDiff, Nat.reduceEqDiff, Nat.zero_lt_succ, Nat.reduceBEq, BEq.rfl, beq_self_eq_true, Nat.lt_add_one, and_self, and_true, true_and, Nat.zero_add, Nat.add_zero, Nat.add_one_sub_one, Nat.sub_self, Nat.sub_zero, decide_eq_true_eq, Nat.zero_le, Nat.add_zero, Nat.le_refl, b_add, b_sub, c_lt, c_le, c_gt, c_ge, c_eqI, c_neI, c_isNN, c_isIN, c_noNN, c_noIN, o_lenL, o_lenS, o_lenT, o_abs, o_listL, o_listT, o_intI, o_intB, o_max2, o_min2, neg_I] <;> rfl, .inl ?_, ps, some (.int i, .no), x5, x6, x7, x8, rfl, fun p hp => ⟨by have := (t1 p hp).1; omega, (t1 p hp).2⟩, t2, by split at t3 <;> omega⟩
      refine (exs_for (p := ((List.range ((n : Int)).toNat).map fun k : Nat => D.int k, [], [])) (by simp only [hr, runF, exs, ex, evT, ev, evs, evB, evP, evC, evI, blOf, sc, Option.bind_some, Option.bind_none, Option.map_some, Option.map_none, bindT, Fl.al, Fl.el, Fl.ow, Fl.rt, Fl.at, tpAt, movOw, als, retF, D.cl, D.cl1, D.hasL, D.hasLs, retO, retOs, cnt, Env.drp, Env.lock, Env.unlock, Out.unlock, setAll, List.getElem?_cons_zero, List.getElem?_cons_succ, List.set_cons_zero, List.set_cons_succ, List.length_cons, List.length_nil, List.map_cons, List.map_nil, List.cons_append, List.nil_append, List.append_nil, List.flatten_cons, List.flatten_nil, List.replicate_succ, List.replicate_zero, List.getElem?_nil, List.set_nil, List.all_cons, List.all_nil, List.filter_cons, List.filter_nil, List.length_set, List.isEmpty_nil, List.isEmpty_cons, List.foldl_cons, List.foldl_nil, List.append_assoc, List.contains_cons, List.zip_cons_cons, List.zip_nil_left, List.zip_nil_right, if_true, if_false, if_pos rfl, ite_true, ite_false, Bool.true_or, Bool.or_true, Bool.false_or, Bool.or_false, Bool.and_true, Bool.true_and, Bool.false_and, Bool.and_false, Bool.not_true, Bool.not_false, decide_true, decide_false, Bool.true_eq_false, Bool.false_eq_true, reduceIte, reduceCtorEq, Nat.reduceAdd, Nat.reduceSub, Nat.reduceLT, Nat.reduceLeDiff, Nat.reduceEqDiff, Nat.zero_lt_succ, Nat.reduceBEq, BEq.rfl, beq_self_eq_true, Nat.lt_add_one, and_self, and_true, true_and, Nat.zero_add, Nat.add_zero, Nat.add_one_sub_one, Nat.sub_self, Nat.sub_zero, decide_eq_true_eq, Nat.zero_le, Nat.add_zero, Nat.le_refl, b_add, b_sub, c_lt, c_le, c_gt, c_ge, c_eqI, c_neI, c_isNN, c_isIN, c_noNN, c_noIN, o_lenL, o_lenS, o_lenT, o_abs, o_listL, o_listT, o_intI, o_intB, o_max2, o_min2, neg_I] <;> rfl) rfl hfor).trans ?_
      simp only [exs]
      rfl)
  subst he
  simp only [Nat.zero_add, List.length_map, List.length_range, Int.toNat_natCast] at q1 q3
  have N : NetOk n ps := ⟨hn1, hn8, fun p hp => (q1 p hp).2, q2, by omega⟩
  have run : ∀ r, exs G [some (.scr ns, .no), some (.int m0, .no), some (.int n, .no), some (.lst (ps.map encP), .top), x4, x5, x6, x7, x8] (.cons (.ifs (.cmp .Eq (.bin .Mod (.bin .FloorDiv (.var 1) (.int 4)) (.int 2)) (.int 1)) (.cons (.set 3 (.rev (.var 3))) .nil) .nil) (.cons (.retT (.cons (.var 2) (.cons (.var 3) .nil))) .nil)) = some r →
      runF G F27 [.scr ns] = (match r with | .rt d o => some (d, o) | _ => some (.non, .no)) := fun r hrr => by
    have : ∃ d o, r = .rt d o := by
      by_cases h : m0 / 4 % 2 = 1
      · have h2 := (exs_t (G := G) (r := (.cons (.retT (.cons (.var 2) (.cons (.var 3) .nil))) .nil)) (env := [some (.scr ns, .no), some (.int m0, .no), some (.int n, .no), some (.lst (ps.map encP), .top), x4, x5, x6, x7, x8]) (e := [some (.scr ns, .no), some (.int m0, .no), some (.int n, .no), some (.lst (ps.map encP).reverse, .top), x4, x5, x6, x7, x8]) (c := (.cmp .Eq (.bin .Mod (.bin .FloorDiv (.var 1) (.int 4)) (.int 2)) (.int 1))) (a := (.cons (.set 3 (.rev (.var 3))) .nil)) (b := .nil) (by simp only [d4, r2, h, runF, exs, ex, evT, ev, evs, evB, evP, evC, evI, blOf, sc, Option.bind_some, Option.bind_none, Option.map_some, Option.map_none, bindT, Fl.al, Fl.el, Fl.ow, Fl.rt, Fl.at, tpAt, movOw, als, retF, D.cl, D.cl1, D.hasL, D.hasLs, retO, retOs, cnt, Env.drp, Env.lock, Env.unlock, Out.unlock, setAll, List.getElem?_cons_zero, List.getElem?_cons_succ, List.set_cons_zero, List.set_cons_succ, List.length_cons, List.length_nil, List.map_cons, List.map_nil, List.cons_append, List.nil_append, List.append_nil, List.flatten_cons, List.flatten_nil, List.replicate_succ, List.replicate_zero, List.getElem?_nil, List.set_nil, List.all_cons, List.all_nil, List.filter_cons, List.filter_nil, List.length_set, List.isEmpty_nil, List.isEmpty_cons, List.foldl_cons, List.foldl_nil, List.append_assoc, List.contains_cons, List.zip_cons_cons, List.zip_nil_left, List.zip_nil_right, if_true, if_false, if_pos rfl, ite_true, ite_false, Bool.true_or, Bool.or_true, Bool.false_or, Bool.or_false, Bool.and_true, Bool.true_and, Bool.false_and, Bool.and_false, Bool.not_true, Bool.not_false, decide_true, decide_false, Bool.true_eq_false, Bool.false_eq_true, reduceIte, reduceCtorEq, Nat.reduceAdd, Nat.reduceSub, Nat.reduceLT, Nat.reduceLeDiff, Nat.reduceEqDiff, Nat.zero_lt_succ, Nat.reduceBEq, BEq.rfl, beq_self_eq_true, Nat.lt_add_one, and_self, and_true, true_and, Nat.zero_add, Nat.add_zero, Nat.add_one_sub_one, Nat.sub_self, Nat.sub_zero, decide_eq_true_eq, Nat.zero_le, Nat.add_zero, Nat.le_refl, b_add, b_sub, c_lt, c_le, c_gt, c_ge, c_eqI, c_neI, c_isNN, c_isIN, c_noNN, c_noIN, o_lenL, o_lenS, o_lenT, o_abs, o_listL, o_listT, o_intI, o_intB, o_max2, o_min2, neg_I] <;> rfl) (by simp only [runF, exs, ex, evT, ev, evs, evB, evP, evC, evI, blOf, sc, Option.bind_some, Option.bind_none, Option.map_some, Option.map_none, bindT, Fl.al, Fl.el, Fl.ow, Fl.rt, Fl.at, tpAt, movOw, als, retF, D.cl, D.cl1, D.hasL, D.hasLs, retO, retOs, cnt, Env.drp, Env.lock, Env.unlock, Out.unlock, setAll, List.getElem?_cons_zero, List.getElem?_cons_succ, List.set_cons_zero, List.set_cons_succ, List.length_cons, List.length_nil, List.map_cons, List.map_nil, List.cons_append, List.nil_append, List.append_nil, List.flatten_cons, List.flatten_nil, List.replicate_succ, List.replicate_zero, List.getElem?_nil, List.set_nil, List.all_cons, List.all_nil, List.filter_cons, List.filter_nil, List.length_set, List.isEmpty_nil, List.isEmpty_cons, List.foldl_cons, List.foldl_nil, List.append_assoc, List.contains_cons, List.zip_cons_cons, List.zip_nil_left, List.zip_nil_right, if_true, if_false, if_pos rfl, ite_true, ite_false, Bool.true_or, Bool.or_true, Bool.false_or, Bool.or_false, Bool.and_true, Bool.true_and, Bool.false_and, Bool.and_false, Bool.not_true, Bool.not_false, decide_true, decide_false, Bool.true_eq_false, Bool.false_eq_true, reduceIte, reduceCtorEq, Nat.reduceAdd, Nat.reduceSub, Nat.reduceLT, Nat.reduceLeDiff, Nat.reduceEqDiff, Nat.zero_lt_succ, Nat.reduceBEq, BEq.rfl, beq_self_eq_true, Nat.lt_add_one, and_self, and_true, true_and, Nat.zero_add, Nat.add_zero, Nat.add_one_sub_one, Nat.sub_self, Nat.sub_zero, decide_eq_true_eq, Nat.zero_le, Nat.add_zero, Nat.le_refl, b_add, b_sub, c_lt, c_le, c_gt, c_ge, c_eqI, c_neI, c_isNN, c_isIN, c_noNN, c_noIN, o_lenL, o_lenS, o_lenT, o_abs, o_listL, o_listT, o_intI, o_intB, o_max2, o_min2, neg_I] <;> rfl))
        rw [h2, exs_rt (by simp only [runF, exs, ex, evT, ev, evs, evB, evP, evC, evI, blOf, sc, Option.bind_some, Option.bind_none, Option.map_some, Option.map_none, bindT, Fl.al, Fl.el, Fl.ow, Fl.rt, Fl.at, tpAt, movOw, als, retF, D.cl, D.cl1, D.hasL, D.hasLs, retO, retOs, cnt, Env.drp, Env.lock, Env.unlock, Out.unlock, setAll, List.getElem?_cons_zero, List.getElem?_cons_succ, List.set_cons_zero, List.set_cons_succ, List.length_cons, List.length_nil, List.map_cons, List.map_nil, List.cons_append, List.nil_append, List.append_nil, List.flatten_cons, List.flatten_nil, List.replicate_succ, List.replicate_zero, List.getElem?_nil, List.set_nil, List.all_cons, List.all_nil, List.filter_cons, List.filter_nil, List.length_set, List.isEmpty_nil, List.isEmpty_cons, List.foldl_cons, List.foldl_nil, List.append_assoc, List.contains_cons, List.zip_cons_cons, List.zip_nil_left, List.zip_nil_right, if_true, if_false, if_pos rfl, ite_true, ite_false, Bool.true_or, Bool.or_true, Bool.false_or, Bool.or_false, Bool.and_true, Bool.true_and, Bool.false_and, Bool.and_false, Bool.not_true, Bool.not_false, decide_true, decide_false, Bool.true_eq_false, Bool.false_eq_true, reduceIte, reduceCtorEq, Nat.reduceAdd, Nat.reduceSub, Nat.reduceLT, Nat.reduceLeDiff, Nat.reduceEqDiff, Nat.zero_lt_succ, Nat.reduceBEq, BEq.rfl, beq_self_eq_true, Nat.lt_add_one, and_self, and_true, true_and, Nat.zero_add, Nat.add_zero, Nat.add_one_sub_one, Nat.sub_self, Nat.sub_zero, decide_eq_true_eq, Nat.zero_le, Nat.add_zero, Nat.le_refl, b_add, b_sub, c_lt, c_le, c_gt, c_ge, c_eqI, c_neI, c_isNN, c_isIN, c_noNN, c_noIN, o_lenL, o_lenS, o_lenT, o_abs, o_listL, o_listT, o_intI, o_intB, o_max2, o_min2, neg_I] <;> rfl)] at hrr
        cases hrr
        exact ⟨_, _, rfl⟩
      · have h2 := (exs_f (G := G) (r := (.cons (.retT (.cons (.var 2) (.cons (.var 3) .nil))) .nil)) (env := [some (.scr ns, .no), some (.int m0, .no), some (.int n, .no), some (.lst (ps.map encP), .top), x4, x5, x6, x7, x8]) (e := [some (.scr ns, .no), some (.int m0, .no), some (.int n, .no), some (.lst (ps.map encP), .top), x4, x5, x6, x7, x8]) (c := (.cmp .Eq (.bin .Mod (.bin .FloorDiv (.var 1) (.int 4)) (.int 2)) (.int 1))) (a := (.cons (.set 3 (.rev (.var 3))) .nil)) (b := .nil) (by simp only [d4, r2, h, runF, exs, ex, evT, ev, evs, evB, evP, evC, evI, blOf, sc, Option.bind_some, Option.bind_none, Option.map_some, Option.map_none, bindT, Fl.al, Fl.el, Fl.ow, Fl.rt, Fl.at, tpAt, movOw, als, retF, D.cl, D.cl1, D.hasL, D.hasLs, retO, retOs, cnt, Env.drp, Env.lock, Env.unlock, Out.unlock, setAll, List.getElem?_cons_zero, List.getElem?_cons_succ, List.set_cons_zero, List.set_cons_succ, List.length_cons, List.length_nil, List.map_cons, List.map_nil, List.cons_append, List.nil_append, List.append_nil, List.flatten_cons, List.flatten_nil, List.replicate_succ, List.replicate_zero, List.getElem?_nil, List.set_nil, List.all_cons, List.all_nil, List.filter_cons, List.filter_nil, List.length_set, List.isEmpty_nil, List.isEmpty_cons, List.foldl_cons, List.foldl_nil, List.append_assoc, List.contains_cons, List.zip_cons_cons, List.zip_nil_left, List.zip_nil_right, if_true, if_false, if_pos rfl, ite_true, ite_false, Bool.true_or, Bool.or_true, Bool.false_or, Bool.or_false, Bool.and_true, Bool.true_and, Bool.false_and, Bool.and_false, Bool.not_true, Bool.not_false, decide_true, decide_false, Bool.true_eq_false, Bool.false_eq_true, reduceIte, reduceCtorEq, Nat.reduceAdd, Nat.reduceSub, Nat.reduceLT, Nat.reduceLeDiff, Nat.reduceEqDiff, Nat.zero_lt_succ, Nat.reduceBEq, BEq.rfl, beq_self_eq_true, Nat.lt_add_one, and_self, and_true, true_and, Nat.zero_add, Nat.add_zero, Nat.add_one_sub_one, Nat.sub_self, Nat.sub_zero, decide_eq_true_eq, Nat.zero_le, Nat.add_zero, Nat.le_refl, b_add, b_sub, c_lt, c_le, c_gt, c_ge, c_eqI, c_neI, c_isNN, c_isIN, c_noNN, c_noIN, o_lenL, o_lenS, o_lenT, o_abs, o_listL, o_listT, o_intI, o_intB, o_max2, o_min2, neg_I] <;> rfl) rfl)
        rw [h2, exs_rt (by simp only [runF, exs, ex, evT, ev, evs, evB, evP, evC, evI, blOf, sc, Option.bind_some, Option.bind_none, Option.map_some, Option.map_none, bindT, Fl.al, Fl.el, Fl.ow, Fl.rt, Fl.at, tpAt, movOw, als, retF, D.cl, D.cl1, D.hasL, D.hasLs, retO, retOs, cnt, Env.drp, Env.lock, Env.unlock, Out.unlock, setAll, List.getElem?_cons_zero, List.getElem?_cons_succ, List.set_cons_zero, List.set_cons_succ, List.length_cons, List.length_nil, List.map_cons, List.map_nil, List.cons_append, List.nil_append, List.append_nil, List.flatten_cons, List.flatten_nil, List.replicate_succ, List.replicate_zero, List.getElem?_nil, List.set_nil, List.all_cons, List.all_nil, List.filter_cons, List.filter_nil, List.length_set, List.isEmpty_nil, List.isEmpty_cons, List.foldl_cons, List.foldl_nil, List.append_assoc, List.contains_cons, List.zip_cons_cons, List.zip_nil_left, List.zip_nil_right, if_true, if_false, if_pos rfl, ite_true, ite_false, Bool.true_or, Bool.or_true, Bool.false_or, Bool.or_false, Bool.and_true, Bool.true_and, Bool.false_and, Bool.and_false, Bool.not_true, Bool.not_false, decide_true, decide_false, Bool.true_eq_false, Bool.false_eq_true, reduceIte, reduceCtorEq, Nat.reduceAdd, Nat.reduceSub, Nat.reduceLT, Nat.reduceLeDiff, Nat.reduceEqDiff, Nat.zero_lt_succ, Nat.reduceBEq, BEq.rfl, beq_self_eq_true, Nat.lt_add_one, and_self, and_true, true_and, Nat.zero_add, Nat.add_zero, Nat.add_one_sub_one, Nat.sub_self, Nat.sub_zero, decide_eq_true_eq, Nat.zero_le, Nat.add_zero, Nat.le_refl, b_add, b_sub, c_lt, c_le, c_gt, c_ge, c_eqI, c_neI, c_isNN, c_isIN, c_noNN, c_noIN, o_lenL, o_lenS, o_lenT, o_abs, o_listL, o_listT, o_intI, o_intB, o_max2, o_min2, neg_I] <;> rfl)] at hrr
        cases hrr
        exact ⟨_, _, rfl⟩
    obtain ⟨d, o, rfl⟩ := this
    refine runF_rt [some (.scr ns, .no), none, none, none, none, none, none, none, none] rfl rfl ?_
    refine (exs_nx (by simp only [hc0, hm0, runF, exs, ex, evT, ev, evs, evB, evP, evC, evI, blOf, sc, Option.bind_some, Option.bind_none, Option.map_some, Option.map_none, bindT, Fl.al, Fl.el, Fl.ow, Fl.rt, Fl.at, tpAt, movOw, als, retF, D.cl, D.cl1, D.hasL, D.hasLs, retO, retOs, cnt, Env.drp, Env.lock, Env.unlock, Out.unlock, setAll, List.getElem?_cons_zero, List.getElem?_cons_succ, List.set_cons_zero, List.set_cons_succ, List.length_cons, List.length_nil, List.map_cons, List.map_nil, List.cons_append, List.nil_append, List.append_nil, List.flatten_cons, List.flatten_nil, List.replicate_succ, List.replicate_zero, List.getElem?_nil, List.set_nil, List.all_cons, List.all_nil, List.filter_cons, List.filter_nil, List.length_set, List.isEmpty_nil, List.isEmpty_cons, List.foldl_cons, List.foldl_nil, List.append_assoc, List.contains_cons, List.zip_cons_cons, List.zip_nil_left, List.zip_nil_right, if_true, if_false, if_pos rfl, ite_true, ite_false, Bool.true_or, Bool.or_true, Bool.false_or, Bool.or_false, Bool.and_true, Bool.true_and, Bool.false_and, Bool.and_false, Bool.not_true, Bool.not_false, decide_true, decide_false, Bool.true_eq_false, Bool.false_eq_true, reduceIte, reduceCtorEq, Nat.reduceAdd, Nat.reduceSub, Nat.reduceLT, Nat.reduceLeDiff, Nat.reduceEqDiff, Nat.zero_lt_succ, Nat.reduceBEq, BEq.rfl, beq_self_eq_true, Nat.lt_add_one, and_self, and_true, true_and, Nat.zero_add, Nat.add_zero, Nat.add_one_sub_one, Nat.sub_self, Nat.sub_zero, decide_eq_true_eq, Nat.zero_le, Nat.add_zero, Nat.le_refl, b_add, b_sub, c_lt, c_le, c_gt, c_ge, c_eqI, c_neI, c_isNN, c_isIN, c_noNN, c_noIN, o_lenL, o_lenS, o_lenT, o_abs, o_listL, o_listT, o_intI, o_intB, o_max2, o_min2, neg_I] <;> rfl)).trans ?_
    refine (exs_nx (by simp only [hc0, r4, runF, exs, ex, evT, ev, evs, evB, evP, evC, evI, blOf, sc, Option.bind_some, Option.bind_none, Option.map_some, Option.map_none, bindT, Fl.al, Fl.el, Fl.ow, Fl.rt, Fl.at, tpAt, movOw, als, retF, D.cl, D.cl1, D.hasL, D.hasLs, retO, retOs, cnt, Env.drp, Env.lock, Env.unlock, Out.unlock, setAll, List.getElem?_cons_zero, List.getElem?_cons_succ, List.set_cons_zero, List.set_cons_succ, List.length_cons, List.length_nil, List.map_cons, List.map_nil, List.cons_append, List.nil_append, List.append_nil, List.flatten_cons, List.flatten_nil, List.replicate_succ, List.replicate_zero, List.getElem?_nil, List.set_nil, List.all_cons, List.all_nil, List.filter_cons, List.filter_nil, List.length_set, List.isEmpty_nil, List.isEmpty_cons, List.foldl_cons, List.foldl_nil, List.append_assoc, List.contains_cons, List.zip_cons_cons, List.zip_nil_left, List.zip_nil_right, if_true, if_false, if_pos rfl, ite_true, ite_false, Bool.true_or, Bool.or_true, Bool.false_or, Bool.or_false, Bool.and_true, Bool.true_and, Bool.false_and, Bool.and_false, Bool.not_true, Bool.not_false, decide_true, decide_false, Bool.true_eq_false, Bool.false_eq_true, reduceIte, reduceCtorEq, Nat.reduceAdd, Nat.reduceSub, Nat.reduceLT, Nat.reduceLeDiff, Nat.reduceEqDiff, Nat.zero_lt_succ, Nat.reduceBEq, BEq.rfl, beq_self_eq_true, Nat.lt_add_one, and_self, and_true, true_and, Nat.zero_add, Nat.add_zero, Nat.add_one_sub_one, Nat.sub_self, Nat.sub_zero, decide_eq_true_eq, Nat.zero_le, Nat.add_zero, Nat.le_refl, b_add, b_sub, c_lt, c_le, c_gt, c_ge, c_eqI, c_neI, c_isNN, c_isIN, c_noNN, c_noIN, o_lenL, o_lenS, o_lenT, o_abs, o_listL, o_listT, o_intI, o_intB, o_max2, o_min2, neg_I] <;> rfl)).trans ?_
    refine (hh _).trans ?_
    refine (exs_nx (by simp only [runF, exs, ex, evT, ev, evs, evB, evP, evC, evI, blOf, sc, Option.bind_some, Option.bind_none, Option.map_some, Option.map_none, bindT, Fl.al, Fl.el, Fl.ow, Fl.rt, Fl.at, tpAt, movOw, als, retF, D.cl, D.cl1, D.hasL, D.hasLs, retO, retOs, cnt, Env.drp, Env.lock, Env.unlock, Out.unlock, setAll, List.getElem?_cons_zero, List.getElem?_cons_succ, List.set_cons_zero, List.set_cons_succ, List.length_cons, List.length_nil, List.map_cons, List.map_nil, List.cons_append, List.nil_append, List.append_nil, List.flatten_cons, List.flatten_nil, List.replicate_succ, List.replicate_zero, List.getElem?_nil, List.set_nil, List.all_cons, List.all_nil, List.filter_cons, List.filter_nil, List.length_set, List.isEmpty_nil, List.isEmpty_cons, List.foldl_cons, List.foldl_nil, List.append_assoc, List.contains_cons, List.zip_cons_cons, List.zip_nil_left, List.zip_nil_right, if_true, if_false, if_pos rfl, ite_true, ite_false, Bool.true_or, Bool.or_true, Bool.false_or, Bool.or_false, Bool.and_true, Bool.true_and, Bool.false_and, Bool.and_false, Bool.not_true, Bool.not_false, decide_true, decide_false, Bool.true_eq_false, Bool.false_eq_true, reduceIte, reduceCtorEq, Nat.reduceAdd, Nat.reduceSub, Nat.reduceLT, Nat.reduceLeDiff, Nat.reduceEqDiff, Nat.zero_lt_succ, Nat.reduceBEq, BEq.rfl, beq_self_eq_true, Nat.lt_add_one, and_self, and_true, true_and, Nat.zero_add, Nat.add_zero, Nat.add_one_sub_one, Nat.sub_self, Nat.sub_zero, decide_eq_true_eq, Nat.zero_le, Nat.add_zero, Nat.le_refl, b_add, b_sub, c_lt, c_le, c_gt, c_ge, c_eqI, c_neI, c_isNN, c_isIN, c_noNN, c_noIN, o_lenL, o_lenS, o_lenT, o_abs, o_listL, o_listT, o_intI, o_intB, o_max2, o_min2, neg_I] <;> rfl)).trans ?_
    refine (exs_for (p := ((List.range ((n : Int)).toNat).map fun k : Nat => D.int k, [], [])) (by simp only [hr, runF, exs, ex, evT, ev, evs, evB, evP, evC, evI, blOf, sc, Option.bind_some, Option.bind_none, Option.map_some, Option.map_none, bindT, Fl.al, Fl.el, Fl.ow, Fl.rt, Fl.at, tpAt, movOw, als, retF, D.cl, D.cl1, D.hasL, D.hasLs, retO, retOs, cnt, Env.drp, Env.lock, Env.unlock, Out.unlock, setAll, List.getElem?_cons_zero, List.getElem?_cons_succ, List.set_cons_zero, List.set_cons_succ, List.length_cons, List.length_nil, List.map_cons, List.map_nil, List.cons_append, List.nil_append, List.append_nil, List.flatten_cons, List.flatten_nil, List.replicate_succ, List.replicate_zero, List.getElem?_nil, List.set_nil, List.all_cons, List.all_nil, List.filter_cons, List.filter_nil, List.length_set, List.isEmpty_nil, List.isEmpty_cons, List.foldl_cons, List.foldl_nil, List.append_assoc, List.contains_cons, List.zip_cons_cons, List.zip_nil_left, List.zip_nil_right, if_true, if_false, if_pos rfl, ite_true, ite_false, Bool.true_or, Bool.or_true, Bool.false_or, Bool.or_false, Bool.and_true, Bool.true_and, Bool.false_and, Bool.and_false, Bool.not_true, Bool.not_false, decide_true, decide_false, Bool.true_eq_false, Bool.false_eq_true, reduceIte, reduceCtorEq, Nat.reduceAdd, Nat.reduceSub, Nat.reduceLT, Nat.reduceLeDiff, Nat.reduceEqDiff, Nat.zero_lt_succ, Nat.reduceBEq, BEq.rfl, beq_self_eq_true, Nat.lt_add_one, and_self, and_true, true_and, Nat.zero_add, Nat.add_zero, Nat.add_one_sub_one, Nat.sub_self, Nat.sub_zero, decide_eq_true_eq, Nat.zero_le, Nat.add_zero, Nat.le_refl, b_add, b_sub, c_lt, c_le, c_gt, c_ge, c_eqI, c_neI, c_isNN, c_isIN, c_noNN, c_noIN, o_lenL, o_lenS, o_lenT, o_abs, o_listL, o_listT, o_intI, o_intB, o_max2, o_min2, neg_I] <;> rfl) rfl hfor).trans ?_
    exact hrr
  by_cases h : m0 / 4 % 2 = 1
  · refine ⟨n, ps.reverse, (run (.rt (encNet n ps.reverse) (.tp [.no, .top])) ?_), N.rev⟩
    refine (exs_t (by simp only [d4, r2, h, runF, exs, ex, evT, ev, evs, evB, evP, evC, evI, blOf, sc, Option.bind_some, Option.bind_none, Option.map_some, Option.map_none, bindT, Fl.al, Fl.el, Fl.ow, Fl.rt, Fl.at, tpAt, movOw, als, retF, D.cl, D.cl1, D.hasL, D.hasLs, retO, retOs, cnt, Env.drp, Env.lock, Env.unlock, Out.unlock, setAll, List.getElem?_cons_zero, List.getElem?_cons_succ, List.set_cons_zero, List.set_cons_succ, List.length_cons, List.length_nil, List.map_cons, List.map_nil, List.cons_append, List.nil_append, List.append_nil, List.flatten_cons, List.flatten_nil, List.replicate_succ, List.replicate_zero, List.getElem?_nil, List.set_nil, List.all_cons, List.all_nil, List.filter_cons, List.filter_nil, List.length_set, List.isEmpty_nil, List.isEmpty_cons, List.foldl_cons, List.foldl_nil, List.append_assoc, List.contains_cons, List.zip_cons_cons, List.zip_nil_left, List.zip_nil_right, if_true, if_false, if_pos rfl, ite_true, ite_false, Bool.true_or, Bool.or_true, Bool.false_or, Bool.or_false, Bool.and_true, Bool.true_and, Bool.false_and, Bool.and_false, Bool.not_true, Bool.not_false, decide_true, decide_false, Bool.true_eq_false, Bool.false_eq_true, reduceIte, reduceCtorEq, Nat.reduceAdd, Nat.reduceSub, Nat.reduceLT, Nat.reduceLeDiff, Nat.reduceEqDiff, Nat.zero_lt_succ, Nat.reduceBEq, BEq.rfl, beq_self_eq_true, Nat.lt_add_one, and_self, and_true, true_and, Nat.zero_add, Nat.add_zero, Nat.add_one_sub_one, Nat.sub_self, Nat.sub_zero, decide_eq_true_eq, Nat.zero_le, Nat.add_zero, Nat.le_refl, b_add, b_sub, c_lt, c_le, c_gt, c_ge, c_eqI, c_neI, c_isNN, c_isIN, c_noNN, c_noIN, o_lenL, o_lenS, o_lenT, o_abs, o_listL, o_listT, o_intI, o_intB, o_max2, o_min2, neg_I] <;> rfl) (by simp only [runF, exs, ex, evT, ev, evs, evB, evP, evC, evI, blOf, sc, Option.bind_some, Option.bind_none, Option.map_some, Option.map_none, bindT, Fl.al, Fl.el, Fl.ow, Fl.rt, Fl.at, tpAt, movOw, als, retF, D.cl, D.cl1, D.hasL, D.hasLs, retO, retOs, cnt, Env.drp, Env.lock, Env.unlock, Out.unlock, setAll, List.getElem?_cons_zero, List.getElem?_cons_succ, List.set_cons_zero, List.set_cons_succ, List.length_cons, List.length_nil, List.map_cons, List.map_nil, List.cons_append, List.nil_append, List.append_nil, List.flatten_cons, List.flatten_nil, List.replicate_succ, List.replicate_zero, List.getElem?_nil, List.set_nil, List.all_cons, List.all_nil, List.filter_cons, List.filter_nil, List.length_set, List.isEmpty_nil, List.isEmpty_cons, List.foldl_cons, List.foldl_nil, List.append_assoc, List.contains_cons, List.zip_cons_cons, List.zip_nil_left, List.zip_nil_right, if_true, if_false, if_pos rfl, ite_true, ite_false, Bool.true_or, Bool.or_true, Bool.false_or, Bool.or_false, Bool.and_true, Bool.true_and, Bool.false_and, Bool.and_false, Bool.not_true, Bool.not_false, decide_true, decide_false, Bool.true_eq_false, Bool.false_eq_true, reduceIte, reduceCtorEq, Nat.reduceAdd, Nat.reduceSub, Nat.reduceLT, Nat.reduceLeDiff, Nat.reduceEqDiff, Nat.zero_lt_succ, Nat.reduceBEq, BEq.rfl, beq_self_eq_true, Nat.lt_add_one, and_self, and_true, true_and, Nat.zero_add, Nat.add_zero, Nat.add_one_sub_one, Nat.sub_self, Nat.sub_zero, decide_eq_true_eq, Nat.zero_le, Nat.add_zero, Nat.le_refl, b_add, b_sub, c_lt, c_le, c_gt, c_ge, c_eqI, c_neI, c_isNN, c_isIN, c_noNN, c_noIN, o_lenL, o_lenS, o_lenT, o_abs, o_listL, o_listT, o_intI, o_intB, o_max2, o_min2, neg_I] <;> rfl)).trans ?_
    refine exs_rt ?_
    simp only [encNet, List.map_reverse, runF, exs, ex, evT, ev, evs, evB, evP, evC, evI, blOf, sc, Option.bind_some, Option.bind_none, Option.map_some, Option.map_none, bindT, Fl.al, Fl.el, Fl.ow, Fl.rt, Fl.at, tpAt, movOw, als, retF, D.cl, D.cl1, D.hasL, D.hasLs, retO, retOs, cnt, Env.drp, Env.lock, Env.unlock, Out.unlock, setAll, List.getElem?_cons_zero, List.getElem?_cons_succ, List.set_cons_zero, List.set_cons_succ, List.length_cons, List.length_nil, List.map_cons, List.map_nil, List.cons_append, List.nil_append, List.append_nil, List.flatten_cons, List.flatten_nil, List.replicate_succ, List.replicate_zero, List.getElem?_nil, List.set_nil, List.all_cons, List.all_nil, List.filter_cons, List.filter_nil, List.length_set, List.isEmpty_nil, List.isEmpty_cons, List.foldl_cons, List.foldl_nil, List.append_assoc, List.contains_cons, List.zip_cons_cons, List.zip_nil_left, List.zip_nil_right, if_true, if_false, if_pos rfl, ite_true, ite_false, Bool.true_or, Bool.or_true, Bool.false_or, Bool.or_false, Bool.and_true, Bool.true_and, Bool.false_and, Bool.and_false, Bool.not_true, Bool.not_false, decide_true, decide_false, Bool.true_eq_false, Bool.false_eq_true, reduceIte, reduceCtorEq, Nat.reduceAdd, Nat.reduceSub, Nat.reduceLT, Nat.reduceLeDiff, Nat.reduceEqDiff, Nat.zero_lt_succ, Nat.reduceBEq, BEq.rfl, beq_self_eq_true, Nat.lt_add_one, and_self, and_true, true_and, Nat.zero_add, Nat.add_zero, Nat.add_one_sub_one, Nat.sub_self, Nat.sub_zero, decide_eq_true_eq, Nat.zero_le, Nat.add_zero, Nat.le_refl, b_add, b_sub, c_lt, c_le, c_gt, c_ge, c_eqI, c_neI, c_isNN, c_isIN, c_noNN, c_noIN, o_lenL, o_lenS, o_lenT, o_abs, o_listL, o_listT, o_intI, o_intB, o_max2, o_min2, neg_I]
  · refine ⟨n, ps, (run (.rt (encNet n ps) (.tp [.no, .top])) ?_), N⟩
    refine (exs_f (by simp only [d4, r2, h, runF, exs, ex, evT, ev, evs, evB, evP, evC, evI, blOf, sc, Option.bind_some, Option.bind_none, Option.map_some, Option.map_none, bindT, Fl.al, Fl.el, Fl.ow, Fl.rt, Fl.at, tpAt, movOw, als, retF, D.cl, D.cl1, D.hasL, D.hasLs, retO, retOs, cnt, Env.drp, Env.lock, Env.unlock, Out.unlock, setAll, List.getElem?_cons_zero, List.getElem?_cons_succ, List.set_cons_zero, List.set_cons_succ, List.length_cons, List.length_nil, List.map_cons, List.map_nil, List.cons_append, List.nil_append, List.append_nil, List.flatten_cons, List.flatten_nil, List.replicate_succ, List.replicate_zero, List.getElem?_nil, List.set_nil, List.all_cons, List.all_nil, List.filter_cons, List.filter_nil, List.length_set, List.isEmpty_nil, List.isEmpty_cons, List.foldl_cons, List.foldl_nil, List.append_assoc, List.contains_cons, List.zip_cons_cons, List.zip_nil_left, List.zip_nil_right, if_true, if_false, if_pos rfl, ite_true, ite_false, Bool.true_or, Bool.or_true, Bool.false_or, Bool.or_false, Bool.and_true, Bool.true_and, Bool.false_and, Bool.and_false, Bool.not_true, Bool.not_false, decide_true, decide_false, Bool.true_eq_false, Bool.false_eq_true, reduceIte, reduceCtorEq, Nat.reduceAdd, Nat.reduceSub, Nat.reduceLT, Nat.reduceLeDiff, Nat.reduceEqDiff, Nat.zero_lt_succ, Nat.reduceBEq, BEq.rfl, beq_self_eq_true, Nat.lt_add_one, and_self, and_true, true_and, Nat.zero_add, Nat.add_zero, Nat.add_one_sub_one, Nat.sub_self, Nat.sub_zero, decide_eq_true_eq, Nat.zero_le, Nat.add_zero, Nat.le_refl, b_add, b_sub, c_lt, c_le, c_gt, c_ge, c_eqI, c_neI, c_isNN, c_isIN, c_noNN, c_noIN, o_lenL, o_lenS, o_lenT, o_abs, o_listL, o_listT, o_intI, o_intB, o_max2, o_min2, neg_I] <;> rfl) rfl).trans ?_
    refine exs_rt ?_
    simp only [encNet, runF, exs, ex, evT, ev, evs, evB, evP, evC, evI, blOf, sc, Option.bind_some, Option.bind_none, Option.map_some, Option.map_none, bindT, Fl.al, Fl.el, Fl.ow, Fl.rt, Fl.at, tpAt, movOw, als, retF, D.cl, D.cl1, D.hasL, D.hasLs, retO, retOs, cnt, Env.drp, Env.lock, Env.unlock, Out.unlock, setAll, List.getElem?_cons_zero, List.getElem?_cons_succ, List.set_cons_zero, List.set_cons_succ, List.length_cons, List.length_nil, List.map_cons, List.map_nil, List.cons_append, List.nil_append, List.append_nil, List.flatten_cons, List.flatten_nil, List.replicate_succ, List.replicate_zero, List.getElem?_nil, List.set_nil, List.all_cons, List.all_nil, List.filter_cons, List.filter_nil, List.length_set, List.isEmpty_nil, List.isEmpty_cons, List.foldl_cons, List.foldl_nil, List.append_assoc, List.contains_cons, List.zip_cons_cons, List.zip_nil_left, List.zip_nil_right, if_true, if_false, if_pos rfl, ite_true, ite_false, Bool.true_or, Bool.or_true, Bool.false_or, Bool.or_false, Bool.and_true, Bool.true_and, Bool.false_and, Bool.and_false, Bool.not_true, Bool.not_false, decide_true, decide_false, Bool.true_eq_false, Bool.false_eq_true, reduceIte, reduceCtorEq, Nat.reduceAdd, Nat.reduceSub, Nat.reduceLT, Nat.reduceLeDiff, Nat.reduceEqDiff, Nat.zero_lt_succ, Nat.reduceBEq, BEq.rfl, beq_self_eq_true, Nat.lt_add_one, and_self, and_true, true_and, Nat.zero_add, Nat.add_zero, Nat.add_one_sub_one, Nat.sub_self, Nat.sub_zero, decide_eq_true_eq, Nat.zero_le, Nat.add_zero, Nat.le_refl, b_add, b_sub, c_lt, c_le, c_gt, c_ge, c_eqI, c_neI, c_isNN, c_isIN, c_noNN, c_noIN, o_lenL, o_lenS, o_lenT, o_abs, o_listL, o_listT, o_intI, o_intB, o_max2, o_min2, neg_I]
end Ix
set_option Elab.async false
set_option linter.all false
set_option maxRecDepth 100000
set_option maxHeartbeats 4000000
namespace Ix
open PySem PySem.Spec PyProof.Rows L2

theorem signs28 (G : Orc) (ns : List Int) (n last : Nat) (ps : List Path) (hn : 1 ≤ n) (hc : ∀ k : Nat, k ≤ 1000000 → ∃ c, G.call 26 [.scr ns, .int k] = some (.int c, .no)) (hm : ∀ c k : Int, 0 ≤ k → k ≤ 1000000 → ∃ m, G.call 2 [.int c, .int k] = some (.int m, .no) ∧ 0 ≤ m) :
    ∃ sg, runF G F28 [.scr ns, encNet n ps, .int last] = some (.lst (sg.map encS), .top) ∧ SgOk n last sg := by
  classical
  obtain ⟨c2, hc2⟩ := hc 2 (by omega)
  have hc2 : G.call 26 [.scr ns, .int 2] = some (.int c2, .no) := hc2
  obtain ⟨m2, hm2, p2⟩ := hm c2 2 (by omega) (by omega)
  have d25 := fun a f g => b_div (a := a) (b := 25) (f := f) (g := g) (by decide) (by decide)
  have d300 := fun a f g => b_div (a := a) (b := 300) (f := f) (g := g) (by decide) (by decide)
  have d5 := fun a f g => b_div (a := a) (b := 5) (f := f) (g := g) (by decide) (by decide)
  have r12 := fun a f g => b_mod (a := a) (b := 12) (f := f) (g := g) (by decide)
  have r5 := fun a f g => b_mod (a := a) (b := 5) (f := f) (g := g) (by decide)
  have r4 := fun a f g => b_mod (a := a) (b := 4) (f := f) (g := g) (by decide)
  have r2 := fun a f g => b_mod (a := a) (b := 2) (f := f) (g := g) (by decide)
  obtain ⟨a, ea, la⟩ := nat_of (x := c2 / 25 % 12) (n := 12) (by omega) (by omega)
  -- the names
  obtain ⟨w1, w2, w3, w4, k1, k2, k3, k4, hw⟩ : ∃ w1 w2 w3 w4 : Str, PyData.canLay0 (.str w1) = true ∧ PyData.canLay0 (.str w2) = true ∧ PyData.canLay0 (.str w3) = true ∧ PyData.canLay0 (.str w4) = true ∧ ∀ r : ISs,
      exs G [some (.scr ns, .no), some (encNet n ps, .no), some (.int last, .no), some (.lst [], .top), some (.int a, .no), none, none, none, none] (ISs.cons (.set 5 (.lst (.cons (.str "a") (.cons (.str "ab") (.cons (.str "ba") (.cons (.str "zzzzzzzzzzzz") .nil))))))
        (.cons (.ifs (.cmp .Eq (.bin .Mod (.bin .FloorDiv (.call 26 (.cons (.var 0) (.cons (.int 2) .nil))) (.int 300)) (.int 2)) (.int 1)) (.cons (.set 5 (.lst (.cons (.str "aaaaaaaaaaaa") (.cons (.bin .Add (.bin .Add (.bin .Mult (.str "a") (.var 4)) (.str "b")) (.bin .Mult (.str "a") (.bin .Sub (.int 11) (.var 4)))) (.cons (.bin .Add (.bin .Add (.bin .Mult (.str "a") (.var 4)) (.str "c")) (.bin .Mult (.str "a") (.bin .Sub (.int 11) (.var 4)))) (.cons (.bin .Mult (.str "a") (.int 11)) .nil)))))) .nil) .nil) r)) =
      exs G [some (.scr ns, .no), some (encNet n ps, .no), some (.int last, .no), some (.lst [], .top), some (.int a, .no), some (.lst [.str w1, .str w2, .str w3, .str w4], .top), none, none, none] r := by
    by_cases h : c2 / 300 % 2 = 1
    · obtain ⟨n1, n2, l1, l2, l3, l4⟩ := name_ok a la
      have mA := fun j f g h0 h1 => b_mulS (a := "a") (j := j) (f := f) (g := g) (by decide) h0 h1
      have m1 := fun f g => mA (a : Int) f g (by omega) (by omega)
      have m2 := fun f g => mA (11 - (a : Int)) f g (by omega) (by omega)
      have m3 := fun f g => mA 11 f g (by omega) (by omega)
      have lb : (Str.ofString "b").length = 1 := by decide
      have lc : (Str.ofString "c").length = 1 := by decide
      have a1 := fun f g => b_addS (a := Txt.mul "a" (a : Int)) (b := "b") (f := f) (g := g) (by simp only [szb]; omega)
      have a2 := fun f g => b_addS (a := Txt.mul "a" (a : Int)) (b := "c") (f := f) (g := g) (by simp only [szb]; omega)
      have a3 := fun f g => b_addS (a := Txt.mul "a" (a : Int) ++ "b") (b := Txt.mul "a" (11 - (a : Int))) (f := f) (g := g) (by simp only [szb]; omega)
      have a4 := fun f g => b_addS (a := Txt.mul "a" (a : Int) ++ "c") (b := Txt.mul "a" (11 - (a : Int))) (f := f) (g := g) (by simp only [szb]; omega)
      refine ⟨"aaaaaaaaaaaa", nameAt a "b", nameAt a "c", Txt.mul "a" 11, by decide +kernel, n1, n2, by decide +kernel, fun r => ?_⟩
      refine (exs_nx (by simp only [runF, exs, ex, evT, ev, evs, evB, evP, evC, evI, blOf, sc, Option.bind_some, Option.bind_none, Option.map_some, Option.map_none, bindT, Fl.al, Fl.el, Fl.ow, Fl.rt, Fl.at, tpAt, movOw, als, retF, D.cl, D.cl1, D.hasL, D.hasLs, retO, retOs, cnt, Env.drp, Env.lock, Env.unlock, Out.unlock, setAll, List.getElem?_cons_zero, List.getElem?_cons_succ, List.set_cons_zero, List.set_cons_succ, List.length_cons, List.length_nil, List.map_cons, List.map_nil, List.cons_append, List.nil_append, List.append_nil, List.flatten_cons, List.flatten_nil, List.replicate_succ, List.replicate_zero, List.getElem?_nil, List.set_nil, List.all_cons, List.all_nil, List.filter_cons, List.filter_nil, List.length_set, List.isEmpty_nil, List.isEmpty_cons, List.foldl_cons, List.foldl_nil, List.append_assoc, List.contains_cons, List.zip_cons_cons, List.zip_nil_left, List.zip_nil_right, if_true, if_false, if_pos rfl, ite_true, ite_false, Bool.true_or, Bool.or_true, Bool.false_or, Bool.or_false, Bool.and_true, Bool.true_and, Bool.false_and, Bool.and_false, Bool.not_true, Bool.not_false, decide_true, decide_false, Bool.true_eq_false, Bool.false_eq_true, reduceIte, reduceCtorEq, Nat.reduceAdd, Nat.reduceSub, Nat.reduceLT, Nat.reduceLeDiff, Nat.reduceEqDiff, Nat.zero_lt_succ, Nat.reduceBEq, BEq.rfl, beq_self_eq_true, Nat.lt_add_one, and_self, and_true, true_and, Nat.zero_add, Nat.add_zero, Nat.add_one_sub_one, Nat.sub_self, Nat.sub_zero, decide_eq_true_eq, Nat.zero_le, Nat.add_zero, Nat.le_refl, b_add, b_sub, c_lt, c_le, c_gt, c_ge, c_eqI, c_neI, c_isNN, c_isIN, c_noNN, c_noIN, o_lenL, o_lenS, o_lenT, o_abs, o_listL, o_listT, o_intI, o_intB, o_max2, o_min2, neg_I] <;> rfl)).trans ?_
      exact exs_t (by simp only [hc2, d300, r2, h, runF, exs, ex, evT, ev, evs, evB, evP, evC, evI, blOf, sc, Option.bind_some, Option.bind_none, Option.map_some, Option.map_none, bindT, Fl.al, Fl.el, Fl.ow, Fl.rt, Fl.at, tpAt, movOw, als, retF, D.cl, D.cl1, D.hasL, D.hasLs, retO, retOs, cnt, Env.drp, Env.lock, Env.unlock, Out.unlock, setAll, List.getElem?_cons_zero, List.getElem?_cons_succ, List.set_cons_zero, List.set_cons_succ, List.length_cons, List.length_nil, List.map_cons, List.map_nil, List.cons_append, List.nil_append, List.append_nil, List.flatten_cons, List.flatten_nil, List.replicate_succ, List.replicate_zero, List.getElem?_nil, List.set_nil, List.all_cons, List.all_nil, List.filter_cons, List.filter_nil, List.length_set, List.isEmpty_nil, List.isEmpty_cons, List.foldl_cons, List.foldl_nil, List.append_assoc, List.contains_cons, List.zip_cons_cons, List.zip_nil_left, List.zip_nil_right, if_true, if_false, if_pos rfl, ite_true, ite_false, Bool.true_or, Bool.or_true, Bool.false_or, Bool.or_false, Bool.and_true, Bool.true_and, Bool.false_and, Bool.and_false, Bool.not_true, Bool.not_false, decide_true, decide_false, Bool.true_eq_false, Bool.false_eq_true, reduceIte, reduceCtorEq, Nat.reduceAdd, Nat.reduceSub, Nat.reduceLT, Nat.reduceLeDiff, Nat.reduceEqDiff, Nat.zero_lt_succ, Nat.reduceBEq, BEq.rfl, beq_self_eq_true, Nat.lt_add_one, and_self, and_true, true_and, Nat.zero_add, Nat.add_zero, Nat.add_one_sub_one, Nat.sub_self, Nat.sub_zero, decide_eq_true_eq, Nat.zero_le, Nat.add_zero, Nat.le_refl, b_add, b_sub, c_lt, c_le, c_gt, c_ge, c_eqI, c_neI, c_isNN, c_isIN, c_noNN, c_noIN, o_lenL, o_lenS, o_lenT, o_abs, o_listL, o_listT, o_intI, o_intB, o_max2, o_min2, neg_I] <;> rfl) (by simp only [m1, m2, m3, a1, a2, a3, a4, runF, exs, ex, evT, ev, evs, evB, evP, evC, evI, blOf, sc, Option.bind_some, Option.bind_none, Option.map_some, Option.map_none, bindT, Fl.al, Fl.el, Fl.ow, Fl.rt, Fl.at, tpAt, movOw, als, retF, D.cl, D.cl1, D.hasL, D.hasLs, retO, retOs, cnt, Env.drp, Env.lock, Env.unlock, Out.unlock, setAll, List.getElem?_cons_zero, List.getElem?_cons_succ, List.set_cons_zero, List.set_cons_succ, List.length_cons, List.length_nil, List.map_cons, List.map_nil, List.cons_append, List.nil_append, List.append_nil, List.flatten_cons, List.flatten_nil, List.replicate_succ, List.replicate_zero, List.getElem?_nil, List.set_nil, List.all_cons, List.all_nil, List.filter_cons, List.filter_nil, List.length_set, List.isEmpty_nil, List.isEmpty_cons, List.foldl_cons, List.foldl_nil, List.append_assoc, List.contains_cons, List.zip_cons_cons, List.zip_nil_left, List.zip_nil_right, if_true, if_false, if_pos rfl, ite_true, ite_false, Bool.true_or, Bool.or_true, Bool.false_or, Bool.or_false, Bool.and_true, Bool.true_and, Bool.false_and, Bool.and_false, Bool.not_true, Bool.not_false, decide_true, decide_false, Bool.true_eq_false, Bool.false_eq_true, reduceIte, reduceCtorEq, Nat.reduceAdd, Nat.reduceSub, Nat.reduceLT, Nat.reduceLeDiff, Nat.reduceEqDiff, Nat.zero_lt_succ, Nat.reduceBEq, BEq.rfl, beq_self_eq_true, Nat.lt_add_one, and_self, and_true, true_and, Nat.zero_add, Nat.add_zero, Nat.add_one_sub_one, Nat.sub_self, Nat.sub_zero, decide_eq_true_eq, Nat.zero_le, Nat.add_zero, Nat.le_refl, b_add, b_sub, c_lt, c_le, c_gt, c_ge, c_eqI, c_neI, c_isNN, c_isIN, c_noNN, c_noIN, o_lenL, o_lenS, o_lenT, o_abs, o_listL, o_listT, o_intI, o_intB, o_max2, o_min2, neg_I] <;> rfl)
    · refine ⟨"a", "ab", "ba", "zzzzzzzzzzzz", by decide +kernel, by decide +kernel, by decide +kernel, by decide +kernel, fun r => ?_⟩
      refine (exs_nx (by simp only [runF, exs, ex, evT, ev, evs, evB, evP, evC, evI, blOf, sc, Option.bind_some, Option.bind_none, Option.map_some, Option.map_none, bindT, Fl.al, Fl.el, Fl.ow, Fl.rt, Fl.at, tpAt, movOw, als, retF, D.cl, D.cl1, D.hasL, D.hasLs, retO, retOs, cnt, Env.drp, Env.lock, Env.unlock, Out.unlock, setAll, List.getElem?_cons_zero, List.getElem?_cons_succ, List.set_cons_zero, List.set_cons_succ, List.length_cons, List.length_nil, List.map_cons, List.map_nil, List.cons_append, List.nil_append, List.append_nil, List.flatten_cons, List.flatten_nil, List.replicate_succ, List.replicate_zero, List.getElem?_nil, List.set_nil, List.all_cons, List.all_nil, List.filter_cons, List.filter_nil, List.length_set, List.isEmpty_nil, List.isEmpty_cons, List.foldl_cons, List.foldl_nil, List.append_assoc, List.contains_cons, List.zip_cons_cons, List.zip_nil_left, List.zip_nil_right, if_true, if_false, if_pos rfl, ite_true, ite_false, Bool.true_or, Bool.or_true, Bool.false_or, Bool.or_false, Bool.and_true, Bool.true_and, Bool.false_and, Bool.and_false, Bool.not_true, Bool.not_false, decide_true, decide_false, Bool.true_eq_false, Bool.false_eq_true, reduceIte, reduceCtorEq, Nat.reduceAdd, Nat.reduceSub, Nat.reduceLT, Nat.reduceLeDiff, Nat.reduceEqDiff, Nat.zero_lt_succ, Nat.reduceBEq, BEq.rfl, beq_self_eq_true, Nat.lt_add_one, and_self, and_true, true_and, Nat.zero_add, Nat.add_zero, Nat.add_one_sub_one, Nat.sub_self, Nat.sub_zero, decide_eq_true_eq, Nat.zero_le, Nat.add_zero, Nat.le_refl, b_add, b_sub, c_lt, c_le, c_gt, c_ge, c_eqI, c_neI, c_isNN, c_isIN, c_noNN, c_noIN, o_lenL, o_lenS, o_lenT, o_abs, o_listL, o_listT, o_intI, o_intB, o_max2, o_min2, neg_I] <;> rfl)).trans ?_
      exact exs_f (by simp only [hc2, d300, r2, h, runF, exs, ex, evT, ev, evs, evB, evP, evC, evI, blOf, sc, Option.bind_some, Option.bind_none, Option.map_some, Option.map_none, bindT, Fl.al, Fl.el, Fl.ow, Fl.rt, Fl.at, tpAt, movOw, als, retF, D.cl, D.cl1, D.hasL, D.hasLs, retO, retOs, cnt, Env.drp, Env.lock, Env.unlock, Out.unlock, setAll, List.getElem?_cons_zero, List.getElem?_cons_succ, List.set_cons_zero, List.set_cons_succ, List.length_cons, List.length_nil, List.map_cons, List.map_nil, List.cons_append, List.nil_append, List.append_nil, List.flatten_cons, List.flatten_nil, List.replicate_succ, List.replicate_zero, List.getElem?_nil, List.set_nil, List.all_cons, List.all_nil, List.filter_cons, List.filter_nil, List.length_set, List.isEmpty_nil, List.isEmpty_cons, List.foldl_cons, List.foldl_nil, List.append_assoc, List.contains_cons, List.zip_cons_cons, List.zip_nil_left, List.zip_nil_right, if_true, if_false, if_pos rfl, ite_true, ite_false, Bool.true_or, Bool.or_true, Bool.false_or, Bool.or_false, Bool.and_true, Bool.true_and, Bool.false_and, Bool.and_false, Bool.not_true, Bool.not_false, decide_true, decide_false, Bool.true_eq_false, Bool.false_eq_true, reduceIte, reduceCtorEq, Nat.reduceAdd, Nat.reduceSub, Nat.reduceLT, Nat.reduceLeDiff, Nat.reduceEqDiff, Nat.zero_lt_succ, Nat.reduceBEq, BEq.rfl, beq_self_eq_true, Nat.lt_add_one, and_self, and_true, true_and, Nat.zero_add, Nat.add_zero, Nat.add_one_sub_one, Nat.sub_self, Nat.sub_zero, decide_eq_true_eq, Nat.zero_le, Nat.add_zero, Nat.le_refl, b_add, b_sub, c_lt, c_le, c_gt, c_ge, c_eqI, c_neI, c_isNN, c_isIN, c_noNN, c_noIN, o_lenL, o_lenS, o_lenT, o_abs, o_listL, o_listT, o_intI, o_intB, o_max2, o_min2, neg_I] <;> rfl) rfl
  have hr := okR_of (i := m2 % 5) (by omega) (by omega)
  obtain ⟨e', hfor, sg, x6, x7, x8, he, q1, q2, q3⟩ := forL_inv (f := fun _ e => exs G e (.cons (.set 7 (.call 2 (.cons (.call 26 (.cons (.var 0) (.cons (.bin .Add (.int 3) (.var 6)) .nil))) (.cons (.bin .Add (.int 500) (.var 6)) .nil)))) (.cons (.set 8 (.tup (.cons (.bin .Mod (.var 7) (.idx (.var 1) (.int 0))) (.cons (.bin .Mod (.bin .FloorDiv (.var 7) (.int 5)) (.bin .Add (.var 2) (.int 1))) (.cons (.idx (.var 5) (.bin .Mod (.bin .FloorDiv (.var 7) (.int 300)) (.int 4))) .nil))))) (.cons (.ifs (.cmp .NotIn (.var 8) (.var 3)) (.cons (.app 3 (.var 8)) .nil) .nil) .nil)))) (tg := .one 6)
    (fun i e => ∃ (sg : List Sgn) (x6 x7 x8 : Option (D × Ow)), e = [some (.scr ns, .no), some (encNet n ps, .no), some (.int last, .no), some (.lst (sg.map encS), .top), some (.int a, .no), some (.lst [.str w1, .str w2, .str w3, .str w4], .top), x6, x7, x8] ∧
      (∀ s ∈ sg, s.1 < n ∧ s.2.1 ≤ last ∧ PyData.canLay0 (.str s.2.2) = true) ∧ sg.Nodup ∧ sg.length ≤ i)
    (ds := (List.range (m2 % 5).toNat).map fun k : Nat => D.int k) (env := [some (.scr ns, .no), some (encNet n ps, .no), some (.int last, .no), some (.lst [], .top), some (.int a, .no), some (.lst [.str w1, .str w2, .str w3, .str w4], .top), none, none, none]) 0 ⟨[], none, none, none, rfl, by simp, List.nodup_nil, by simp⟩ (by
      rintro j d e hd ⟨sg, x6, x7, x8, rfl, q1, q2, q3⟩
      rw [List.getElem?_map] at hd
      obtain ⟨k, hk, rfl⟩ := Option.map_eq_some_iff.mp hd
      obtain ⟨hk1, hk2⟩ := List.getElem?_eq_some_iff.mp hk
      rw [List.getElem_range] at hk2
      rw [List.length_range] at hk1
      subst hk2
      simp only [Nat.zero_add] at q3 ⊢
      obtain ⟨cj, hcj⟩ := hc (3 + j) (by omega)
      have hcj : G.call 26 [.scr ns, .int (3 + (j : Int))] = some (.int cj, .no) := by rw [← hcj]; congr 4
      obtain ⟨dr, hdr, pdr⟩ := hm cj (500 + j) (by omega) (by omega)
      obtain ⟨s, es, ls⟩ := nat_of (x := dr % n) (n := n) (Int.emod_nonneg _ (by omega)) (Int.emod_lt_of_pos _ (by omega))
      obtain ⟨t, et, lt⟩ := nat_of (x := dr / 5 % ((last : Int) + 1)) (n := last + 1) (Int.emod_nonneg _ (by omega)) (by have := Int.emod_lt_of_pos (dr / 5) (show (0 : Int) < last + 1 by omega); omega)
      obtain ⟨z, hz, pz⟩ := name4 w1 w2 w3 w4 (dr / 300) k1 k2 k3 k4
      have rn := fun a f g => b_mod (a := a) (b := (n : Nat)) (f := f) (g := g) (by omega)
      have rl := fun a f g => b_mod (a := a) (b := (last : Int) + 1) (f := f) (g := g) (by omega)
      have hni := notin_sgn (s := (s, t, z)) (sg := sg) pz fun x hx => (q1 x hx).2.2
      simp only [encS] at hni
      have start : ∀ o, exs G [some (.scr ns, .no), some (encNet n ps, .no), some (.int last, .no), some (.lst (sg.map encS), .top), some (.int a, .no), some (.lst [.str w1, .str w2, .str w3, .str w4], .top), some (.int j, .no), some (.int dr, .no), some (encS (s, t, z), .tp [.no, .no, .no])]
          (.cons (.ifs (.cmp .NotIn (.var 8) (.var 3)) (.cons (.app 3 (.var 8)) .nil) .nil) .nil) = some o →
          exs G [some (.scr ns, .no), some (encNet n ps, .no), some (.int last, .no), some (.lst (sg.map encS), .top), some (.int a, .no), some (.lst [.str w1, .str w2, .str w3, .str w4], .top), some (.int j, .no), x7, x8] (.cons (.set 7 (.call 2 (.cons (.call 26 (.cons (.var 0) (.cons (.bin .Add (.int 3) (.var 6)) .nil))) (.cons (.bin .Add (.int 500) (.var 6)) .nil)))) (.cons (.set 8 (.tup (.cons (.bin .Mod (.var 7) (.idx (.var 1) (.int 0))) (.cons (.bin .Mod (.bin .FloorDiv (.var 7) (.int 5)) (.bin .Add (.var 2) (.int 1))) (.cons (.idx (.var 5) (.bin .Mod (.bin .FloorDiv (.var 7) (.int 300)) (.int 4))) .nil))))) (.cons (.ifs (.cmp .NotIn (.var 8) (.var 3)) (.cons (.app 3 (.var 8)) .nil) .nil) .nil))) = some o := fun o ho => by
        refine (exs_nx (by simp only [hcj, hdr, runF, exs, ex, evT, ev, evs, evB, evP, evC, evI, blOf, sc, Option.bind_some, Option.bind_none, Option.map_some, Option.map_none, bindT, Fl.al, Fl.el, Fl.ow, Fl.rt, Fl.at, tpAt, movOw, als, retF, D.cl, D.cl1, D.hasL, D.hasLs, retO, retOs, cnt, Env.drp, Env.lock, Env.unlock, Out.unlock, setAll, List.getElem?_cons_zero, List.getElem?_cons_succ, List.set_cons_zero, List.set_cons_succ, List.length_cons, List.length_nil, List.map_cons, List.map_nil, List.cons_append, List.nil_append, List.append_nil, List.flatten_cons, List.flatten_nil, List.replicate_succ, List.replicate_zero, List.getElem?_nil, List.set_nil, List.all_cons, List.all_nil, List.filter_cons, List.filter_nil, List.length_set, List.isEmpty_nil, List.isEmpty_cons, List.foldl_cons, List.foldl_nil, List.append_assoc, List.contains_cons, List.zip_cons_cons, List.zip_nil_left, List.zip_nil_right, if_true, if_false, if_pos rfl, ite_true, ite_false, Bool.true_or, Bool.or_true, Bool.false_or, Bool.or_false, Bool.and_true, Bool.true_and, Bool.false_and, Bool.and_false, Bool.not_true, Bool.not_false, decide_true, decide_false, Bool.true_eq_false, Bool.false_eq_true, reduceIte, reduceCtorEq, Nat.reduceAdd, Nat.reduceSub, Nat.reduceLT, Nat.reduceLeDiff, Nat.reduceEqDiff, Nat.zero_lt_succ, Nat.reduceBEq, BEq.rfl, beq_self_eq_true, Nat.lt_add_one, and_self, and_true, true_and, Nat.zero_add, Nat.add_zero, Nat.add_one_sub_one, Nat.sub_self, Nat.sub_zero, decide_eq_true_eq, Nat.zero_le, Nat.add_zero, Nat.le_refl, b_add, b_sub, c_lt, c_le, c_gt, c_ge, c_eqI, c_neI, c_isNN, c_isIN, c_noNN, c_noIN, o_lenL, o_lenS, o_lenT, o_abs, o_listL, o_listT, o_intI, o_intB, o_max2, o_min2, neg_I] <;> rfl)).trans ?_
        refine (exs_nx (by simp only [i_net0, rn, rl, d5, d300, r4, es, et, hz, runF, exs, ex, evT, ev, evs, evB, evP, evC, evI, blOf, sc, Option.bind_some, Option.bind_none, Option.map_some, Option.map_none, bindT, Fl.al, Fl.el, Fl.ow, Fl.rt, Fl.at, tpAt, movOw, als, retF, D.cl, D.cl1, D.hasL, D.hasLs, retO, retOs, cnt, Env.drp, Env.lock, Env.unlock, Out.unlock, setAll, List.getElem?_cons_zero, List.getElem?_cons_succ, List.set_cons_zero, List.set_cons_succ, List.length_cons, List.length_nil, List.map_cons, List.map_nil, List.cons_append, List.nil_append, List.append_nil, List.flatten_cons, List.flatten_nil, List.replicate_succ, List.replicate_zero, List.getElem?_nil, List.set_nil, List.all_cons, List.all_nil, List.filter_cons, List.filter_nil, List.length_set, List.isEmpty_nil, List.isEmpty_cons, List.foldl_cons, List.foldl_nil, List.append_assoc, List.contains_cons, List.zip_cons_cons, List.zip_nil_left, List.zip_nil_right, if_true, if_false, if_pos rfl, ite_true, ite_false, Bool.true_or, Bool.or_true, Bool.false_or, Bool.or_false, Bool.and_true, Bool.true_and, Bool.false_and, Bool.and_false, Bool.not_true, Bool.not_false, decide_true, decide_false, Bool.true_eq_false, Bool.false_eq_true, reduceIte, reduceCtorEq, Nat.reduceAdd, Nat.reduceSub, Nat.reduceLT, Nat.reduceLeDiff, Nat.reduceEqDiff, Nat.zero_lt_succ, Nat.reduceBEq, BEq.rfl, beq_self_eq_true, Nat.lt_add_one, and_self, and_true, true_and, Nat.zero_add, Nat.add_zero, Nat.add_one_sub_one, Nat.sub_self, Nat.sub_zero, decide_eq_true_eq, Nat.zero_le, Nat.add_zero, Nat.le_refl, b_add, b_sub, c_lt, c_le, c_gt, c_ge, c_eqI, c_neI, c_isNN, c_isIN, c_noNN, c_noIN, o_lenL, o_lenS, o_lenT, o_abs, o_listL, o_listT, o_intI, o_intB, o_max2, o_min2, neg_I] <;> rfl)).trans ?_
        exact ho
      by_cases hin : (s, t, z) ∈ sg
      · refine ⟨_, _, by simp only [runF, exs, ex, evT, ev, evs, evB, evP, evC, evI, blOf, sc, Option.bind_some, Option.bind_none, Option.map_some, Option.map_none, bindT, Fl.al, Fl.el, Fl.ow, Fl.rt, Fl.at, tpAt, movOw, als, retF, D.cl, D.cl1, D.hasL, D.hasLs, retO, retOs, cnt, Env.drp, Env.lock, Env.unlock, Out.unlock, setAll, List.getElem?_cons_zero, List.getElem?_cons_succ, List.set_cons_zero, List.set_cons_succ, List.length_cons, List.length_nil, List.map_cons, List.map_nil, List.cons_append, List.nil_append, List.append_nil, List.flatten_cons, List.flatten_nil, List.replicate_succ, List.replicate_zero, List.getElem?_nil, List.set_nil, List.all_cons, List.all_nil, List.filter_cons, List.filter_nil, List.length_set, List.isEmpty_nil, List.isEmpty_cons, List.foldl_cons, List.foldl_nil, List.append_assoc, List.contains_cons, List.zip_cons_cons, List.zip_nil_left, List.zip_nil_right, if_true, if_false, if_pos rfl, ite_true, ite_false, Bool.true_or, Bool.or_true, Bool.false_or, Bool.or_false, Bool.and_true, Bool.true_and, Bool.false_and, Bool.and_false, Bool.not_true, Bool.not_false, decide_true, decide_false, Bool.true_eq_false, Bool.false_eq_true, reduceIte, reduceCtorEq, Nat.reduceAdd, Nat.reduceSub, Nat.reduceLT, Nat.reduceLeDiff, Nat.reduceEqDiff, Nat.zero_lt_succ, Nat.reduceBEq, BEq.rfl, beq_self_eq_true, Nat.lt_add_one, and_self, and_true, true_and, Nat.zero_add, Nat.add_zero, Nat.add_one_sub_one, Nat.sub_self, Nat.sub_zero, decide_eq_true_eq, Nat.zero_le, Nat.add_zero, Nat.le_refl, b_add, b_sub, c_lt, c_le, c_gt, c_ge, c_eqI, c_neI, c_isNN, c_isIN, c_noNN, c_noIN, o_lenL, o_lenS, o_lenT, o_abs, o_listL, o_listT, o_intI, o_intB, o_max2, o_min2, neg_I] <;> rfl, .inl (start _ ?_), sg, some (.int j, .no), some (.int dr, .no), some (encS (s, t, z), .tp [.no, .no, .no]), rfl, q1, q2, by omega⟩
        refine exs_f ?_ rfl
        simp only [encS, hni, hin, runF, exs, ex, evT, ev, evs, evB, evP, evC, evI, blOf, sc, Option.bind_some, Option.bind_none, Option.map_some, Option.map_none, bindT, Fl.al, Fl.el, Fl.ow, Fl.rt, Fl.at, tpAt, movOw, als, retF, D.cl, D.cl1, D.hasL, D.hasLs, retO, retOs, cnt, Env.drp, Env.lock, Env.unlock, Out.unlock, setAll, List.getElem?_cons_zero, List.getElem?_cons_succ, List.set_cons_zero, List.set_cons_succ, List.length_cons, List.length_nil, List.map_cons, List.map_nil, List.cons_append, List.nil_append, List.append_nil, List.flatten_cons, List.flatten_nil, List.replicate_succ, List.replicate_zero, List.getElem?_nil, List.set_nil, List.all_cons, List.all_nil, List.filter_cons, List.filter_nil, List.length_set, List.isEmpty_nil, List.isEmpty_cons, List.foldl_cons, List.foldl_nil, List.append_assoc, List.contains_cons, List.zip_cons_cons, List.zip_nil_left, List.zip_nil_right, if_true, if_false, if_pos rfl, ite_true, ite_false, Bool.true_or, Bool.or_true, Bool.false_or, Bool.or_false, Bool.and_true, Bool.true_and, Bool.false_and, Bool.and_false, Bool.not_true, Bool.not_false, decide_true, decide_false, Bool.true_eq_false, Bool.false_eq_true, reduceIte, reduceCtorEq, Nat.reduceAdd, Nat.reduceSub, Nat.reduceLT, Nat.reduceLeDiff, Nat.reduceEqDiff, Nat.zero_lt_succ, Nat.reduceBEq, BEq.rfl, beq_self_eq_true, Nat.lt_add_one, and_self, and_true, true_and, Nat.zero_add, Nat.add_zero, Nat.add_one_sub_one, Nat.sub_self, Nat.sub_zero, decide_eq_true_eq, Nat.zero_le, Nat.add_zero, Nat.le_refl, b_add, b_sub, c_lt, c_le, c_gt, c_ge, c_eqI, c_neI, c_isNN, c_isIN, c_noNN, c_noIN, o_lenL, o_lenS, o_lenT, o_abs, o_listL, o_listT, o_intI, o_intB, o_max2, o_min2, neg_I]
      · have hsz : (sg.map encS).length < szb := by rw [List.length_map]; simp only [szb]; omega
        refine ⟨_, _, by simp only [runF, exs, ex, evT, ev, evs, evB, evP, evC, evI, blOf, sc, Option.bind_some, Option.bind_none, Option.map_some, Option.map_none, bindT, Fl.al, Fl.el, Fl.ow, Fl.rt, Fl.at, tpAt, movOw, als, retF, D.cl, D.cl1, D.hasL, D.hasLs, retO, retOs, cnt, Env.drp, Env.lock, Env.unlock, Out.unlock, setAll, List.getElem?_cons_zero, List.getElem?_cons_succ, List.set_cons_zero, List.set_cons_succ, List.length_cons, List.length_nil, List.map_cons, List.map_nil, List.cons_append, List.nil_append, List.append_nil, List.flatten_cons, List.flatten_nil, List.replicate_succ, List.replicate_zero, List.getElem?_nil, List.set_nil, List.all_cons, List.all_nil, List.filter_cons, List.filter_nil, List.length_set, List.isEmpty_nil, List.isEmpty_cons, List.foldl_cons, List.foldl_nil, List.append_assoc, List.contains_cons, List.zip_cons_cons, List.zip_nil_left, List.zip_nil_right, if_true, if_false, if_pos rfl, ite_true, ite_false, Bool.true_or, Bool.or_true, Bool.false_or, Bool.or_false, Bool.and_true, Bool.true_and, Bool.false_and, Bool.and_false, Bool.not_true, Bool.not_false, decide_true, decide_false, Bool.true_eq_false, Bool.false_eq_true, reduceIte, reduceCtorEq, Nat.reduceAdd, Nat.reduceSub, Nat.reduceLT, Nat.reduceLeDiff, Nat.reduceEqDiff, Nat.zero_lt_succ, Nat.reduceBEq, BEq.rfl, beq_self_eq_true, Nat.lt_add_one, and_self, and_true, true_and, Nat.zero_add, Nat.add_zero, Nat.add_one_sub_one, Nat.sub_self, Nat.sub_zero, decide_eq_true_eq, Nat.zero_le, Nat.add_zero, Nat.le_refl, b_add, b_sub, c_lt, c_le, c_gt, c_ge, c_eqI, c_neI, c_isNN, c_isIN, c_noNN, c_noIN, o_lenL, o_lenS, o_lenT, o_abs, o_listL, o_listT, o_intI, o_intB, o_max2, o_min2, neg_I] <;> rfl, .inl (start _ ?_), sg ++ [(s, t, z)], some (.int j, .no), some (.int dr, .no), some (encS (s, t, z), .no), rfl, ?_, ?_, by simp; omega⟩
        · refine exs_t ?_ ?_
          · simp only [encS, hni, hin, runF, exs, ex, evT, ev, evs, evB, evP, evC, evI, blOf, sc, Option.bind_some, Option.bind_none, Option.map_some, Option.map_none, bindT, Fl.al, Fl.el, Fl.ow, Fl.rt, Fl.at, tpAt, movOw, als, retF, D.cl, D.cl1, D.hasL, D.hasLs, retO, retOs, cnt, Env.drp, Env.lock, Env.unlock, Out.unlock, setAll, List.getElem?_cons_zero, List.getElem?_cons_succ, List.set_cons_zero, List.set_cons_succ, List.length_cons, List.length_nil, List.map_cons, List.map_nil, List.cons_append, List.nil_append, List.append_nil, List.flatten_cons, List.flatten_nil, List.replicate_succ, List.replicate_zero, List.getElem?_nil, List.set_nil, List.all_cons, List.all_nil, List.filter_cons, List.filter_nil, List.length_set, List.isEmpty_nil, List.isEmpty_cons, List.foldl_cons, List.foldl_nil, List.append_assoc, List.contains_cons, List.zip_cons_cons, List.zip_nil_left, List.zip_nil_right, if_true, if_false, if_pos rfl, ite_true, ite_false, Bool.true_or, Bool.or_true, Bool.false_or, Bool.or_false, Bool.and_true, Bool.true_and, Bool.false_and, Bool.and_false, Bool.not_true, Bool.not_false, decide_true, decide_false, Bool.true_eq_false, Bool.false_eq_true, reduceIte, reduceCtorEq, Nat.reduceAdd, Nat.reduceSub, Nat.reduceLT, Nat.reduceLeDiff, Nat.reduceEqDiff, Nat.zero_lt_succ, Nat.reduceBEq, BEq.rfl, beq_self_eq_true, Nat.lt_add_one, and_self, and_true, true_and, Nat.zero_add, Nat.add_zero, Nat.add_one_sub_one, Nat.sub_self, Nat.sub_zero, decide_eq_true_eq, Nat.zero_le, Nat.add_zero, Nat.le_refl, b_add, b_sub, c_lt, c_le, c_gt, c_ge, c_eqI, c_neI, c_isNN, c_isIN, c_noNN, c_noIN, o_lenL, o_lenS, o_lenT, o_abs, o_listL, o_listT, o_intI, o_intB, o_max2, o_min2, neg_I]
          · refine (exs_nx (by simp only [hsz, runF, exs, ex, evT, ev, evs, evB, evP, evC, evI, blOf, sc, Option.bind_some, Option.bind_none, Option.map_some, Option.map_none, bindT, Fl.al, Fl.el, Fl.ow, Fl.rt, Fl.at, tpAt, movOw, als, retF, D.cl, D.cl1, D.hasL, D.hasLs, retO, retOs, cnt, Env.drp, Env.lock, Env.unlock, Out.unlock, setAll, List.getElem?_cons_zero, List.getElem?_cons_succ, List.set_cons_zero, List.set_cons_succ, List.length_cons, List.length_nil, List.map_cons, List.map_nil, List.cons_append, List.nil_append, List.append_nil, List.flatten_cons, List.flatten_nil, List.replicate_succ, List.replicate_zero, List.getElem?_nil, List.set_nil, List.all_cons, List.all_nil, List.filter_cons, List.filter_nil, List.length_set, List.isEmpty_nil, List.isEmpty_cons, List.foldl_cons, List.foldl_nil, List.append_assoc, List.contains_cons, List.zip_cons_cons, List.zip_nil_left, List.zip_nil_right, if_true, if_false, if_pos rfl, ite_true, ite_false, Bool.true_or, Bool.or_true, Bool.false_or, Bool.or_false, Bool.and_true, Bool.true_and, Bool.false_and, Bool.and_false, Bool.not_true, Bool.not_false, decide_true, decide_false, Bool.true_eq_false, Bool.false_eq_true, reduceIte, reduceCtorEq, Nat.reduceAdd, Nat.reduceSub, Nat.reduceLT, Nat.reduceLeDiff, Nat.reduceEqDiff, Nat.zero_lt_succ, Nat.reduceBEq, BEq.rfl, beq_self_eq_true, Nat.lt_add_one, and_self, and_true, true_and, Nat.zero_add, Nat.add_zero, Nat.add_one_sub_one, Nat.sub_self, Nat.sub_zero, decide_eq_true_eq, Nat.zero_le, Nat.add_zero, Nat.le_refl, b_add, b_sub, c_lt, c_le, c_gt, c_ge, c_eqI, c_neI, c_isNN, c_isIN, c_noNN, c_noIN, o_lenL, o_lenS, o_lenT, o_abs, o_listL, o_listT, o_intI, o_intB, o_max2, o_min2, neg_I] <;> rfl)).trans ?_
            simp only [exs, List.map_append, List.map_cons, List.map_nil]
        · intro p hp
          rcases List.mem_append.mp hp with hp | hp
          · exact q1 p hp
          · rw [List.mem_singleton] at hp
            subst hp
            exact ⟨ls, by show t ≤ last; omega, pz⟩
        · refine List.nodup_append.mpr ⟨q2, by simp, ?_⟩
          intro a ha b hb
          rw [List.mem_singleton] at hb
          subst hb
          rintro rfl
          exact hin ha)
  subst he
  simp only [Nat.zero_add, List.length_map, List.length_range] at q3
  refine ⟨sg, runF_rt [some (.scr ns, .no), some (encNet n ps, .no), some (.int last, .no), none, none, none, none, none, none] rfl rfl ?_, q1, q2, by omega⟩
  refine (exs_nx (by simp only [runF, exs, ex, evT, ev, evs, evB, evP, evC, evI, blOf, sc, Option.bind_some, Option.bind_none, Option.map_some, Option.map_none, bindT, Fl.al, Fl.el, Fl.ow, Fl.rt, Fl.at, tpAt, movOw, als, retF, D.cl, D.cl1, D.hasL, D.hasLs, retO, retOs, cnt, Env.drp, Env.lock, Env.unlock, Out.unlock, setAll, List.getElem?_cons_zero, List.getElem?_cons_succ, List.set_cons_zero, List.set_cons_succ, List.length_cons, List.length_nil, List.map_cons, List.map_nil, List.cons_append, List.nil_append, List.append_nil, List.flatten_cons, List.flatten_nil, List.replicate_succ, List.replicate_zero, List.getElem?_nil, List.set_nil, List.all_cons, List.all_nil, List.filter_cons, List.filter_nil, List.length_set, List.isEmpty_nil, List.isEmpty_cons, List.foldl_cons, List.foldl_nil, List.append_assoc, List.contains_cons, List.zip_cons_cons, List.zip_nil_left, List.zip_nil_right, if_true, if_false, if_pos rfl, ite_true, ite_false, Bool.true_or, Bool.or_true, Bool.false_or, Bool.or_false, Bool.and_true, Bool.true_and, Bool.false_and, Bool.and_false, Bool.not_true, Bool.not_false, decide_true, decide_false, Bool.true_eq_false, Bool.false_eq_true, reduceIte, reduceCtorEq, Nat.reduceAdd, Nat.reduceSub, Nat.reduceLT, Nat.reduceLeDiff, Nat.reduceEqDiff, Nat.zero_lt_succ, Nat.reduceBEq, BEq.rfl, beq_self_eq_true, Nat.lt_add_one, and_self, and_true, true_and, Nat.zero_add, Nat.add_zero, Nat.add_one_sub_one, Nat.sub_self, Nat.sub_zero, decide_eq_true_eq, Nat.zero_le, Nat.add_zero, Nat.le_refl, b_add, b_sub, c_lt, c_le, c_gt, c_ge, c_eqI, c_neI, c_isNN, c_isIN, c_noNN, c_noIN, o_lenL, o_lenS, o_lenT, o_abs, o_listL, o_listT, o_intI, o_intB, o_max2, o_min2, neg_I] <;> rfl)).trans ?_
  refine (exs_nx (by simp only [hc2, d25, r12, ea, runF, exs, ex, evT, ev, evs, evB, evP, evC, evI, blOf, sc, Option.bind_some, Option.bind_none, Option.map_some, Option.map_none, bindT, Fl.al, Fl.el, Fl.ow, Fl.rt, Fl.at, tpAt, movOw, als, retF, D.cl, D.cl1, D.hasL, D.hasLs, retO, retOs, cnt, Env.drp, Env.lock, Env.unlock, Out.unlock, setAll, List.getElem?_cons_zero, List.getElem?_cons_succ, List.set_cons_zero, List.set_cons_succ, List.length_cons, List.length_nil, List.map_cons, List.map_nil, List.cons_append, List.nil_append, List.append_nil, List.flatten_cons, List.flatten_nil, List.replicate_succ, List.replicate_zero, List.getElem?_nil, List.set_nil, List.all_cons, List.all_nil, List.filter_cons, List.filter_nil, List.length_set, List.isEmpty_nil, List.isEmpty_cons, List.foldl_cons, List.foldl_nil, List.append_assoc, List.contains_cons, List.zip_cons_cons, List.zip_nil_left, List.zip_nil_right, if_true, if_false, if_pos rfl, ite_true, ite_false, Bool.true_or, Bool.or_true, Bool.false_or, Bool.or_false, Bool.and_true, Bool.true_and, Bool.false_and, Bool.and_false, Bool.not_true, Bool.not_false, decide_true, decide_false, Bool.true_eq_false, Bool.false_eq_true, reduceIte, reduceCtorEq, Nat.reduceAdd, Nat.reduceSub, Nat.reduceLT, Nat.reduceLeDiff, Nat.reduceEqDiff, Nat.zero_lt_succ, Nat.reduceBEq, BEq.rfl, beq_self_eq_true, Nat.lt_add_one, and_self, and_true, true_and, Nat.zero_add, Nat.add_zero, Nat.add_one_sub_one, Nat.sub_self, Nat.sub_zero, decide_eq_true_eq, Nat.zero_le, Nat.add_zero, Nat.le_refl, b_add, b_sub, c_lt, c_le, c_gt, c_ge, c_eqI, c_neI, c_isNN, c_isIN, c_noNN, c_noIN, o_lenL, o_lenS, o_lenT, o_abs, o_listL, o_listT, o_intI, o_intB, o_max2, o_min2, neg_I] <;> rfl)).trans ?_
  refine (hw _).trans ?_
  refine (exs_for (p := ((List.range (m2 % 5).toNat).map fun k : Nat => D.int k, [], [])) (by simp only [hc2, hm2, r5, hr, runF, exs, ex, evT, ev, evs, evB, evP, evC, evI, blOf, sc, Option.bind_some, Option.bind_none, Option.map_some, Option.map_none, bindT, Fl.al, Fl.el, Fl.ow, Fl.rt, Fl.at, tpAt, movOw, als, retF, D.cl, D.cl1, D.hasL, D.hasLs, retO, retOs, cnt, Env.drp, Env.lock, Env.unlock, Out.unlock, setAll, List.getElem?_cons_zero, List.getElem?_cons_succ, List.set_cons_zero, List.set_cons_succ, List.length_cons, List.length_nil, List.map_cons, List.map_nil, List.cons_append, List.nil_append, List.append_nil, List.flatten_cons, List.flatten_nil, List.replicate_succ, List.replicate_zero, List.getElem?_nil, List.set_nil, List.all_cons, List.all_nil, List.filter_cons, List.filter_nil, List.length_set, List.isEmpty_nil, List.isEmpty_cons, List.foldl_cons, List.foldl_nil, List.append_assoc, List.contains_cons, List.zip_cons_cons, List.zip_nil_left, List.zip_nil_right, if_true, if_false, if_pos rfl, ite_true, ite_false, Bool.true_or, Bool.or_true, Bool.false_or, Bool.or_false, Bool.and_true, Bool.true_and, Bool.false_and, Bool.and_false, Bool.not_true, Bool.not_false, decide_true, decide_false, Bool.true_eq_false, Bool.false_eq_true, reduceIte, reduceCtorEq, Nat.reduceAdd, Nat.reduceSub, Nat.reduceLT, Nat.reduceLeDiff, Nat.reduceEqDiff, Nat.zero_lt_succ, Nat.reduceBEq, BEq.rfl, beq_self_eq_true, Nat.lt_add_one, and_self, and_true, true_and, Nat.zero_add, Nat.add_zero, Nat.add_one_sub_one, Nat.sub_self, Nat.sub_zero, decide_eq_true_eq, Nat.zero_le, Nat.add_zero, Nat.le_refl, b_add, b_sub, c_lt, c_le, c_gt, c_ge, c_eqI, c_neI, c_isNN, c_isIN, c_noNN, c_noIN, o_lenL, o_lenS, o_lenT, o_abs, o_listL, o_listT, o_intI, o_intB, o_max2, o_min2, neg_I] <;> rfl) rfl hfor).trans ?_
  refine exs_rt (by simp only [runF, exs, ex, evT, ev, evs, evB, evP, evC, evI, blOf, sc, Option.bind_some, Option.bind_none, Option.map_some, Option.map_none, bindT, Fl.al, Fl.el, Fl.ow, Fl.rt, Fl.at, tpAt, movOw, als, retF, D.cl, D.cl1, D.hasL, D.hasLs, retO, retOs, cnt, Env.drp, Env.lock, Env.unlock, Out.unlock, setAll, List.getElem?_cons_zero, List.getElem?_cons_succ, List.set_cons_zero, List.set_cons_succ, List.length_cons, List.length_nil, List.map_cons, List.map_nil, List.cons_append, List.nil_append, List.append_nil, List.flatten_cons, List.flatten_nil, List.replicate_succ, List.replicate_zero, List.getElem?_nil, List.set_nil, List.all_cons, List.all_nil, List.filter_cons, List.filter_nil, List.length_set, List.isEmpty_nil, List.isEmpty_cons, List.foldl_cons, List.foldl_nil, List.append_assoc, List.contains_cons, List.zip_cons_cons, List.zip_nil_left, List.zip_nil_right, if_true, if_false, if_pos rfl, ite_true, ite_false, Bool.true_or, Bool.or_true, Bool.false_or, Bool.or_false, Bool.and_true, Bool.true_and, Bool.false_and, Bool.and_false, Bool.not_true, Bool.not_false, decide_true, decide_false, Bool.true_eq_false, Bool.false_eq_true, reduceIte, reduceCtorEq, Nat.reduceAdd, Nat.reduceSub, Nat.reduceLT, Nat.reduceLeDiff, Nat.reduceEqDiff, Nat.zero_lt_succ, Nat.reduceBEq, BEq.rfl, beq_self_eq_true, Nat.lt_add_one, and_self, and_true, true_and, Nat.zero_add, Nat.add_zero, Nat.add_one_sub_one, Nat.sub_self, Nat.sub_zero, decide_eq_true_eq, Nat.zero_le, Nat.add_zero, Nat.le_refl, b_add, b_sub, c_lt, c_le, c_gt, c_ge, c_eqI, c_neI, c_isNN, c_isIN, c_noNN, c_noIN, o_lenL, o_lenS, o_lenT, o_abs, o_listL, o_listT, o_intI, o_intB, o_max2, o_min2, neg_I] <;> rfl)
theorem tale29 (G : Orc) (ns : List Int) (n : Nat) (ps : List Path) (N : NetOk n ps) (hc : ∀ k : Nat, k ≤ 1000000 → ∃ c, G.call 26 [.scr ns, .int k] = some (.int c, .no)) (hm : ∀ c k : Int, 0 ≤ k → k ≤ 1000000 → ∃ m, G.call 2 [.int c, .int k] = some (.int m, .no) ∧ 0 ≤ m)
    (hs : ∀ last : Nat, ∃ sg, G.call 28 [.scr ns, encNet n ps, .int last] = some (.lst (sg.map encS), .top) ∧ SgOk n last sg) :
    ∃ last rs sg, runF G F29 [.scr ns, encNet n ps] = some (encTale last rs sg, .tp [.no, .top, .top]) ∧ TaleOk n ps last rs sg := by
  obtain ⟨c0, hc0⟩ := hc 0 (by omega)
  have hc0 : G.call 26 [.scr ns, .int 0] = some (.int c0, .no) := hc0
  obtain ⟨c2, hc2⟩ := hc 2 (by omega)
  have hc2 : G.call 26 [.scr ns, .int 2] = some (.int c2, .no) := hc2
  obtain ⟨m0, hm0, p0⟩ := hm c0 1 (by omega) (by omega)
  have d8 := fun a f g => b_div (a := a) (b := 8) (f := f) (g := g) (by decide) (by decide)
  have d3 := fun a f g => b_div (a := a) (b := 3) (f := f) (g := g) (by decide) (by decide)
  have r8 := fun a f g => b_mod (a := a) (b := 8) (f := f) (g := g) (by decide)
  have r4 := fun a f g => b_mod (a := a) (b := 4) (f := f) (g := g) (by decide)
  have r3 := fun a f g => b_mod (a := a) (b := 3) (f := f) (g := g) (by decide)
  have r2 := fun a f g => b_mod (a := a) (b := 2) (f := f) (g := g) (by decide)
  have r9 := fun a f g => b_mod (a := a) (b := 9) (f := f) (g := g) (by decide)
  have r25 := fun a f g => b_mod (a := a) (b := 25) (f := f) (g := g) (by decide)
  have r60 := fun a f g => b_mod (a := a) (b := 60) (f := f) (g := g) (by decide)
  obtain ⟨last, hl24, hh⟩ : ∃ last : Nat, last ≤ 24 ∧ ∀ r : ISs, exs G [some (.scr ns, .no), some (encNet n ps, .no), some (.int (c2 % 9), .no), none, none, none, none, none, none, none, none]
      (.cons (.ifs (.cmp .Eq (.bin .Mod (.bin .FloorDiv (.call 2 (.cons (.call 26 (.cons (.var 0) (.cons (.int 0) .nil))) (.cons (.int 1) .nil))) (.int 8)) (.int 8)) (.int 2)) (.cons (.set 2 (.bin .Mod (.call 26 (.cons (.var 0) (.cons (.int 2) .nil))) (.int 25))) .nil) .nil) r) =
      exs G [some (.scr ns, .no), some (encNet n ps, .no), some (.int last, .no), none, none, none, none, none, none, none, none] r := by
    by_cases h : m0 / 8 % 8 = 2
    · obtain ⟨l, e, b⟩ := nat_of (x := c2 % 25) (n := 25) (by omega) (by omega)
      refine ⟨l, by omega, fun r => ?_⟩
      exact exs_t (by simp only [hc0, hm0, d8, r8, h, runF, exs, ex, evT, ev, evs, evB, evP, evC, evI, blOf, sc, Option.bind_some, Option.bind_none, Option.map_some, Option.map_none, bindT, Fl.al, Fl.el, Fl.ow, Fl.rt, Fl.at, tpAt, movOw, als, retF, D.cl, D.cl1, D.hasL, D.hasLs, retO, retOs, cnt, Env.drp, Env.lock, Env.unlock, Out.unlock, setAll, List.getElem?_cons_zero, List.getElem?_cons_succ, List.set_cons_zero, List.set_cons_succ, List.length_cons, List.length_nil, List.map_cons, List.map_nil, List.cons_append, List.nil_append, List.append_nil, List.flatten_cons, List.flatten_nil, List.replicate_succ, List.replicate_zero, List.getElem?_nil, List.set_nil, List.all_cons, List.all_nil, List.filter_cons, List.filter_nil, List.length_set, List.isEmpty_nil, List.isEmpty_cons, List.foldl_cons, List.foldl_nil, List.append_assoc, List.contains_cons, List.zip_cons_cons, List.zip_nil_left, List.zip_nil_right, if_true, if_false, if_pos rfl, ite_true, ite_false, Bool.true_or, Bool.or_true, Bool.false_or, Bool.or_false, Bool.and_true, Bool.true_and, Bool.false_and, Bool.and_false, Bool.not_true, Bool.not_false, decide_true, decide_false, Bool.true_eq_false, Bool.false_eq_true, reduceIte, reduceCtorEq, Nat.reduceAdd, Nat.reduceSub, Nat.reduceLT, Nat.reduceLeDiff, Nat.reduceEqDiff, Nat.zero_lt_succ, Nat.reduceBEq, BEq.rfl, beq_self_eq_true, Nat.lt_add_one, and_self, and_true, true_and, Nat.zero_add, Nat.add_zero, Nat.add_one_sub_one, Nat.sub_self, Nat.sub_zero, decide_eq_true_eq, Nat.zero_le, Nat.add_zero, Nat.le_refl, b_add, b_sub, c_lt, c_le, c_gt, c_ge, c_eqI, c_neI, c_isNN, c_isIN, c_noNN, c_noIN, o_lenL, o_lenS, o_lenT, o_abs, o_listL, o_listT, o_intI, o_intB, o_max2, o_min2, neg_I] <;> rfl) (by simp only [hc2, r25, e, runF, exs, ex, evT, ev, evs, evB, evP, evC, evI, blOf, sc, Option.bind_some, Option.bind_none, Option.map_some, Option.map_none, bindT, Fl.al, Fl.el, Fl.ow, Fl.rt, Fl.at, tpAt, movOw, als, retF, D.cl, D.cl1, D.hasL, D.hasLs, retO, retOs, cnt, Env.drp, Env.lock, Env.unlock, Out.unlock, setAll, List.getElem?_cons_zero, List.getElem?_cons_succ, List.set_cons_zero, List.set_cons_succ, List.length_cons, List.length_nil, List.map_cons, List.map_nil, List.cons_append, List.nil_append, List.append_nil, List.flatten_cons, List.flatten_nil, List.replicate_succ, List.replicate_zero, List.getElem?_nil, List.set_nil, List.all_cons, List.all_nil, List.filter_cons, List.filter_nil, List.length_set, List.isEmpty_nil, List.isEmpty_cons, List.foldl_cons, List.foldl_nil, List.append_assoc, List.contains_cons, List.zip_cons_cons, List.zip_nil_left, List.zip_nil_right, if_true, if_false, if_pos rfl, ite_true, ite_false, Bool.true_or, Bool.or_true, Bool.false_or, Bool.or_false, Bool.and_true, Bool.true_and, Bool.false_and, Bool.and_false, Bool.not_true, Bool.not_false, decide_true, decide_false, Bool.true_eq_false, Bool.false_eq_true, reduceIte, reduceCtorEq, Nat.reduceAdd, Nat.reduceSub, Nat.reduceLT, Nat.reduceLeDiff, Nat.reduceEqDiff, Nat.zero_lt_succ, Nat.reduceBEq, BEq.rfl, beq_self_eq_true, Nat.lt_add_one, and_self, and_true, true_and, Nat.zero_add, Nat.add_zero, Nat.add_one_sub_one, Nat.sub_self, Nat.sub_zero, decide_eq_true_eq, Nat.zero_le, Nat.add_zero, Nat.le_refl, b_add, b_sub, c_lt, c_le, c_gt, c_ge, c_eqI, c_neI, c_isNN, c_isIN, c_noNN, c_noIN, o_lenL, o_lenS, o_lenT, o_abs, o_listL, o_listT, o_intI, o_intB, o_max2, o_min2, neg_I] <;> rfl)
    · obtain ⟨l, e, b⟩ := nat_of (x := c2 % 9) (n := 9) (by omega) (by omega)
      refine ⟨l, by omega, fun r => ?_⟩
      rw [e]
      exact exs_f (by simp only [hc0, hm0, d8, r8, h, runF, exs, ex, evT, ev, evs, evB, evP, evC, evI, blOf, sc, Option.bind_some, Option.bind_none, Option.map_some, Option.map_none, bindT, Fl.al, Fl.el, Fl.ow, Fl.rt, Fl.at, tpAt, movOw, als, retF, D.cl, D.cl1, D.hasL, D.hasLs, retO, retOs, cnt, Env.drp, Env.lock, Env.unlock, Out.unlock, setAll, List.getElem?_cons_zero, List.getElem?_cons_succ, List.set_cons_zero, List.set_cons_succ, List.length_cons, List.length_nil, List.map_cons, List.map_nil, List.cons_append, List.nil_append, List.append_nil, List.flatten_cons, List.flatten_nil, List.replicate_succ, List.replicate_zero, List.getElem?_nil, List.set_nil, List.all_cons, List.all_nil, List.filter_cons, List.filter_nil, List.length_set, List.isEmpty_nil, List.isEmpty_cons, List.foldl_cons, List.foldl_nil, List.append_assoc, List.contains_cons, List.zip_cons_cons, List.zip_nil_left, List.zip_nil_right, if_true, if_false, if_pos rfl, ite_true, ite_false, Bool.true_or, Bool.or_true, Bool.false_or, Bool.or_false, Bool.and_true, Bool.true_and, Bool.false_and, Bool.and_false, Bool.not_true, Bool.not_false, decide_true, decide_false, Bool.true_eq_false, Bool.false_eq_true, reduceIte, reduceCtorEq, Nat.reduceAdd, Nat.reduceSub, Nat.reduceLT, Nat.reduceLeDiff, Nat.reduceEqDiff, Nat.zero_lt_succ, Nat.reduceBEq, BEq.rfl, beq_self_eq_true, Nat.lt_add_one, and_self, and_true, true_and, Nat.zero_add, Nat.add_zero, Nat.add_one_sub_one, Nat.sub_self, Nat.sub_zero, decide_eq_true_eq, Nat.zero_le, Nat.add_zero, Nat.le_refl, b_add, b_sub, c_lt, c_le, c_gt, c_ge, c_eqI, c_neI, c_isNN, c_isIN, c_noNN, c_noIN, o_lenL, o_lenS, o_lenT, o_abs, o_listL, o_listT, o_intI, o_intB, o_max2, o_min2, neg_I] <;> rfl) rfl
  have hr := okR_of (i := last) (by omega) (by omega)
  obtain ⟨e', hfor, rs, kk, x5, x6, x7, x8, x9, x10, he, R, hkk⟩ := forL_inv (f := fun _ e => exs G e (.cons (.for_ (.one 8) (.rng1 (.var 2)) (.cons (.set 4 (.bin .Add (.var 4) (.int 1))) (.cons (.set 9 (.call 2 (.cons (.call 26 (.cons (.var 0) (.cons (.bin .Add (.int 3) (.bin .Mod (.var 4) (.int 60))) .nil))) (.cons (.var 4) .nil)))) (.cons (.set 10 (.bin .Add (.bin .Add (.var 8) (.int 1)) (.bin .Mod (.bin .FloorDiv (.var 9) (.int 3)) (.int 4)))) (.cons (.ifs (.bop true (.cmp .Is (.var 7) .non) (.cons (.cmp .Eq (.bin .Mod (.var 9) (.int 3)) (.int 0)) .nil)) (.cons .cont .nil) .nil) (.cons (.ifs (.cmp .IsNot (.var 7) .non) (.cons (.set 10 (.bin .Add (.bin .Add (.var 8) (.int 1)) (.bin .Mod (.bin .FloorDiv (.var 9) (.int 3)) (.b2 .min (.var 7) (.int 4))))) .nil) .nil) (.cons (.ifs (.bop true (.cmp .IsNot (.var 7) .non) (.cons (.cmp .Eq (.bin .Mod (.var 9) (.int 3)) (.int 0)) .nil)) (.cons (.set 10 (.bin .Add (.var 8) (.var 7))) .nil) .nil) (.cons (.ifs (.cmp .LtE (.var 10) (.var 2)) (.cons (.app 3 (.tup (.cons (.var 5) (.cons (.var 6) (.cons (.var 8) (.cons (.var 10) .nil)))))) .nil) .nil) .nil)))))))) .nil)) (tg := .many [5, 6, 7])
    (fun i e => ∃ (rs : List Run) (kk : Nat) (x5 x6 x7 x8 x9 x10 : Option (D × Ow)), e = [some (.scr ns, .no), some (encNet n ps, .no), some (.int last, .no), some (.lst (rs.map encR), .top), some (.int kk, .no), x5, x6, x7, x8, x9, x10] ∧ RsI ps last i 0 rs ∧ kk = last * i)
    (ds := ps.map encP) (env := [some (.scr ns, .no), some (encNet n ps, .no), some (.int last, .no), some (.lst [], .top), some (.int 0, .no), none, none, none, none, none, none]) 0 ⟨[], 0, none, none, none, none, none, none, rfl, .zero, rfl⟩ (by
      rintro i d e hd ⟨rs, kk, x5, x6, x7, x8, x9, x10, rfl, R, hkk⟩
      rw [List.getElem?_map] at hd
      obtain ⟨⟨s, g, mo⟩, hp, rfl⟩ := Option.map_eq_some_iff.mp hd
      simp only [Nat.zero_add] at R hkk ⊢
      have hil := (List.getElem?_eq_some_iff.mp hp).1
      have hN := N.len
      have hpm := (N.at_ _ (List.mem_of_getElem? hp)).2.2.2
      simp only at hpm
      have hki : last * i ≤ 24 * 63 := Nat.mul_le_mul hl24 (by omega)
      obtain ⟨e', hfor, rs, kk, x8, x9, x10, he, R, hkk⟩ := forL_inv (f := fun _ e => exs G e (.cons (.set 4 (.bin .Add (.var 4) (.int 1))) (.cons (.set 9 (.call 2 (.cons (.call 26 (.cons (.var 0) (.cons (.bin .Add (.int 3) (.bin .Mod (.var 4) (.int 60))) .nil))) (.cons (.var 4) .nil)))) (.cons (.set 10 (.bin .Add (.bin .Add (.var 8) (.int 1)) (.bin .Mod (.bin .FloorDiv (.var 9) (.int 3)) (.int 4)))) (.cons (.ifs (.bop true (.cmp .Is (.var 7) .non) (.cons (.cmp .Eq (.bin .Mod (.var 9) (.int 3)) (.int 0)) .nil)) (.cons .cont .nil) .nil) (.cons (.ifs (.cmp .IsNot (.var 7) .non) (.cons (.set 10 (.bin .Add (.bin .Add (.var 8) (.int 1)) (.bin .Mod (.bin .FloorDiv (.var 9) (.int 3)) (.b2 .min (.var 7) (.int 4))))) .nil) .nil) (.cons (.ifs (.bop true (.cmp .IsNot (.var 7) .non) (.cons (.cmp .Eq (.bin .Mod (.var 9) (.int 3)) (.int 0)) .nil)) (.cons (.set 10 (.bin .Add (.var 8) (.var 7))) .nil) .nil) (.cons (.ifs (.cmp .LtE (.var 10) (.var 2)) (.cons (.app 3 (.tup (.cons (.var 5) (.cons (.var 6) (.cons (.var 8) (.cons (.var 10) .nil)))))) .nil) .nil) .nil)))))))) (tg := .one 8)
        (fun j e => ∃ (rs : List Run) (kk : Nat) (x8 x9 x10 : Option (D × Ow)), e = [some (.scr ns, .no), some (encNet n ps, .no), some (.int last, .no), some (.lst (rs.map encR), .top), some (.int kk, .no), some (.int s, .no), some (.int g, .no), some (encO mo, .no), x8, x9, x10] ∧ RsI ps last i j rs ∧ kk = last * i + j)
        (ds := (List.range ((last : Int)).toNat).map fun k : Nat => D.int k) (env := [some (.scr ns, .no), some (encNet n ps, .no), some (.int last, .no), some (.lst (rs.map encR), .top), some (.int kk, .no), some (.int s, .no), some (.int g, .no), some (encO mo, .no), x8, x9, x10]) 0 ⟨rs, kk, x8, x9, x10, rfl, R, by omega⟩ (by
          rintro j d e hd ⟨rs, kk, x8, x9, x10, rfl, R, hkk⟩
          rw [List.getElem?_map] at hd
          obtain ⟨k, hk, rfl⟩ := Option.map_eq_some_iff.mp hd
          obtain ⟨hk1, hk2⟩ := List.getElem?_eq_some_iff.mp hk
          rw [List.getElem_range] at hk2
          rw [List.length_range] at hk1
          subst hk2
          simp only [Nat.zero_add] at R hkk ⊢
          have hjl : j < last := by omega
          obtain ⟨q, eq, lq⟩ := nat_of (x := ((kk : Int) + 1) % 60) (n := 60) (by omega) (by omega)
          obtain ⟨cj, hcj⟩ := hc (3 + q) (by omega)
          have hcj : G.call 26 [.scr ns, .int (3 + (q : Int))] = some (.int cj, .no) := by rw [← hcj]; congr 4
          obtain ⟨dr, hdr, pdr⟩ := hm cj (kk + 1) (by omega) (by omega)
          have hsz : (rs.map encR).length < szb := by rw [List.length_map]; have := R.len; simp only [szb]; omega
          have fin : ∀ c : Nat, j < c → (∀ m' : Int, mo = some m' → (c : Int) ≤ j + m') → ∃ rs', exs G [some (.scr ns, .no), some (encNet n ps, .no), some (.int last, .no), some (.lst (rs.map encR), .top), some (.int ((kk : Int) + 1), .no), some (.int s, .no), some (.int g, .no), some (encO mo, .no), some (.int j, .no), some (.int dr, .no), some (.int c, .no)] (.cons (.ifs (.cmp .LtE (.var 10) (.var 2)) (.cons (.app 3 (.tup (.cons (.var 5) (.cons (.var 6) (.cons (.var 8) (.cons (.var 10) .nil)))))) .nil) .nil) .nil) =
              some (.nx [some (.scr ns, .no), some (encNet n ps, .no), some (.int last, .no), some (.lst (rs'.map encR), .top), some (.int ((kk : Int) + 1), .no), some (.int s, .no), some (.int g, .no), some (encO mo, .no), some (.int j, .no), some (.int dr, .no), some (.int c, .no)]) ∧ RsI ps last i (j + 1) rs' := fun c h1 h3 => by
            by_cases hle : (c : Int) ≤ last
            · refine ⟨rs ++ [(s, g, j, c)], (exs_t (by simp only [hle, runF, exs, ex, evT, ev, evs, evB, evP, evC, evI, blOf, sc, Option.bind_some, Option.bind_none, Option.map_some, Option.map_none, bindT, Fl.al, Fl.el, Fl.ow, Fl.rt, Fl.at, tpAt, movOw, als, retF, D.cl, D.cl1, D.hasL, D.hasLs, retO, retOs, cnt, Env.drp, Env.lock, Env.unlock, Out.unlock, setAll, List.getElem?_cons_zero, List.getElem?_cons_succ, List.set_cons_zero, List.set_cons_succ, List.length_cons, List.length_nil, List.map_cons, List.map_nil, List.cons_append, List.nil_append, List.append_nil, List.flatten_cons, List.flatten_nil, List.replicate_succ, List.replicate_zero, List.getElem?_nil, List.set_nil, List.all_cons, List.all_nil, List.filter_cons, List.filter_nil, List.length_set, List.isEmpty_nil, List.isEmpty_cons, List.foldl_cons, List.foldl_nil, List.append_assoc, List.contains_cons, List.zip_cons_cons, List.zip_nil_left, List.zip_nil_right, if_true, if_false, if_pos rfl, ite_true, ite_false, Bool.true_or, Bool.or_true, Bool.false_or, Bool.or_false, Bool.and_true, Bool.true_and, Bool.false_and, Bool.and_false, Bool.not_true, Bool.not_false, decide_true, decide_false, Bool.true_eq_false, Bool.false_eq_true, reduceIte, reduceCtorEq, Nat.reduceAdd, Nat.reduceSub, Nat.reduceLT, Nat.reduceLeDiff, Nat.reduceEqDiff, Nat.zero_lt_succ, Nat.reduceBEq, BEq.rfl, beq_self_eq_true, Nat.lt_add_one, and_self, and_true, true_and, Nat.zero_add, Nat.add_zero, Nat.add_one_sub_one, Nat.sub_self, Nat.sub_zero, decide_eq_true_eq, Nat.zero_le, Nat.add_zero, Nat.le_refl, b_add, b_sub, c_lt, c_le, c_gt, c_ge, c_eqI, c_neI, c_isNN, c_isIN, c_noNN, c_noIN, o_lenL, o_lenS, o_lenT, o_abs, o_listL, o_listT, o_intI, o_intB, o_max2, o_min2, neg_I] <;> rfl) (by simp only [hsz, runF, exs, ex, evT, ev, evs, evB, evP, evC, evI, blOf, sc, Option.bind_some, Option.bind_none, Option.map_some, Option.map_none, bindT, Fl.al, Fl.el, Fl.ow, Fl.rt, Fl.at, tpAt, movOw, als, retF, D.cl, D.cl1, D.hasL, D.hasLs, retO, retOs, cnt, Env.drp, Env.lock, Env.unlock, Out.unlock, setAll, List.getElem?_cons_zero, List.getElem?_cons_succ, List.set_cons_zero, List.set_cons_succ, List.length_cons, List.length_nil, List.map_cons, List.map_nil, List.cons_append, List.nil_append, List.append_nil, List.flatten_cons, List.flatten_nil, List.replicate_succ, List.replicate_zero, List.getElem?_nil, List.set_nil, List.all_cons, List.all_nil, List.filter_cons, List.filter_nil, List.length_set, List.isEmpty_nil, List.isEmpty_cons, List.foldl_cons, List.foldl_nil, List.append_assoc, List.contains_cons, List.zip_cons_cons, List.zip_nil_left, List.zip_nil_right, if_true, if_false, if_pos rfl, ite_true, ite_false, Bool.true_or, Bool.or_true, Bool.false_or, Bool.or_false, Bool.and_true, Bool.true_and, Bool.false_and, Bool.and_false, Bool.not_true, Bool.not_false, decide_true, decide_false, Bool.true_eq_false, Bool.false_eq_true, reduceIte, reduceCtorEq, Nat.reduceAdd, Nat.reduceSub, Nat.reduceLT, Nat.reduceLeDiff, Nat.reduceEqDiff, Nat.zero_lt_succ, Nat.reduceBEq, BEq.rfl, beq_self_eq_true, Nat.lt_add_one, and_self, and_true, true_and, Nat.zero_add, Nat.add_zero, Nat.add_one_sub_one, Nat.sub_self, Nat.sub_zero, decide_eq_true_eq, Nat.zero_le, Nat.add_zero, Nat.le_refl, b_add, b_sub, c_lt, c_le, c_gt, c_ge, c_eqI, c_neI, c_isNN, c_isIN, c_noNN, c_noIN, o_lenL, o_lenS, o_lenT, o_abs, o_listL, o_listT, o_intI, o_intB, o_max2, o_min2, neg_I] <;> rfl)).trans ?_, R.add N hp h1 (by omega) h3⟩
              simp only [exs, List.map_append, List.map_cons, List.map_nil, encR]
            · refine ⟨rs, (exs_f (by simp only [hle, runF, exs, ex, evT, ev, evs, evB, evP, evC, evI, blOf, sc, Option.bind_some, Option.bind_none, Option.map_some, Option.map_none, bindT, Fl.al, Fl.el, Fl.ow, Fl.rt, Fl.at, tpAt, movOw, als, retF, D.cl, D.cl1, D.hasL, D.hasLs, retO, retOs, cnt, Env.drp, Env.lock, Env.unlock, Out.unlock, setAll, List.getElem?_cons_zero, List.getElem?_cons_succ, List.set_cons_zero, List.set_cons_succ, List.length_cons, List.length_nil, List.map_cons, List.map_nil, List.cons_append, List.nil_append, List.append_nil, List.flatten_cons, List.flatten_nil, List.replicate_succ, List.replicate_zero, List.getElem?_nil, List.set_nil, List.all_cons, List.all_nil, List.filter_cons, List.filter_nil, List.length_set, List.isEmpty_nil, List.isEmpty_cons, List.foldl_cons, List.foldl_nil, List.append_assoc, List.contains_cons, List.zip_cons_cons, List.zip_nil_left, List.zip_nil_right, if_true, if_false, if_pos rfl, ite_true, ite_false, Bool.true_or, Bool.or_true, Bool.false_or, Bool.or_false, Bool.and_true, Bool.true_and, Bool.false_and, Bool.and_false, Bool.not_true, Bool.not_false, decide_true, decide_false, Bool.true_eq_false, Bool.false_eq_true, reduceIte, reduceCtorEq, Nat.reduceAdd, Nat.reduceSub, Nat.reduceLT, Nat.reduceLeDiff, Nat.reduceEqDiff, Nat.zero_lt_succ, Nat.reduceBEq, BEq.rfl, beq_self_eq_true, Nat.lt_add_one, and_self, and_true, true_and, Nat.zero_add, Nat.add_zero, Nat.add_one_sub_one, Nat.sub_self, Nat.sub_zero, decide_eq_true_eq, Nat.zero_le, Nat.add_zero, Nat.le_refl, b_add, b_sub, c_lt, c_le, c_gt, c_ge, c_eqI, c_neI, c_isNN, c_isIN, c_noNN, c_noIN, o_lenL, o_lenS, o_lenT, o_abs, o_listL, o_listT, o_intI, o_intB, o_max2, o_min2, neg_I] <;> rfl) rfl).trans (by simp only [exs]), R.skip hp fun m hmm => ?_⟩
              have := h3 m hmm
              omega
          have e1 : ((kk : Int) + 1) = ((kk + 1 : Nat) : Int) := by omega
          have start : ∀ o, exs G [some (.scr ns, .no), some (encNet n ps, .no), some (.int last, .no), some (.lst (rs.map encR), .top), some (.int ((kk : Int) + 1), .no), some (.int s, .no), some (.int g, .no), some (encO mo, .no), some (.int j, .no), some (.int dr, .no), some (.int ((j : Int) + 1 + dr / 3 % 4), .no)]
              (.cons (.ifs (.bop true (.cmp .Is (.var 7) .non) (.cons (.cmp .Eq (.bin .Mod (.var 9) (.int 3)) (.int 0)) .nil)) (.cons .cont .nil) .nil)
              (.cons (.ifs (.cmp .IsNot (.var 7) .non) (.cons (.set 10 (.bin .Add (.bin .Add (.var 8) (.int 1)) (.bin .Mod (.bin .FloorDiv (.var 9) (.int 3)) (.b2 .min (.var 7) (.int 4))))) .nil) .nil)
              (.cons (.ifs (.bop true (.cmp .IsNot (.var 7) .non) (.cons (.cmp .Eq (.bin .Mod (.var 9) (.int 3)) (.int 0)) .nil)) (.cons (.set 10 (.bin .Add (.var 8) (.var 7))) .nil) .nil)
              (.cons (.ifs (.cmp .LtE (.var 10) (.var 2)) (.cons (.app 3 (.tup (.cons (.var 5) (.cons (.var 6) (.cons (.var 8) (.cons (.var 10) .nil)))))) .nil) .nil) .nil)))) = some o →
              exs G [some (.scr ns, .no), some (encNet n ps, .no), some (.int last, .no), some (.lst (rs.map encR), .top), some (.int kk, .no), some (.int s, .no), some (.int g, .no), some (encO mo, .no), some (.int j, .no), x9, x10] (.cons (.set 4 (.bin .Add (.var 4) (.int 1))) (.cons (.set 9 (.call 2 (.cons (.call 26 (.cons (.var 0) (.cons (.bin .Add (.int 3) (.bin .Mod (.var 4) (.int 60))) .nil))) (.cons (.var 4) .nil)))) (.cons (.set 10 (.bin .Add (.bin .Add (.var 8) (.int 1)) (.bin .Mod (.bin .FloorDiv (.var 9) (.int 3)) (.int 4)))) (.cons (.ifs (.bop true (.cmp .Is (.var 7) .non) (.cons (.cmp .Eq (.bin .Mod (.var 9) (.int 3)) (.int 0)) .nil)) (.cons .cont .nil) .nil) (.cons (.ifs (.cmp .IsNot (.var 7) .non) (.cons (.set 10 (.bin .Add (.bin .Add (.var 8) (.int 1)) (.bin .Mod (.bin .FloorDiv (.var 9) (.int 3)) (.b2 .min (.var 7) (.int 4))))) .nil) .nil) (.cons (.ifs (.bop true (.cmp .IsNot (.var 7) .non) (.cons (.cmp .Eq (.bin .Mod (.var 9) (.int 3)) (.int 0)) .nil)) (.cons (.set 10 (.bin .Add (.var 8) (.var 7))) .nil) .nil) (.cons (.ifs (.cmp .LtE (.var 10) (.var 2)) (.cons (.app 3 (.tup (.cons (.var 5) (.cons (.var 6) (.cons (.var 8) (.cons (.var 10) .nil)))))) .nil) .nil) .nil))))))) = some o := fun o ho => by
            refine (exs_nx (by simp only [runF, exs, ex, evT, ev, evs, evB, evP, evC, evI, blOf, sc, Option.bind_some, Option.bind_none, Option.map_some, Option.map_none, bindT, Fl.al, Fl.el, Fl.ow, Fl.rt, Fl.at, tpAt, movOw, als, retF, D.cl, D.cl1, D.hasL, D.hasLs, retO, retOs, cnt, Env.drp, Env.lock, Env.unlock, Out.unlock, setAll, List.getElem?_cons_zero, List.getElem?_cons_succ, List.set_cons_zero, List.set_cons_succ, List.length_cons, List.length_nil, List.map_cons, List.map_nil, List.cons_append, List.nil_append, List.append_nil, List.flatten_cons, List.flatten_nil, List.replicate_succ, List.replicate_zero, List.getElem?_nil, List.set_nil, List.all_cons, List.all_nil, List.filter_cons, List.filter_nil, List.length_set, List.isEmpty_nil, List.isEmpty_cons, List.foldl_cons, List.foldl_nil, List.append_assoc, List.contains_cons, List.zip_cons_cons, List.zip_nil_left, List.zip_nil_right, if_true, if_false, if_pos rfl, ite_true, ite_false, Bool.true_or, Bool.or_true, Bool.false_or, Bool.or_false, Bool.and_true, Bool.true_and, Bool.false_and, Bool.and_false, Bool.not_true, Bool.not_false, decide_true, decide_false, Bool.true_eq_false, Bool.false_eq_true, reduceIte, reduceCtorEq, Nat.reduceAdd, Nat.reduceSub, Nat.reduceLT, Nat.reduceLeDiff, Nat.reduceEqDiff, Nat.zero_lt_succ, Nat.reduceBEq, BEq.rfl, beq_self_eq_true, Nat.lt_add_one, and_self, and_true, true_and, Nat.zero_add, Nat.add_zero, Nat.add_one_sub_one, Nat.sub_self, Nat.sub_zero, decide_eq_true_eq, Nat.zero_le, Nat.add_zero, Nat.le_refl, b_add, b_sub, c_lt, c_le, c_gt, c_ge, c_eqI, c_neI, c_isNN, c_isIN, c_noNN, c_noIN, o_lenL, o_lenS, o_lenT, o_abs, o_listL, o_listT, o_intI, o_intB, o_max2, o_min2, neg_I] <;> rfl)).trans ?_
            refine (exs_nx (by simp only [r60, eq, hcj, hdr, runF, exs, ex, evT, ev, evs, evB, evP, evC, evI, blOf, sc, Option.bind_some, Option.bind_none, Option.map_some, Option.map_none, bindT, Fl.al, Fl.el, Fl.ow, Fl.rt, Fl.at, tpAt, movOw, als, retF, D.cl, D.cl1, D.hasL, D.hasLs, retO, retOs, cnt, Env.drp, Env.lock, Env.unlock, Out.unlock, setAll, List.getElem?_cons_zero, List.getElem?_cons_succ, List.set_cons_zero, List.set_cons_succ, List.length_cons, List.length_nil, List.map_cons, List.map_nil, List.cons_append, List.nil_append, List.append_nil, List.flatten_cons, List.flatten_nil, List.replicate_succ, List.replicate_zero, List.getElem?_nil, List.set_nil, List.all_cons, List.all_nil, List.filter_cons, List.filter_nil, List.length_set, List.isEmpty_nil, List.isEmpty_cons, List.foldl_cons, List.foldl_nil, List.append_assoc, List.contains_cons, List.zip_cons_cons, List.zip_nil_left, List.zip_nil_right, if_true, if_false, if_pos rfl, ite_true, ite_false, Bool.true_or, Bool.or_true, Bool.false_or, Bool.or_false, Bool.and_true, Bool.true_and, Bool.false_and, Bool.and_false, Bool.not_true, Bool.not_false, decide_true, decide_false, Bool.true_eq_false, Bool.false_eq_true, reduceIte, reduceCtorEq, Nat.reduceAdd, Nat.reduceSub, Nat.reduceLT, Nat.reduceLeDiff, Nat.reduceEqDiff, Nat.zero_lt_succ, Nat.reduceBEq, BEq.rfl, beq_self_eq_true, Nat.lt_add_one, and_self, and_true, true_and, Nat.zero_add, Nat.add_zero, Nat.add_one_sub_one, Nat.sub_self, Nat.sub_zero, decide_eq_true_eq, Nat.zero_le, Nat.add_zero, Nat.le_refl, b_add, b_sub, c_lt, c_le, c_gt, c_ge, c_eqI, c_neI, c_isNN, c_isIN, c_noNN, c_noIN, o_lenL, o_lenS, o_lenT, o_abs, o_listL, o_listT, o_intI, o_intB, o_max2, o_min2, neg_I] <;> rfl)).trans ?_
            refine (exs_nx (by simp only [d3, r4, runF, exs, ex, evT, ev, evs, evB, evP, evC, evI, blOf, sc, Option.bind_some, Option.bind_none, Option.map_some, Option.map_none, bindT, Fl.al, Fl.el, Fl.ow, Fl.rt, Fl.at, tpAt, movOw, als, retF, D.cl, D.cl1, D.hasL, D.hasLs, retO, retOs, cnt, Env.drp, Env.lock, Env.unlock, Out.unlock, setAll, List.getElem?_cons_zero, List.getElem?_cons_succ, List.set_cons_zero, List.set_cons_succ, List.length_cons, List.length_nil, List.map_cons, List.map_nil, List.cons_append, List.nil_append, List.append_nil, List.flatten_cons, List.flatten_nil, List.replicate_succ, List.replicate_zero, List.getElem?_nil, List.set_nil, List.all_cons, List.all_nil, List.filter_cons, List.filter_nil, List.length_set, List.isEmpty_nil, List.isEmpty_cons, List.foldl_cons, List.foldl_nil, List.append_assoc, List.contains_cons, List.zip_cons_cons, List.zip_nil_left, List.zip_nil_right, if_true, if_false, if_pos rfl, ite_true, ite_false, Bool.true_or, Bool.or_true, Bool.false_or, Bool.or_false, Bool.and_true, Bool.true_and, Bool.false_and, Bool.and_false, Bool.not_true, Bool.not_false, decide_true, decide_false, Bool.true_eq_false, Bool.false_eq_true, reduceIte, reduceCtorEq, Nat.reduceAdd, Nat.reduceSub, Nat.reduceLT, Nat.reduceLeDiff, Nat.reduceEqDiff, Nat.zero_lt_succ, Nat.reduceBEq, BEq.rfl, beq_self_eq_true, Nat.lt_add_one, and_self, and_true, true_and, Nat.zero_add, Nat.add_zero, Nat.add_one_sub_one, Nat.sub_self, Nat.sub_zero, decide_eq_true_eq, Nat.zero_le, Nat.add_zero, Nat.le_refl, b_add, b_sub, c_lt, c_le, c_gt, c_ge, c_eqI, c_neI, c_isNN, c_isIN, c_noNN, c_noIN, o_lenL, o_lenS, o_lenT, o_abs, o_listL, o_listT, o_intI, o_intB, o_max2, o_min2, neg_I] <;> rfl)).trans ?_
            exact ho
          obtain ⟨c0, ec0, lc0⟩ := nat_of (x := (j : Int) + 1 + dr / 3 % 4) (n := j + 5) (by omega) (by omega)
          cases mo with
          | none =>
            by_cases h3 : dr % 3 = 0
            · refine ⟨_, _, by simp only [runF, exs, ex, evT, ev, evs, evB, evP, evC, evI, blOf, sc, Option.bind_some, Option.bind_none, Option.map_some, Option.map_none, bindT, Fl.al, Fl.el, Fl.ow, Fl.rt, Fl.at, tpAt, movOw, als, retF, D.cl, D.cl1, D.hasL, D.hasLs, retO, retOs, cnt, Env.drp, Env.lock, Env.unlock, Out.unlock, setAll, List.getElem?_cons_zero, List.getElem?_cons_succ, List.set_cons_zero, List.set_cons_succ, List.length_cons, List.length_nil, List.map_cons, List.map_nil, List.cons_append, List.nil_append, List.append_nil, List.flatten_cons, List.flatten_nil, List.replicate_succ, List.replicate_zero, List.getElem?_nil, List.set_nil, List.all_cons, List.all_nil, List.filter_cons, List.filter_nil, List.length_set, List.isEmpty_nil, List.isEmpty_cons, List.foldl_cons, List.foldl_nil, List.append_assoc, List.contains_cons, List.zip_cons_cons, List.zip_nil_left, List.zip_nil_right, if_true, if_false, if_pos rfl, ite_true, ite_false, Bool.true_or, Bool.or_true, Bool.false_or, Bool.or_false, Bool.and_true, Bool.true_and, Bool.false_and, Bool.and_false, Bool.not_true, Bool.not_false, decide_true, decide_false, Bool.true_eq_false, Bool.false_eq_true, reduceIte, reduceCtorEq, Nat.reduceAdd, Nat.reduceSub, Nat.reduceLT, Nat.reduceLeDiff, Nat.reduceEqDiff, Nat.zero_lt_succ, Nat.reduceBEq, BEq.rfl, beq_self_eq_true, Nat.lt_add_one, and_self, and_true, true_and, Nat.zero_add, Nat.add_zero, Nat.add_one_sub_one, Nat.sub_self, Nat.sub_zero, decide_eq_true_eq, Nat.zero_le, Nat.add_zero, Nat.le_refl, b_add, b_sub, c_lt, c_le, c_gt, c_ge, c_eqI, c_neI, c_isNN, c_isIN, c_noNN, c_noIN, o_lenL, o_lenS, o_lenT, o_abs, o_listL, o_listT, o_intI, o_intB, o_max2, o_min2, neg_I] <;> rfl, .inr (start _ (exs_tc (by simp only [encO, r3, h3, runF, exs, ex, evT, ev, evs, evB, evP, evC, evI, blOf, sc, Option.bind_some, Option.bind_none, Option.map_some, Option.map_none, bindT, Fl.al, Fl.el, Fl.ow, Fl.rt, Fl.at, tpAt, movOw, als, retF, D.cl, D.cl1, D.hasL, D.hasLs, retO, retOs, cnt, Env.drp, Env.lock, Env.unlock, Out.unlock, setAll, List.getElem?_cons_zero, List.getElem?_cons_succ, List.set_cons_zero, List.set_cons_succ, List.length_cons, List.length_nil, List.map_cons, List.map_nil, List.cons_append, List.nil_append, List.append_nil, List.flatten_cons, List.flatten_nil, List.replicate_succ, List.replicate_zero, List.getElem?_nil, List.set_nil, List.all_cons, List.all_nil, List.filter_cons, List.filter_nil, List.length_set, List.isEmpty_nil, List.isEmpty_cons, List.foldl_cons, List.foldl_nil, List.append_assoc, List.contains_cons, List.zip_cons_cons, List.zip_nil_left, List.zip_nil_right, if_true, if_false, if_pos rfl, ite_true, ite_false, Bool.true_or, Bool.or_true, Bool.false_or, Bool.or_false, Bool.and_true, Bool.true_and, Bool.false_and, Bool.and_false, Bool.not_true, Bool.not_false, decide_true, decide_false, Bool.true_eq_false, Bool.false_eq_true, reduceIte, reduceCtorEq, Nat.reduceAdd, Nat.reduceSub, Nat.reduceLT, Nat.reduceLeDiff, Nat.reduceEqDiff, Nat.zero_lt_succ, Nat.reduceBEq, BEq.rfl, beq_self_eq_true, Nat.lt_add_one, and_self, and_true, true_and, Nat.zero_add, Nat.add_zero, Nat.add_one_sub_one, Nat.sub_self, Nat.sub_zero, decide_eq_true_eq, Nat.zero_le, Nat.add_zero, Nat.le_refl, b_add, b_sub, c_lt, c_le, c_gt, c_ge, c_eqI, c_neI, c_isNN, c_isIN, c_noNN, c_noIN, o_lenL, o_lenS, o_lenT, o_abs, o_listL, o_listT, o_intI, o_intB, o_max2, o_min2, neg_I] <;> rfl) (by simp only [runF, exs, ex, evT, ev, evs, evB, evP, evC, evI, blOf, sc, Option.bind_some, Option.bind_none, Option.map_some, Option.map_none, bindT, Fl.al, Fl.el, Fl.ow, Fl.rt, Fl.at, tpAt, movOw, als, retF, D.cl, D.cl1, D.hasL, D.hasLs, retO, retOs, cnt, Env.drp, Env.lock, Env.unlock, Out.unlock, setAll, List.getElem?_cons_zero, List.getElem?_cons_succ, List.set_cons_zero, List.set_cons_succ, List.length_cons, List.length_nil, List.map_cons, List.map_nil, List.cons_append, List.nil_append, List.append_nil, List.flatten_cons, List.flatten_nil, List.replicate_succ, List.replicate_zero, List.getElem?_nil, List.set_nil, List.all_cons, List.all_nil, List.filter_cons, List.filter_nil, List.length_set, List.isEmpty_nil, List.isEmpty_cons, List.foldl_cons, List.foldl_nil, List.append_assoc, List.contains_cons, List.zip_cons_cons, List.zip_nil_left, List.zip_nil_right, if_true, if_false, if_pos rfl, ite_true, ite_false, Bool.true_or, Bool.or_true, Bool.false_or, Bool.or_false, Bool.and_true, Bool.true_and, Bool.false_and, Bool.and_false, Bool.not_true, Bool.not_false, decide_true, decide_false, Bool.true_eq_false, Bool.false_eq_true, reduceIte, reduceCtorEq, Nat.reduceAdd, Nat.reduceSub, Nat.reduceLT, Nat.reduceLeDiff, Nat.reduceEqDiff, Nat.zero_lt_succ, Nat.reduceBEq, BEq.rfl, beq_self_eq_true, Nat.lt_add_one, and_self, and_true, true_and, Nat.zero_add, Nat.add_zero, Nat.add_one_sub_one, Nat.sub_self, Nat.sub_zero, decide_eq_true_eq, Nat.zero_le, Nat.add_zero, Nat.le_refl, b_add, b_sub, c_lt, c_le, c_gt, c_ge, c_eqI, c_neI, c_isNN, c_isIN, c_noNN, c_noIN, o_lenL, o_lenS, o_lenT, o_abs, o_listL, o_listT, o_intI, o_intB, o_max2, o_min2, neg_I] <;> rfl))), rs, kk + 1, some (.int j, .no), some (.int dr, .no), some (.int ((j : Int) + 1 + dr / 3 % 4), .no), by rw [e1], R.skip hp (fun m hmm => nomatch hmm), by omega⟩
            · obtain ⟨rs', h4, R'⟩ := fin c0 (by omega) (fun m hmm => nomatch hmm)
              refine ⟨_, _, by simp only [runF, exs, ex, evT, ev, evs, evB, evP, evC, evI, blOf, sc, Option.bind_some, Option.bind_none, Option.map_some, Option.map_none, bindT, Fl.al, Fl.el, Fl.ow, Fl.rt, Fl.at, tpAt, movOw, als, retF, D.cl, D.cl1, D.hasL, D.hasLs, retO, retOs, cnt, Env.drp, Env.lock, Env.unlock, Out.unlock, setAll, List.getElem?_cons_zero, List.getElem?_cons_succ, List.set_cons_zero, List.set_cons_succ, List.length_cons, List.length_nil, List.map_cons, List.map_nil, List.cons_append, List.nil_append, List.append_nil, List.flatten_cons, List.flatten_nil, List.replicate_succ, List.replicate_zero, List.getElem?_nil, List.set_nil, List.all_cons, List.all_nil, List.filter_cons, List.filter_nil, List.length_set, List.isEmpty_nil, List.isEmpty_cons, List.foldl_cons, List.foldl_nil, List.append_assoc, List.contains_cons, List.zip_cons_cons, List.zip_nil_left, List.zip_nil_right, if_true, if_false, if_pos rfl, ite_true, ite_false, Bool.true_or, Bool.or_true, Bool.false_or, Bool.or_false, Bool.and_true, Bool.true_and, Bool.false_and, Bool.and_false, Bool.not_true, Bool.not_false, decide_true, decide_false, Bool.true_eq_false, Bool.false_eq_true, reduceIte, reduceCtorEq, Nat.reduceAdd, Nat.reduceSub, Nat.reduceLT, Nat.reduceLeDiff, Nat.reduceEqDiff, Nat.zero_lt_succ, Nat.reduceBEq, BEq.rfl, beq_self_eq_true, Nat.lt_add_one, and_self, and_true, true_and, Nat.zero_add, Nat.add_zero, Nat.add_one_sub_one, Nat.sub_self, Nat.sub_zero, decide_eq_true_eq, Nat.zero_le, Nat.add_zero, Nat.le_refl, b_add, b_sub, c_lt, c_le, c_gt, c_ge, c_eqI, c_neI, c_isNN, c_isIN, c_noNN, c_noIN, o_lenL, o_lenS, o_lenT, o_abs, o_listL, o_listT, o_intI, o_intB, o_max2, o_min2, neg_I] <;> rfl, .inl (start _ ?_), rs', kk + 1, some (.int j, .no), some (.int dr, .no), some (.int c0, .no), rfl, R', by omega⟩
              rw [ec0]
              refine (exs_f (by simp only [encO, r3, h3, runF, exs, ex, evT, ev, evs, evB, evP, evC, evI, blOf, sc, Option.bind_some, Option.bind_none, Option.map_some, Option.map_none, bindT, Fl.al, Fl.el, Fl.ow, Fl.rt, Fl.at, tpAt, movOw, als, retF, D.cl, D.cl1, D.hasL, D.hasLs, retO, retOs, cnt, Env.drp, Env.lock, Env.unlock, Out.unlock, setAll, List.getElem?_cons_zero, List.getElem?_cons_succ, List.set_cons_zero, List.set_cons_succ, List.length_cons, List.length_nil, List.map_cons, List.map_nil, List.cons_append, List.nil_append, List.append_nil, List.flatten_cons, List.flatten_nil, List.replicate_succ, List.replicate_zero, List.getElem?_nil, List.set_nil, List.all_cons, List.all_nil, List.filter_cons, List.filter_nil, List.length_set, List.isEmpty_nil, List.isEmpty_cons, List.foldl_cons, List.foldl_nil, List.append_assoc, List.contains_cons, List.zip_cons_cons, List.zip_nil_left, List.zip_nil_right, if_true, if_false, if_pos rfl, ite_true, ite_false, Bool.true_or, Bool.or_true, Bool.false_or, Bool.or_false, Bool.and_true, Bool.true_and, Bool.false_and, Bool.and_false, Bool.not_true, Bool.not_false, decide_true, decide_false, Bool.true_eq_false, Bool.false_eq_true, reduceIte, reduceCtorEq, Nat.reduceAdd, Nat.reduceSub, Nat.reduceLT, Nat.reduceLeDiff, Nat.reduceEqDiff, Nat.zero_lt_succ, Nat.reduceBEq, BEq.rfl, beq_self_eq_true, Nat.lt_add_one, and_self, and_true, true_and, Nat.zero_add, Nat.add_zero, Nat.add_one_sub_one, Nat.sub_self, Nat.sub_zero, decide_eq_true_eq, Nat.zero_le, Nat.add_zero, Nat.le_refl, b_add, b_sub, c_lt, c_le, c_gt, c_ge, c_eqI, c_neI, c_isNN, c_isIN, c_noNN, c_noIN, o_lenL, o_lenS, o_lenT, o_abs, o_listL, o_listT, o_intI, o_intB, o_max2, o_min2, neg_I] <;> rfl) rfl).trans ?_
              refine (exs_f (by simp only [encO, runF, exs, ex, evT, ev, evs, evB, evP, evC, evI, blOf, sc, Option.bind_some, Option.bind_none, Option.map_some, Option.map_none, bindT, Fl.al, Fl.el, Fl.ow, Fl.rt, Fl.at, tpAt, movOw, als, retF, D.cl, D.cl1, D.hasL, D.hasLs, retO, retOs, cnt, Env.drp, Env.lock, Env.unlock, Out.unlock, setAll, List.getElem?_cons_zero, List.getElem?_cons_succ, List.set_cons_zero, List.set_cons_succ, List.length_cons, List.length_nil, List.map_cons, List.map_nil, List.cons_append, List.nil_append, List.append_nil, List.flatten_cons, List.flatten_nil, List.replicate_succ, List.replicate_zero, List.getElem?_nil, List.set_nil, List.all_cons, List.all_nil, List.filter_cons, List.filter_nil, List.length_set, List.isEmpty_nil, List.isEmpty_cons, List.foldl_cons, List.foldl_nil, List.append_assoc, List.contains_cons, List.zip_cons_cons, List.zip_nil_left, List.zip_nil_right, if_true, if_false, if_pos rfl, ite_true, ite_false, Bool.true_or, Bool.or_true, Bool.false_or, Bool.or_false, Bool.and_true, Bool.true_and, Bool.false_and, Bool.and_false, Bool.not_true, Bool.not_false, decide_true, decide_false, Bool.true_eq_false, Bool.false_eq_true, reduceIte, reduceCtorEq, Nat.reduceAdd, Nat.reduceSub, Nat.reduceLT, Nat.reduceLeDiff, Nat.reduceEqDiff, Nat.zero_lt_succ, Nat.reduceBEq, BEq.rfl, beq_self_eq_true, Nat.lt_add_one, and_self, and_true, true_and, Nat.zero_add, Nat.add_zero, Nat.add_one_sub_one, Nat.sub_self, Nat.sub_zero, decide_eq_true_eq, Nat.zero_le, Nat.add_zero, Nat.le_refl, b_add, b_sub, c_lt, c_le, c_gt, c_ge, c_eqI, c_neI, c_isNN, c_isIN, c_noNN, c_noIN, o_lenL, o_lenS, o_lenT, o_abs, o_listL, o_listT, o_intI, o_intB, o_max2, o_min2, neg_I] <;> rfl) rfl).trans ?_
              refine (exs_f (by simp only [encO, runF, exs, ex, evT, ev, evs, evB, evP, evC, evI, blOf, sc, Option.bind_some, Option.bind_none, Option.map_some, Option.map_none, bindT, Fl.al, Fl.el, Fl.ow, Fl.rt, Fl.at, tpAt, movOw, als, retF, D.cl, D.cl1, D.hasL, D.hasLs, retO, retOs, cnt, Env.drp, Env.lock, Env.unlock, Out.unlock, setAll, List.getElem?_cons_zero, List.getElem?_cons_succ, List.set_cons_zero, List.set_cons_succ, List.length_cons, List.length_nil, List.map_cons, List.map_nil, List.cons_append, List.nil_append, List.append_nil, List.flatten_cons, List.flatten_nil, List.replicate_succ, List.replicate_zero, List.getElem?_nil, List.set_nil, List.all_cons, List.all_nil, List.filter_cons, List.filter_nil, List.length_set, List.isEmpty_nil, List.isEmpty_cons, List.foldl_cons, List.foldl_nil, List.append_assoc, List.contains_cons, List.zip_cons_cons, List.zip_nil_left, List.zip_nil_right, if_true, if_false, if_pos rfl, ite_true, ite_false, Bool.true_or, Bool.or_true, Bool.false_or, Bool.or_false, Bool.and_true, Bool.true_and, Bool.false_and, Bool.and_false, Bool.not_true, Bool.not_false, decide_true, decide_false, Bool.true_eq_false, Bool.false_eq_true, reduceIte, reduceCtorEq, Nat.reduceAdd, Nat.reduceSub, Nat.reduceLT, Nat.reduceLeDiff, Nat.reduceEqDiff, Nat.zero_lt_succ, Nat.reduceBEq, BEq.rfl, beq_self_eq_true, Nat.lt_add_one, and_self, and_true, true_and, Nat.zero_add, Nat.add_zero, Nat.add_one_sub_one, Nat.sub_self, Nat.sub_zero, decide_eq_true_eq, Nat.zero_le, Nat.add_zero, Nat.le_refl, b_add, b_sub, c_lt, c_le, c_gt, c_ge, c_eqI, c_neI, c_isNN, c_isIN, c_noNN, c_noIN, o_lenL, o_lenS, o_lenT, o_abs, o_listL, o_listT, o_intI, o_intB, o_max2, o_min2, neg_I] <;> rfl) rfl).trans ?_
              rw [← e1]
              exact h4
          | some mi =>
            obtain ⟨m, rfl⟩ : ∃ m : Nat, mi = m := ⟨mi.toNat, by have := hpm mi rfl; omega⟩
            have hm1 := hpm m rfl
            have hmn : (0 : Int) < (if (4 : Int) < m then (4 : Int) else m) ∧ (if (4 : Int) < m then (4 : Int) else m) ≤ m := by split <;> omega
            have rm := fun a f g => b_mod (a := a) (b := (if (4 : Int) < m then (4 : Int) else m)) (f := f) (g := g) hmn.1
            have b1 := Int.emod_nonneg (dr / 3) (show (if (4 : Int) < m then (4 : Int) else m) ≠ 0 by omega)
            have b2 := Int.emod_lt_of_pos (dr / 3) hmn.1
            obtain ⟨c1, ec1, lc1⟩ := nat_of (x := (j : Int) + 1 + dr / 3 % (if (4 : Int) < m then (4 : Int) else m)) (n := j + 1 + m) (by omega) (by omega)
            by_cases h3 : dr % 3 = 0
            · obtain ⟨rs', h4, R'⟩ := fin (j + m) (by omega) (fun m' hmm => by cases hmm; omega)
              have ejm : ((j : Int) + m) = ((j + m : Nat) : Int) := by omega
              refine ⟨_, _, by simp only [runF, exs, ex, evT, ev, evs, evB, evP, evC, evI, blOf, sc, Option.bind_some, Option.bind_none, Option.map_some, Option.map_none, bindT, Fl.al, Fl.el, Fl.ow, Fl.rt, Fl.at, tpAt, movOw, als, retF, D.cl, D.cl1, D.hasL, D.hasLs, retO, retOs, cnt, Env.drp, Env.lock, Env.unlock, Out.unlock, setAll, List.getElem?_cons_zero, List.getElem?_cons_succ, List.set_cons_zero, List.set_cons_succ, List.length_cons, List.length_nil, List.map_cons, List.map_nil, List.cons_append, List.nil_append, List.append_nil, List.flatten_cons, List.flatten_nil, List.replicate_succ, List.replicate_zero, List.getElem?_nil, List.set_nil, List.all_cons, List.all_nil, List.filter_cons, List.filter_nil, List.length_set, List.isEmpty_nil, List.isEmpty_cons, List.foldl_cons, List.foldl_nil, List.append_assoc, List.contains_cons, List.zip_cons_cons, List.zip_nil_left, List.zip_nil_right, if_true, if_false, if_pos rfl, ite_true, ite_false, Bool.true_or, Bool.or_true, Bool.false_or, Bool.or_false, Bool.and_true, Bool.true_and, Bool.false_and, Bool.and_false, Bool.not_true, Bool.not_false, decide_true, decide_false, Bool.true_eq_false, Bool.false_eq_true, reduceIte, reduceCtorEq, Nat.reduceAdd, Nat.reduceSub, Nat.reduceLT, Nat.reduceLeDiff, Nat.reduceEqDiff, Nat.zero_lt_succ, Nat.reduceBEq, BEq.rfl, beq_self_eq_true, Nat.lt_add_one, and_self, and_true, true_and, Nat.zero_add, Nat.add_zero, Nat.add_one_sub_one, Nat.sub_self, Nat.sub_zero, decide_eq_true_eq, Nat.zero_le, Nat.add_zero, Nat.le_refl, b_add, b_sub, c_lt, c_le, c_gt, c_ge, c_eqI, c_neI, c_isNN, c_isIN, c_noNN, c_noIN, o_lenL, o_lenS, o_lenT, o_abs, o_listL, o_listT, o_intI, o_intB, o_max2, o_min2, neg_I] <;> rfl, .inl (start _ ?_), rs', kk + 1, some (.int j, .no), some (.int dr, .no), some (.int (j + m : Nat), .no), rfl, R', by omega⟩
              refine (exs_f (by simp only [encO_nat, runF, exs, ex, evT, ev, evs, evB, evP, evC, evI, blOf, sc, Option.bind_some, Option.bind_none, Option.map_some, Option.map_none, bindT, Fl.al, Fl.el, Fl.ow, Fl.rt, Fl.at, tpAt, movOw, als, retF, D.cl, D.cl1, D.hasL, D.hasLs, retO, retOs, cnt, Env.drp, Env.lock, Env.unlock, Out.unlock, setAll, List.getElem?_cons_zero, List.getElem?_cons_succ, List.set_cons_zero, List.set_cons_succ, List.length_cons, List.length_nil, List.map_cons, List.map_nil, List.cons_append, List.nil_append, List.append_nil, List.flatten_cons, List.flatten_nil, List.replicate_succ, List.replicate_zero, List.getElem?_nil, List.set_nil, List.all_cons, List.all_nil, List.filter_cons, List.filter_nil, List.length_set, List.isEmpty_nil, List.isEmpty_cons, List.foldl_cons, List.foldl_nil, List.append_assoc, List.contains_cons, List.zip_cons_cons, List.zip_nil_left, List.zip_nil_right, if_true, if_false, if_pos rfl, ite_true, ite_false, Bool.true_or, Bool.or_true, Bool.false_or, Bool.or_false, Bool.and_true, Bool.true_and, Bool.false_and, Bool.and_false, Bool.not_true, Bool.not_false, decide_true, decide_false, Bool.true_eq_false, Bool.false_eq_true, reduceIte, reduceCtorEq, Nat.reduceAdd, Nat.reduceSub, Nat.reduceLT, Nat.reduceLeDiff, Nat.reduceEqDiff, Nat.zero_lt_succ, Nat.reduceBEq, BEq.rfl, beq_self_eq_true, Nat.lt_add_one, and_self, and_true, true_and, Nat.zero_add, Nat.add_zero, Nat.add_one_sub_one, Nat.sub_self, Nat.sub_zero, decide_eq_true_eq, Nat.zero_le, Nat.add_zero, Nat.le_refl, b_add, b_sub, c_lt, c_le, c_gt, c_ge, c_eqI, c_neI, c_isNN, c_isIN, c_noNN, c_noIN, o_lenL, o_lenS, o_lenT, o_abs, o_listL, o_listT, o_intI, o_intB, o_max2, o_min2, neg_I] <;> rfl) rfl).trans ?_
              refine (exs_t (by simp only [encO_nat, runF, exs, ex, evT, ev, evs, evB, evP, evC, evI, blOf, sc, Option.bind_some, Option.bind_none, Option.map_some, Option.map_none, bindT, Fl.al, Fl.el, Fl.ow, Fl.rt, Fl.at, tpAt, movOw, als, retF, D.cl, D.cl1, D.hasL, D.hasLs, retO, retOs, cnt, Env.drp, Env.lock, Env.unlock, Out.unlock, setAll, List.getElem?_cons_zero, List.getElem?_cons_succ, List.set_cons_zero, List.set_cons_succ, List.length_cons, List.length_nil, List.map_cons, List.map_nil, List.cons_append, List.nil_append, List.append_nil, List.flatten_cons, List.flatten_nil, List.replicate_succ, List.replicate_zero, List.getElem?_nil, List.set_nil, List.all_cons, List.all_nil, List.filter_cons, List.filter_nil, List.length_set, List.isEmpty_nil, List.isEmpty_cons, List.foldl_cons, List.foldl_nil, List.append_assoc, List.contains_cons, List.zip_cons_cons, List.zip_nil_left, List.zip_nil_right, if_true, if_false, if_pos rfl, ite_true, ite_false, Bool.true_or, Bool.or_true, Bool.false_or, Bool.or_false, Bool.and_true, Bool.true_and, Bool.false_and, Bool.and_false, Bool.not_true, Bool.not_false, decide_true, decide_false, Bool.true_eq_false, Bool.false_eq_true, reduceIte, reduceCtorEq, Nat.reduceAdd, Nat.reduceSub, Nat.reduceLT, Nat.reduceLeDiff, Nat.reduceEqDiff, Nat.zero_lt_succ, Nat.reduceBEq, BEq.rfl, beq_self_eq_true, Nat.lt_add_one, and_self, and_true, true_and, Nat.zero_add, Nat.add_zero, Nat.add_one_sub_one, Nat.sub_self, Nat.sub_zero, decide_eq_true_eq, Nat.zero_le, Nat.add_zero, Nat.le_refl, b_add, b_sub, c_lt, c_le, c_gt, c_ge, c_eqI, c_neI, c_isNN, c_isIN, c_noNN, c_noIN, o_lenL, o_lenS, o_lenT, o_abs, o_listL, o_listT, o_intI, o_intB, o_max2, o_min2, neg_I] <;> rfl) (by simp only [encO_nat, d3, rm, ec1, runF, exs, ex, evT, ev, evs, evB, evP, evC, evI, blOf, sc, Option.bind_some, Option.bind_none, Option.map_some, Option.map_none, bindT, Fl.al, Fl.el, Fl.ow, Fl.rt, Fl.at, tpAt, movOw, als, retF, D.cl, D.cl1, D.hasL, D.hasLs, retO, retOs, cnt, Env.drp, Env.lock, Env.unlock, Out.unlock, setAll, List.getElem?_cons_zero, List.getElem?_cons_succ, List.set_cons_zero, List.set_cons_succ, List.length_cons, List.length_nil, List.map_cons, List.map_nil, List.cons_append, List.nil_append, List.append_nil, List.flatten_cons, List.flatten_nil, List.replicate_succ, List.replicate_zero, List.getElem?_nil, List.set_nil, List.all_cons, List.all_nil, List.filter_cons, List.filter_nil, List.length_set, List.isEmpty_nil, List.isEmpty_cons, List.foldl_cons, List.foldl_nil, List.append_assoc, List.contains_cons, List.zip_cons_cons, List.zip_nil_left, List.zip_nil_right, if_true, if_false, if_pos rfl, ite_true, ite_false, Bool.true_or, Bool.or_true, Bool.false_or, Bool.or_false, Bool.and_true, Bool.true_and, Bool.false_and, Bool.and_false, Bool.not_true, Bool.not_false, decide_true, decide_false, Bool.true_eq_false, Bool.false_eq_true, reduceIte, reduceCtorEq, Nat.reduceAdd, Nat.reduceSub, Nat.reduceLT, Nat.reduceLeDiff, Nat.reduceEqDiff, Nat.zero_lt_succ, Nat.reduceBEq, BEq.rfl, beq_self_eq_true, Nat.lt_add_one, and_self, and_true, true_and, Nat.zero_add, Nat.add_zero, Nat.add_one_sub_one, Nat.sub_self, Nat.sub_zero, decide_eq_true_eq, Nat.zero_le, Nat.add_zero, Nat.le_refl, b_add, b_sub, c_lt, c_le, c_gt, c_ge, c_eqI, c_neI, c_isNN, c_isIN, c_noNN, c_noIN, o_lenL, o_lenS, o_lenT, o_abs, o_listL, o_listT, o_intI, o_intB, o_max2, o_min2, neg_I] <;> rfl)).trans ?_
              refine (exs_t (by simp only [encO_nat, r3, h3, runF, exs, ex, evT, ev, evs, evB, evP, evC, evI, blOf, sc, Option.bind_some, Option.bind_none, Option.map_some, Option.map_none, bindT, Fl.al, Fl.el, Fl.ow, Fl.rt, Fl.at, tpAt, movOw, als, retF, D.cl, D.cl1, D.hasL, D.hasLs, retO, retOs, cnt, Env.drp, Env.lock, Env.unlock, Out.unlock, setAll, List.getElem?_cons_zero, List.getElem?_cons_succ, List.set_cons_zero, List.set_cons_succ, List.length_cons, List.length_nil, List.map_cons, List.map_nil, List.cons_append, List.nil_append, List.append_nil, List.flatten_cons, List.flatten_nil, List.replicate_succ, List.replicate_zero, List.getElem?_nil, List.set_nil, List.all_cons, List.all_nil, List.filter_cons, List.filter_nil, List.length_set, List.isEmpty_nil, List.isEmpty_cons, List.foldl_cons, List.foldl_nil, List.append_assoc, List.contains_cons, List.zip_cons_cons, List.zip_nil_left, List.zip_nil_right, if_true, if_false, if_pos rfl, ite_true, ite_false, Bool.true_or, Bool.or_true, Bool.false_or, Bool.or_false, Bool.and_true, Bool.true_and, Bool.false_and, Bool.and_false, Bool.not_true, Bool.not_false, decide_true, decide_false, Bool.true_eq_false, Bool.false_eq_true, reduceIte, reduceCtorEq, Nat.reduceAdd, Nat.reduceSub, Nat.reduceLT, Nat.reduceLeDiff, Nat.reduceEqDiff, Nat.zero_lt_succ, Nat.reduceBEq, BEq.rfl, beq_self_eq_true, Nat.lt_add_one, and_self, and_true, true_and, Nat.zero_add, Nat.add_zero, Nat.add_one_sub_one, Nat.sub_self, Nat.sub_zero, decide_eq_true_eq, Nat.zero_le, Nat.add_zero, Nat.le_refl, b_add, b_sub, c_lt, c_le, c_gt, c_ge, c_eqI, c_neI, c_isNN, c_isIN, c_noNN, c_noIN, o_lenL, o_lenS, o_lenT, o_abs, o_listL, o_listT, o_intI, o_intB, o_max2, o_min2, neg_I] <;> rfl) (by simp only [encO_nat, ejm, runF, exs, ex, evT, ev, evs, evB, evP, evC, evI, blOf, sc, Option.bind_some, Option.bind_none, Option.map_some, Option.map_none, bindT, Fl.al, Fl.el, Fl.ow, Fl.rt, Fl.at, tpAt, movOw, als, retF, D.cl, D.cl1, D.hasL, D.hasLs, retO, retOs, cnt, Env.drp, Env.lock, Env.unlock, Out.unlock, setAll, List.getElem?_cons_zero, List.getElem?_cons_succ, List.set_cons_zero, List.set_cons_succ, List.length_cons, List.length_nil, List.map_cons, List.map_nil, List.cons_append, List.nil_append, List.append_nil, List.flatten_cons, List.flatten_nil, List.replicate_succ, List.replicate_zero, List.getElem?_nil, List.set_nil, List.all_cons, List.all_nil, List.filter_cons, List.filter_nil, List.length_set, List.isEmpty_nil, List.isEmpty_cons, List.foldl_cons, List.foldl_nil, List.append_assoc, List.contains_cons, List.zip_cons_cons, List.zip_nil_left, List.zip_nil_right, if_true, if_false, if_pos rfl, ite_true, ite_false, Bool.true_or, Bool.or_true, Bool.false_or, Bool.or_false, Bool.and_true, Bool.true_and, Bool.false_and, Bool.and_false, Bool.not_true, Bool.not_false, decide_true, decide_false, Bool.true_eq_false, Bool.false_eq_true, reduceIte, reduceCtorEq, Nat.reduceAdd, Nat.reduceSub, Nat.reduceLT, Nat.reduceLeDiff, Nat.reduceEqDiff, Nat.zero_lt_succ, Nat.reduceBEq, BEq.rfl, beq_self_eq_true, Nat.lt_add_one, and_self, and_true, true_and, Nat.zero_add, Nat.add_zero, Nat.add_one_sub_one, Nat.sub_self, Nat.sub_zero, decide_eq_true_eq, Nat.zero_le, Nat.add_zero, Nat.le_refl, b_add, b_sub, c_lt, c_le, c_gt, c_ge, c_eqI, c_neI, c_isNN, c_isIN, c_noNN, c_noIN, o_lenL, o_lenS, o_lenT, o_abs, o_listL, o_listT, o_intI, o_intB, o_max2, o_min2, neg_I] <;> rfl)).trans ?_
              rw [← e1]
              exact h4
            · obtain ⟨rs', h4, R'⟩ := fin c1 (by omega) (fun m' hmm => by cases hmm; omega)
              refine ⟨_, _, by simp only [runF, exs, ex, evT, ev, evs, evB, evP, evC, evI, blOf, sc, Option.bind_some, Option.bind_none, Option.map_some, Option.map_none, bindT, Fl.al, Fl.el, Fl.ow, Fl.rt, Fl.at, tpAt, movOw, als, retF, D.cl, D.cl1, D.hasL, D.hasLs, retO, retOs, cnt, Env.drp, Env.lock, Env.unlock, Out.unlock, setAll, List.getElem?_cons_zero, List.getElem?_cons_succ, List.set_cons_zero, List.set_cons_succ, List.length_cons, List.length_nil, List.map_cons, List.map_nil, List.cons_append, List.nil_append, List.append_nil, List.flatten_cons, List.flatten_nil, List.replicate_succ, List.replicate_zero, List.getElem?_nil, List.set_nil, List.all_cons, List.all_nil, List.filter_cons, List.filter_nil, List.length_set, List.isEmpty_nil, List.isEmpty_cons, List.foldl_cons, List.foldl_nil, List.append_assoc, List.contains_cons, List.zip_cons_cons, List.zip_nil_left, List.zip_nil_right, if_true, if_false, if_pos rfl, ite_true, ite_false, Bool.true_or, Bool.or_true, Bool.false_or, Bool.or_false, Bool.and_true, Bool.true_and, Bool.false_and, Bool.and_false, Bool.not_true, Bool.not_false, decide_true, decide_false, Bool.true_eq_false, Bool.false_eq_true, reduceIte, reduceCtorEq, Nat.reduceAdd, Nat.reduceSub, Nat.reduceLT, Nat.reduceLeDiff, Nat.reduceEqDiff, Nat.zero_lt_succ, Nat.reduceBEq, BEq.rfl, beq_self_eq_true, Nat.lt_add_one, and_self, and_true, true_and, Nat.zero_add, Nat.add_zero, Nat.add_one_sub_one, Nat.sub_self, Nat.sub_zero, decide_eq_true_eq, Nat.zero_le, Nat.add_zero, Nat.le_refl, b_add, b_sub, c_lt, c_le, c_gt, c_ge, c_eqI, c_neI, c_isNN, c_isIN, c_noNN, c_noIN, o_lenL, o_lenS, o_lenT, o_abs, o_listL, o_listT, o_intI, o_intB, o_max2, o_min2, neg_I] <;> rfl, .inl (start _ ?_), rs', kk + 1, some (.int j, .no), some (.int dr, .no), some (.int c1, .no), rfl, R', by omega⟩
              refine (exs_f (by simp only [encO_nat, runF, exs, ex, evT, ev, evs, evB, evP, evC, evI, blOf, sc, Option.bind_some, Option.bind_none, Option.map_some, Option.map_none, bindT, Fl.al, Fl.el, Fl.ow, Fl.rt, Fl.at, tpAt, movOw, als, retF, D.cl, D.cl1, D.hasL, D.hasLs, retO, retOs, cnt, Env.drp, Env.lock, Env.unlock, Out.unlock, setAll, List.getElem?_cons_zero, List.getElem?_cons_succ, List.set_cons_zero, List.set_cons_succ, List.length_cons, List.length_nil, List.map_cons, List.map_nil, List.cons_append, List.nil_append, List.append_nil, List.flatten_cons, List.flatten_nil, List.replicate_succ, List.replicate_zero, List.getElem?_nil, List.set_nil, List.all_cons, List.all_nil, List.filter_cons, List.filter_nil, List.length_set, List.isEmpty_nil, List.isEmpty_cons, List.foldl_cons, List.foldl_nil, List.append_assoc, List.contains_cons, List.zip_cons_cons, List.zip_nil_left, List.zip_nil_right, if_true, if_false, if_pos rfl, ite_true, ite_false, Bool.true_or, Bool.or_true, Bool.false_or, Bool.or_false, Bool.and_true, Bool.true_and, Bool.false_and, Bool.and_false, Bool.not_true, Bool.not_false, decide_true, decide_false, Bool.true_eq_false, Bool.false_eq_true, reduceIte, reduceCtorEq, Nat.reduceAdd, Nat.reduceSub, Nat.reduceLT, Nat.reduceLeDiff, Nat.reduceEqDiff, Nat.zero_lt_succ, Nat.reduceBEq, BEq.rfl, beq_self_eq_true, Nat.lt_add_one, and_self, and_true, true_and, Nat.zero_add, Nat.add_zero, Nat.add_one_sub_one, Nat.sub_self, Nat.sub_zero, decide_eq_true_eq, Nat.zero_le, Nat.add_zero, Nat.le_refl, b_add, b_sub, c_lt, c_le, c_gt, c_ge, c_eqI, c_neI, c_isNN, c_isIN, c_noNN, c_noIN, o_lenL, o_lenS, o_lenT, o_abs, o_listL, o_listT, o_intI, o_intB, o_max2, o_min2, neg_I] <;> rfl) rfl).trans ?_
              refine (exs_t (by simp only [encO_nat, runF, exs, ex, evT, ev, evs, evB, evP, evC, evI, blOf, sc, Option.bind_some, Option.bind_none, Option.map_some, Option.map_none, bindT, Fl.al, Fl.el, Fl.ow, Fl.rt, Fl.at, tpAt, movOw, als, retF, D.cl, D.cl1, D.hasL, D.hasLs, retO, retOs, cnt, Env.drp, Env.lock, Env.unlock, Out.unlock, setAll, List.getElem?_cons_zero, List.getElem?_cons_succ, List.set_cons_zero, List.set_cons_succ, List.length_cons, List.length_nil, List.map_cons, List.map_nil, List.cons_append, List.nil_append, List.append_nil, List.flatten_cons, List.flatten_nil, List.replicate_succ, List.replicate_zero, List.getElem?_nil, List.set_nil, List.all_cons, List.all_nil, List.filter_cons, List.filter_nil, List.length_set, List.isEmpty_nil, List.isEmpty_cons, List.foldl_cons, List.foldl_nil, List.append_assoc, List.contains_cons, List.zip_cons_cons, List.zip_nil_left, List.zip_nil_right, if_true, if_false, if_pos rfl, ite_true, ite_false, Bool.true_or, Bool.or_true, Bool.false_or, Bool.or_false, Bool.and_true, Bool.true_and, Bool.false_and, Bool.and_false, Bool.not_true, Bool.not_false, decide_true, decide_false, Bool.true_eq_false, Bool.false_eq_true, reduceIte, reduceCtorEq, Nat.reduceAdd, Nat.reduceSub, Nat.reduceLT, Nat.reduceLeDiff, Nat.reduceEqDiff, Nat.zero_lt_succ, Nat.reduceBEq, BEq.rfl, beq_self_eq_true, Nat.lt_add_one, and_self, and_true, true_and, Nat.zero_add, Nat.add_zero, Nat.add_one_sub_one, Nat.sub_self, Nat.sub_zero, decide_eq_true_eq, Nat.zero_le, Nat.add_zero, Nat.le_refl, b_add, b_sub, c_lt, c_le, c_gt, c_ge, c_eqI, c_neI, c_isNN, c_isIN, c_noNN, c_noIN, o_lenL, o_lenS, o_lenT, o_abs, o_listL, o_listT, o_intI, o_intB, o_max2, o_min2, neg_I] <;> rfl) (by simp only [encO_nat, d3, rm, ec1, runF, exs, ex, evT, ev, evs, evB, evP, evC, evI, blOf, sc, Option.bind_some, Option.bind_none, Option.map_some, Option.map_none, bindT, Fl.al, Fl.el, Fl.ow, Fl.rt, Fl.at, tpAt, movOw, als, retF, D.cl, D.cl1, D.hasL, D.hasLs, retO, retOs, cnt, Env.drp, Env.lock, Env.unlock, Out.unlock, setAll, List.getElem?_cons_zero, List.getElem?_cons_succ, List.set_cons_zero, List.set_cons_succ, List.length_cons, List.length_nil, List.map_cons, List.map_nil, List.cons_append, List.nil_append, List.append_nil, List.flatten_cons, List.flatten_nil, List.replicate_succ, List.replicate_zero, List.getElem?_nil, List.set_nil, List.all_cons, List.all_nil, List.filter_cons, List.filter_nil, List.length_set, List.isEmpty_nil, List.isEmpty_cons, List.foldl_cons, List.foldl_nil, List.append_assoc, List.contains_cons, List.zip_cons_cons, List.zip_nil_left, List.zip_nil_right, if_true, if_false, if_pos rfl, ite_true, ite_false, Bool.true_or, Bool.or_true, Bool.false_or, Bool.or_false, Bool.and_true, Bool.true_and, Bool.false_and, Bool.and_false, Bool.not_true, Bool.not_false, decide_true, decide_false, Bool.true_eq_false, Bool.false_eq_true, reduceIte, reduceCtorEq, Nat.reduceAdd, Nat.reduceSub, Nat.reduceLT, Nat.reduceLeDiff, Nat.reduceEqDiff, Nat.zero_lt_succ, Nat.reduceBEq, BEq.rfl, beq_self_eq_true, Nat.lt_add_one, and_self, and_true, true_and, Nat.zero_add, Nat.add_zero, Nat.add_one_sub_one, Nat.sub_self, Nat.sub_zero, decide_eq_true_eq, Nat.zero_le, Nat.add_zero, Nat.le_refl, b_add, b_sub, c_lt, c_le, c_gt, c_ge, c_eqI, c_neI, c_isNN, c_isIN, c_noNN, c_noIN, o_lenL, o_lenS, o_lenT, o_abs, o_listL, o_listT, o_intI, o_intB, o_max2, o_min2, neg_I] <;> rfl)).trans ?_
              refine (exs_f (by simp only [encO_nat, r3, h3, runF, exs, ex, evT, ev, evs, evB, evP, evC, evI, blOf, sc, Option.bind_some, Option.bind_none, Option.map_some, Option.map_none, bindT, Fl.al, Fl.el, Fl.ow, Fl.rt, Fl.at, tpAt, movOw, als, retF, D.cl, D.cl1, D.hasL, D.hasLs, retO, retOs, cnt, Env.drp, Env.lock, Env.unlock, Out.unlock, setAll, List.getElem?_cons_zero, List.getElem?_cons_succ, List.set_cons_zero, List.set_cons_succ, List.length_cons, List.length_nil, List.map_cons, List.map_nil, List.cons_append, List.nil_append, List.append_nil, List.flatten_cons, List.flatten_nil, List.replicate_succ, List.replicate_zero, List.getElem?_nil, List.set_nil, List.all_cons, List.all_nil, List.filter_cons, List.filter_nil, List.length_set, List.isEmpty_nil, List.isEmpty_cons, List.foldl_cons, List.foldl_nil, List.append_assoc, List.contains_cons, List.zip_cons_cons, List.zip_nil_left, List.zip_nil_right, if_true, if_false, if_pos rfl, ite_true, ite_false, Bool.true_or, Bool.or_true, Bool.false_or, Bool.or_false, Bool.and_true, Bool.true_and, Bool.false_and, Bool.and_false, Bool.not_true, Bool.not_false, decide_true, decide_false, Bool.true_eq_false, Bool.false_eq_true, reduceIte, reduceCtorEq, Nat.reduceAdd, Nat.reduceSub, Nat.reduceLT, Nat.reduceLeDiff, Nat.reduceEqDiff, Nat.zero_lt_succ, Nat.reduceBEq, BEq.rfl, beq_self_eq_true, Nat.lt_add_one, and_self, and_true, true_and, Nat.zero_add, Nat.add_zero, Nat.add_one_sub_one, Nat.sub_self, Nat.sub_zero, decide_eq_true_eq, Nat.zero_le, Nat.add_zero, Nat.le_refl, b_add, b_sub, c_lt, c_le, c_gt, c_ge, c_eqI, c_neI, c_isNN, c_isIN, c_noNN, c_noIN, o_lenL, o_lenS, o_lenT, o_abs, o_listL, o_listT, o_intI, o_intB, o_max2, o_min2, neg_I] <;> rfl) rfl).trans ?_
              rw [← e1]
              exact h4)
      subst he
      simp only [Nat.zero_add, List.length_map, List.length_range, Int.toNat_natCast] at R hkk
      refine ⟨_, _, by simp only [encP, runF, exs, ex, evT, ev, evs, evB, evP, evC, evI, blOf, sc, Option.bind_some, Option.bind_none, Option.map_some, Option.map_none, bindT, Fl.al, Fl.el, Fl.ow, Fl.rt, Fl.at, tpAt, movOw, als, retF, D.cl, D.cl1, D.hasL, D.hasLs, retO, retOs, cnt, Env.drp, Env.lock, Env.unlock, Out.unlock, setAll, List.getElem?_cons_zero, List.getElem?_cons_succ, List.set_cons_zero, List.set_cons_succ, List.length_cons, List.length_nil, List.map_cons, List.map_nil, List.cons_append, List.nil_append, List.append_nil, List.flatten_cons, List.flatten_nil, List.replicate_succ, List.replicate_zero, List.getElem?_nil, List.set_nil, List.all_cons, List.all_nil, List.filter_cons, List.filter_nil, List.length_set, List.isEmpty_nil, List.isEmpty_cons, List.foldl_cons, List.foldl_nil, List.append_assoc, List.contains_cons, List.zip_cons_cons, List.zip_nil_left, List.zip_nil_right, if_true, if_false, if_pos rfl, ite_true, ite_false, Bool.true_or, Bool.or_true, Bool.false_or, Bool.or_false, Bool.and_true, Bool.true_and, Bool.false_and, Bool.and_false, Bool.not_true, Bool.not_false, decide_true, decide_false, Bool.true_eq_false, Bool.false_eq_true, reduceIte, reduceCtorEq, Nat.reduceAdd, Nat.reduceSub, Nat.reduceLT, Nat.reduceLeDiff, Nat.reduceEqDiff, Nat.zero_lt_succ, Nat.reduceBEq, BEq.rfl, beq_self_eq_true, Nat.lt_add_one, and_self, and_true, true_and, Nat.zero_add, Nat.add_zero, Nat.add_one_sub_one, Nat.sub_self, Nat.sub_zero, decide_eq_true_eq, Nat.zero_le, Nat.add_zero, Nat.le_refl, b_add, b_sub, c_lt, c_le, c_gt, c_ge, c_eqI, c_neI, c_isNN, c_isIN, c_noNN, c_noIN, o_lenL, o_lenS, o_lenT, o_abs, o_listL, o_listT, o_intI, o_intB, o_max2, o_min2, neg_I] <;> rfl, .inl ?_, rs, kk, some (.int s, .no), some (.int g, .no), some (encO mo, .no), x8, x9, x10, rfl, R.next N, by rw [Nat.mul_add]; omega⟩
      refine (exs_for (p := ((List.range ((last : Int)).toNat).map fun k : Nat => D.int k, [], [])) (by simp only [hr, runF, exs, ex, evT, ev, evs, evB, evP, evC, evI, blOf, sc, Option.bind_some, Option.bind_none, Option.map_some, Option.map_none, bindT, Fl.al, Fl.el, Fl.ow, Fl.rt, Fl.at, tpAt, movOw, als, retF, D.cl, D.cl1, D.hasL, D.hasLs, retO, retOs, cnt, Env.drp, Env.lock, Env.unlock, Out.unlock, setAll, List.getElem?_cons_zero, List.getElem?_cons_succ, List.set_cons_zero, List.set_cons_succ, List.length_cons, List.length_nil, List.map_cons, List.map_nil, List.cons_append, List.nil_append, List.append_nil, List.flatten_cons, List.flatten_nil, List.replicate_succ, List.replicate_zero, List.getElem?_nil, List.set_nil, List.all_cons, List.all_nil, List.filter_cons, List.filter_nil, List.length_set, List.isEmpty_nil, List.isEmpty_cons, List.foldl_cons, List.foldl_nil, List.append_assoc, List.contains_cons, List.zip_cons_cons, List.zip_nil_left, List.zip_nil_right, if_true, if_false, if_pos rfl, ite_true, ite_false, Bool.true_or, Bool.or_true, Bool.false_or, Bool.or_false, Bool.and_true, Bool.true_and, Bool.false_and, Bool.and_false, Bool.not_true, Bool.not_false, decide_true, decide_false, Bool.true_eq_false, Bool.false_eq_true, reduceIte, reduceCtorEq, Nat.reduceAdd, Nat.reduceSub, Nat.reduceLT, Nat.reduceLeDiff, Nat.reduceEqDiff, Nat.zero_lt_succ, Nat.reduceBEq, BEq.rfl, beq_self_eq_true, Nat.lt_add_one, and_self, and_true, true_and, Nat.zero_add, Nat.add_zero, Nat.add_one_sub_one, Nat.sub_self, Nat.sub_zero, decide_eq_true_eq, Nat.zero_le, Nat.add_zero, Nat.le_refl, b_add, b_sub, c_lt, c_le, c_gt, c_ge, c_eqI, c_neI, c_isNN, c_isIN, c_noNN, c_noIN, o_lenL, o_lenS, o_lenT, o_abs, o_listL, o_listT, o_intI, o_intB, o_max2, o_min2, neg_I] <;> rfl) rfl hfor).trans ?_
      simp only [exs]
      rfl)
  subst he
  simp only [Nat.zero_add, List.length_map] at R
  have Rs := R.done N hl24
  obtain ⟨sg, hsg, S⟩ := hs last
  have hcl : D.hasLs (sg.map encS) = false := (encS_pu sg fun s h => (S.at_ s h).2.2).2.2
  have start : ∀ o, exs G [some (.scr ns, .no), some (encNet n ps, .no), some (.int last, .no), some (.lst (rs.map encR), .top), some (.int kk, .no), x5, x6, x7, x8, x9, x10]
      (.cons (.ifs (.cmp .Eq (.bin .Mod (.var 2) (.int 2)) (.int 1)) (.cons (.set 3 (.rev (.var 3))) .nil) .nil) (.cons (.retT (.cons (.var 2) (.cons (.var 3) (.cons (.call 28 (.cons (.var 0) (.cons (.var 1) (.cons (.var 2) .nil)))) .nil)))) .nil)) = some o →
      exs G [some (.scr ns, .no), some (encNet n ps, .no), none, none, none, none, none, none, none, none, none] F29.body = some o := fun o ho => by
    refine (exs_nx (by simp only [hc2, r9, runF, exs, ex, evT, ev, evs, evB, evP, evC, evI, blOf, sc, Option.bind_some, Option.bind_none, Option.map_some, Option.map_none, bindT, Fl.al, Fl.el, Fl.ow, Fl.rt, Fl.at, tpAt, movOw, als, retF, D.cl, D.cl1, D.hasL, D.hasLs, retO, retOs, cnt, Env.drp, Env.lock, Env.unlock, Out.unlock, setAll, List.getElem?_cons_zero, List.getElem?_cons_succ, List.set_cons_zero, List.set_cons_succ, List.length_cons, List.length_nil, List.map_cons, List.map_nil, List.cons_append, List.nil_append, List.append_nil, List.flatten_cons, List.flatten_nil, List.replicate_succ, List.replicate_zero, List.getElem?_nil, List.set_nil, List.all_cons, List.all_nil, List.filter_cons, List.filter_nil, List.length_set, List.isEmpty_nil, List.isEmpty_cons, List.foldl_cons, List.foldl_nil, List.append_assoc, List.contains_cons, List.zip_cons_cons, List.zip_nil_left, List.zip_nil_right, if_true, if_false, if_pos rfl, ite_true, ite_false, Bool.true_or, Bool.or_true, Bool.false_or, Bool.or_false, Bool.and_true, Bool.true_and, Bool.false_and, Bool.and_false, Bool.not_true, Bool.not_false, decide_true, decide_false, Bool.true_eq_false, Bool.false_eq_true, reduceIte, reduceCtorEq, Nat.reduceAdd, Nat.reduceSub, Nat.reduceLT, Nat.reduceLeDiff, Nat.reduceEqDiff, Nat.zero_lt_succ, Nat.reduceBEq, BEq.rfl, beq_self_eq_true, Nat.lt_add_one, and_self, and_true, true_and, Nat.zero_add, Nat.add_zero, Nat.add_one_sub_one, Nat.sub_self, Nat.sub_zero, decide_eq_true_eq, Nat.zero_le, Nat.add_zero, Nat.le_refl, b_add, b_sub, c_lt, c_le, c_gt, c_ge, c_eqI, c_neI, c_isNN, c_isIN, c_noNN, c_noIN, o_lenL, o_lenS, o_lenT, o_abs, o_listL, o_listT, o_intI, o_intB, o_max2, o_min2, neg_I] <;> rfl)).trans ?_
    refine (hh _).trans ?_
    refine (exs_nx (by simp only [runF, exs, ex, evT, ev, evs, evB, evP, evC, evI, blOf, sc, Option.bind_some, Option.bind_none, Option.map_some, Option.map_none, bindT, Fl.al, Fl.el, Fl.ow, Fl.rt, Fl.at, tpAt, movOw, als, retF, D.cl, D.cl1, D.hasL, D.hasLs, retO, retOs, cnt, Env.drp, Env.lock, Env.unlock, Out.unlock, setAll, List.getElem?_cons_zero, List.getElem?_cons_succ, List.set_cons_zero, List.set_cons_succ, List.length_cons, List.length_nil, List.map_cons, List.map_nil, List.cons_append, List.nil_append, List.append_nil, List.flatten_cons, List.flatten_nil, List.replicate_succ, List.replicate_zero, List.getElem?_nil, List.set_nil, List.all_cons, List.all_nil, List.filter_cons, List.filter_nil, List.length_set, List.isEmpty_nil, List.isEmpty_cons, List.foldl_cons, List.foldl_nil, List.append_assoc, List.contains_cons, List.zip_cons_cons, List.zip_nil_left, List.zip_nil_right, if_true, if_false, if_pos rfl, ite_true, ite_false, Bool.true_or, Bool.or_true, Bool.false_or, Bool.or_false, Bool.and_true, Bool.true_and, Bool.false_and, Bool.and_false, Bool.not_true, Bool.not_false, decide_true, decide_false, Bool.true_eq_false, Bool.false_eq_true, reduceIte, reduceCtorEq, Nat.reduceAdd, Nat.reduceSub, Nat.reduceLT, Nat.reduceLeDiff, Nat.reduceEqDiff, Nat.zero_lt_succ, Nat.reduceBEq, BEq.rfl, beq_self_eq_true, Nat.lt_add_one, and_self, and_true, true_and, Nat.zero_add, Nat.add_zero, Nat.add_one_sub_one, Nat.sub_self, Nat.sub_zero, decide_eq_true_eq, Nat.zero_le, Nat.add_zero, Nat.le_refl, b_add, b_sub, c_lt, c_le, c_gt, c_ge, c_eqI, c_neI, c_isNN, c_isIN, c_noNN, c_noIN, o_lenL, o_lenS, o_lenT, o_abs, o_listL, o_listT, o_intI, o_intB, o_max2, o_min2, neg_I] <;> rfl)).trans ?_
    refine (exs_nx (by simp only [runF, exs, ex, evT, ev, evs, evB, evP, evC, evI, blOf, sc, Option.bind_some, Option.bind_none, Option.map_some, Option.map_none, bindT, Fl.al, Fl.el, Fl.ow, Fl.rt, Fl.at, tpAt, movOw, als, retF, D.cl, D.cl1, D.hasL, D.hasLs, retO, retOs, cnt, Env.drp, Env.lock, Env.unlock, Out.unlock, setAll, List.getElem?_cons_zero, List.getElem?_cons_succ, List.set_cons_zero, List.set_cons_succ, List.length_cons, List.length_nil, List.map_cons, List.map_nil, List.cons_append, List.nil_append, List.append_nil, List.flatten_cons, List.flatten_nil, List.replicate_succ, List.replicate_zero, List.getElem?_nil, List.set_nil, List.all_cons, List.all_nil, List.filter_cons, List.filter_nil, List.length_set, List.isEmpty_nil, List.isEmpty_cons, List.foldl_cons, List.foldl_nil, List.append_assoc, List.contains_cons, List.zip_cons_cons, List.zip_nil_left, List.zip_nil_right, if_true, if_false, if_pos rfl, ite_true, ite_false, Bool.true_or, Bool.or_true, Bool.false_or, Bool.or_false, Bool.and_true, Bool.true_and, Bool.false_and, Bool.and_false, Bool.not_true, Bool.not_false, decide_true, decide_false, Bool.true_eq_false, Bool.false_eq_true, reduceIte, reduceCtorEq, Nat.reduceAdd, Nat.reduceSub, Nat.reduceLT, Nat.reduceLeDiff, Nat.reduceEqDiff, Nat.zero_lt_succ, Nat.reduceBEq, BEq.rfl, beq_self_eq_true, Nat.lt_add_one, and_self, and_true, true_and, Nat.zero_add, Nat.add_zero, Nat.add_one_sub_one, Nat.sub_self, Nat.sub_zero, decide_eq_true_eq, Nat.zero_le, Nat.add_zero, Nat.le_refl, b_add, b_sub, c_lt, c_le, c_gt, c_ge, c_eqI, c_neI, c_isNN, c_isIN, c_noNN, c_noIN, o_lenL, o_lenS, o_lenT, o_abs, o_listL, o_listT, o_intI, o_intB, o_max2, o_min2, neg_I] <;> rfl)).trans ?_
    refine (exs_for (p := (ps.map encP, [], [])) (by simp only [i_net1, runF, exs, ex, evT, ev, evs, evB, evP, evC, evI, blOf, sc, Option.bind_some, Option.bind_none, Option.map_some, Option.map_none, bindT, Fl.al, Fl.el, Fl.ow, Fl.rt, Fl.at, tpAt, movOw, als, retF, D.cl, D.cl1, D.hasL, D.hasLs, retO, retOs, cnt, Env.drp, Env.lock, Env.unlock, Out.unlock, setAll, List.getElem?_cons_zero, List.getElem?_cons_succ, List.set_cons_zero, List.set_cons_succ, List.length_cons, List.length_nil, List.map_cons, List.map_nil, List.cons_append, List.nil_append, List.append_nil, List.flatten_cons, List.flatten_nil, List.replicate_succ, List.replicate_zero, List.getElem?_nil, List.set_nil, List.all_cons, List.all_nil, List.filter_cons, List.filter_nil, List.length_set, List.isEmpty_nil, List.isEmpty_cons, List.foldl_cons, List.foldl_nil, List.append_assoc, List.contains_cons, List.zip_cons_cons, List.zip_nil_left, List.zip_nil_right, if_true, if_false, if_pos rfl, ite_true, ite_false, Bool.true_or, Bool.or_true, Bool.false_or, Bool.or_false, Bool.and_true, Bool.true_and, Bool.false_and, Bool.and_false, Bool.not_true, Bool.not_false, decide_true, decide_false, Bool.true_eq_false, Bool.false_eq_true, reduceIte, reduceCtorEq, Nat.reduceAdd, Nat.reduceSub, Nat.reduceLT, Nat.reduceLeDiff, Nat.reduceEqDiff, Nat.zero_lt_succ, Nat.reduceBEq, BEq.rfl, beq_self_eq_true, Nat.lt_add_one, and_self, and_true, true_and, Nat.zero_add, Nat.add_zero, Nat.add_one_sub_one, Nat.sub_self, Nat.sub_zero, decide_eq_true_eq, Nat.zero_le, Nat.add_zero, Nat.le_refl, b_add, b_sub, c_lt, c_le, c_gt, c_ge, c_eqI, c_neI, c_isNN, c_isIN, c_noNN, c_noIN, o_lenL, o_lenS, o_lenT, o_abs, o_listL, o_listT, o_intI, o_intB, o_max2, o_min2, neg_I] <;> rfl) rfl hfor).trans ?_
    exact ho
  by_cases h : (last : Int) % 2 = 1
  · refine ⟨last, rs.reverse, sg, runF_rt [some (.scr ns, .no), some (encNet n ps, .no), none, none, none, none, none, none, none, none, none] rfl rfl (start _ ?_), hl24, Rs.rev, S⟩
    refine (exs_t (by simp only [r2, h, runF, exs, ex, evT, ev, evs, evB, evP, evC, evI, blOf, sc, Option.bind_some, Option.bind_none, Option.map_some, Option.map_none, bindT, Fl.al, Fl.el, Fl.ow, Fl.rt, Fl.at, tpAt, movOw, als, retF, D.cl, D.cl1, D.hasL, D.hasLs, retO, retOs, cnt, Env.drp, Env.lock, Env.unlock, Out.unlock, setAll, List.getElem?_cons_zero, List.getElem?_cons_succ, List.set_cons_zero, List.set_cons_succ, List.length_cons, List.length_nil, List.map_cons, List.map_nil, List.cons_append, List.nil_append, List.append_nil, List.flatten_cons, List.flatten_nil, List.replicate_succ, List.replicate_zero, List.getElem?_nil, List.set_nil, List.all_cons, List.all_nil, List.filter_cons, List.filter_nil, List.length_set, List.isEmpty_nil, List.isEmpty_cons, List.foldl_cons, List.foldl_nil, List.append_assoc, List.contains_cons, List.zip_cons_cons, List.zip_nil_left, List.zip_nil_right, if_true, if_false, if_pos rfl, ite_true, ite_false, Bool.true_or, Bool.or_true, Bool.false_or, Bool.or_false, Bool.and_true, Bool.true_and, Bool.false_and, Bool.and_false, Bool.not_true, Bool.not_false, decide_true, decide_false, Bool.true_eq_false, Bool.false_eq_true, reduceIte, reduceCtorEq, Nat.reduceAdd, Nat.reduceSub, Nat.reduceLT, Nat.reduceLeDiff, Nat.reduceEqDiff, Nat.zero_lt_succ, Nat.reduceBEq, BEq.rfl, beq_self_eq_true, Nat.lt_add_one, and_self, and_true, true_and, Nat.zero_add, Nat.add_zero, Nat.add_one_sub_one, Nat.sub_self, Nat.sub_zero, decide_eq_true_eq, Nat.zero_le, Nat.add_zero, Nat.le_refl, b_add, b_sub, c_lt, c_le, c_gt, c_ge, c_eqI, c_neI, c_isNN, c_isIN, c_noNN, c_noIN, o_lenL, o_lenS, o_lenT, o_abs, o_listL, o_listT, o_intI, o_intB, o_max2, o_min2, neg_I] <;> rfl) (by simp only [runF, exs, ex, evT, ev, evs, evB, evP, evC, evI, blOf, sc, Option.bind_some, Option.bind_none, Option.map_some, Option.map_none, bindT, Fl.al, Fl.el, Fl.ow, Fl.rt, Fl.at, tpAt, movOw, als, retF, D.cl, D.cl1, D.hasL, D.hasLs, retO, retOs, cnt, Env.drp, Env.lock, Env.unlock, Out.unlock, setAll, List.getElem?_cons_zero, List.getElem?_cons_succ, List.set_cons_zero, List.set_cons_succ, List.length_cons, List.length_nil, List.map_cons, List.map_nil, List.cons_append, List.nil_append, List.append_nil, List.flatten_cons, List.flatten_nil, List.replicate_succ, List.replicate_zero, List.getElem?_nil, List.set_nil, List.all_cons, List.all_nil, List.filter_cons, List.filter_nil, List.length_set, List.isEmpty_nil, List.isEmpty_cons, List.foldl_cons, List.foldl_nil, List.append_assoc, List.contains_cons, List.zip_cons_cons, List.zip_nil_left, List.zip_nil_right, if_true, if_false, if_pos rfl, ite_true, ite_false, Bool.true_or, Bool.or_true, Bool.false_or, Bool.or_false, Bool.and_true, Bool.true_and, Bool.false_and, Bool.and_false, Bool.not_true, Bool.not_false, decide_true, decide_false, Bool.true_eq_false, Bool.false_eq_true, reduceIte, reduceCtorEq, Nat.reduceAdd, Nat.reduceSub, Nat.reduceLT, Nat.reduceLeDiff, Nat.reduceEqDiff, Nat.zero_lt_succ, Nat.reduceBEq, BEq.rfl, beq_self_eq_true, Nat.lt_add_one, and_self, and_true, true_and, Nat.zero_add, Nat.add_zero, Nat.add_one_sub_one, Nat.sub_self, Nat.sub_zero, decide_eq_true_eq, Nat.zero_le, Nat.add_zero, Nat.le_refl, b_add, b_sub, c_lt, c_le, c_gt, c_ge, c_eqI, c_neI, c_isNN, c_isIN, c_noNN, c_noIN, o_lenL, o_lenS, o_lenT, o_abs, o_listL, o_listT, o_intI, o_intB, o_max2, o_min2, neg_I] <;> rfl)).trans ?_
    refine exs_rt ?_
    simp only [encTale, List.map_reverse, hsg, hcl, runF, exs, ex, evT, ev, evs, evB, evP, evC, evI, blOf, sc, Option.bind_some, Option.bind_none, Option.map_some, Option.map_none, bindT, Fl.al, Fl.el, Fl.ow, Fl.rt, Fl.at, tpAt, movOw, als, retF, D.cl, D.cl1, D.hasL, D.hasLs, retO, retOs, cnt, Env.drp, Env.lock, Env.unlock, Out.unlock, setAll, List.getElem?_cons_zero, List.getElem?_cons_succ, List.set_cons_zero, List.set_cons_succ, List.length_cons, List.length_nil, List.map_cons, List.map_nil, List.cons_append, List.nil_append, List.append_nil, List.flatten_cons, List.flatten_nil, List.replicate_succ, List.replicate_zero, List.getElem?_nil, List.set_nil, List.all_cons, List.all_nil, List.filter_cons, List.filter_nil, List.length_set, List.isEmpty_nil, List.isEmpty_cons, List.foldl_cons, List.foldl_nil, List.append_assoc, List.contains_cons, List.zip_cons_cons, List.zip_nil_left, List.zip_nil_right, if_true, if_false, if_pos rfl, ite_true, ite_false, Bool.true_or, Bool.or_true, Bool.false_or, Bool.or_false, Bool.and_true, Bool.true_and, Bool.false_and, Bool.and_false, Bool.not_true, Bool.not_false, decide_true, decide_false, Bool.true_eq_false, Bool.false_eq_true, reduceIte, reduceCtorEq, Nat.reduceAdd, Nat.reduceSub, Nat.reduceLT, Nat.reduceLeDiff, Nat.reduceEqDiff, Nat.zero_lt_succ, Nat.reduceBEq, BEq.rfl, beq_self_eq_true, Nat.lt_add_one, and_self, and_true, true_and, Nat.zero_add, Nat.add_zero, Nat.add_one_sub_one, Nat.sub_self, Nat.sub_zero, decide_eq_true_eq, Nat.zero_le, Nat.add_zero, Nat.le_refl, b_add, b_sub, c_lt, c_le, c_gt, c_ge, c_eqI, c_neI, c_isNN, c_isIN, c_noNN, c_noIN, o_lenL, o_lenS, o_lenT, o_abs, o_listL, o_listT, o_intI, o_intB, o_max2, o_min2, neg_I]
  · refine ⟨last, rs, sg, runF_rt [some (.scr ns, .no), some (encNet n ps, .no), none, none, none, none, none, none, none, none, none] rfl rfl (start _ ?_), hl24, Rs, S⟩
    refine (exs_f (by simp only [r2, h, runF, exs, ex, evT, ev, evs, evB, evP, evC, evI, blOf, sc, Option.bind_some, Option.bind_none, Option.map_some, Option.map_none, bindT, Fl.al, Fl.el, Fl.ow, Fl.rt, Fl.at, tpAt, movOw, als, retF, D.cl, D.cl1, D.hasL, D.hasLs, retO, retOs, cnt, Env.drp, Env.lock, Env.unlock, Out.unlock, setAll, List.getElem?_cons_zero, List.getElem?_cons_succ, List.set_cons_zero, List.set_cons_succ, List.length_cons, List.length_nil, List.map_cons, List.map_nil, List.cons_append, List.nil_append, List.append_nil, List.flatten_cons, List.flatten_nil, List.replicate_succ, List.replicate_zero, List.getElem?_nil, List.set_nil, List.all_cons, List.all_nil, List.filter_cons, List.filter_nil, List.length_set, List.isEmpty_nil, List.isEmpty_cons, List.foldl_cons, List.foldl_nil, List.append_assoc, List.contains_cons, List.zip_cons_cons, List.zip_nil_left, List.zip_nil_right, if_true, if_false, if_pos rfl, ite_true, ite_false, Bool.true_or, Bool.or_true, Bool.false_or, Bool.or_false, Bool.and_true, Bool.true_and, Bool.false_and, Bool.and_false, Bool.not_true, Bool.not_false, decide_true, decide_false, Bool.true_eq_false, Bool.false_eq_true, reduceIte, reduceCtorEq, Nat.reduceAdd, Nat.reduceSub, Nat.reduceLT, Nat.reduceLeDiff, Nat.reduceEqDiff, Nat.zero_lt_succ, Nat.reduceBEq, BEq.rfl, beq_self_eq_true, Nat.lt_add_one, and_self, and_true, true_and, Nat.zero_add, Nat.add_zero, Nat.add_one_sub_one, Nat.sub_self, Nat.sub_zero, decide_eq_true_eq, Nat.zero_le, Nat.add_zero, Nat.le_refl, b_add, b_sub, c_lt, c_le, c_gt, c_ge, c_eqI, c_neI, c_isNN, c_isIN, c_noNN, c_noIN, o_lenL, o_lenS, o_lenT, o_abs, o_listL, o_listT, o_intI, o_intB, o_max2, o_min2, neg_I] <;> rfl) rfl).trans ?_
    refine exs_rt ?_
    simp only [encTale, hsg, hcl, runF, exs, ex, evT, ev, evs, evB, evP, evC, evI, blOf, sc, Option.bind_some, Option.bind_none, Option.map_some, Option.map_none, bindT, Fl.al, Fl.el, Fl.ow, Fl.rt, Fl.at, tpAt, movOw, als, retF, D.cl, D.cl1, D.hasL, D.hasLs, retO, retOs, cnt, Env.drp, Env.lock, Env.unlock, Out.unlock, setAll, List.getElem?_cons_zero, List.getElem?_cons_succ, List.set_cons_zero, List.set_cons_succ, List.length_cons, List.length_nil, List.map_cons, List.map_nil, List.cons_append, List.nil_append, List.append_nil, List.flatten_cons, List.flatten_nil, List.replicate_succ, List.replicate_zero, List.getElem?_nil, List.set_nil, List.all_cons, List.all_nil, List.filter_cons, List.filter_nil, List.length_set, List.isEmpty_nil, List.isEmpty_cons, List.foldl_cons, List.foldl_nil, List.append_assoc, List.contains_cons, List.zip_cons_cons, List.zip_nil_left, List.zip_nil_right, if_true, if_false, if_pos rfl, ite_true, ite_false, Bool.true_or, Bool.or_true, Bool.false_or, Bool.or_false, Bool.and_true, Bool.true_and, Bool.false_and, Bool.and_false, Bool.not_true, Bool.not_false, decide_true, decide_false, Bool.true_eq_false, Bool.false_eq_true, reduceIte, reduceCtorEq, Nat.reduceAdd, Nat.reduceSub, Nat.reduceLT, Nat.reduceLeDiff, Nat.reduceEqDiff, Nat.zero_lt_succ, Nat.reduceBEq, BEq.rfl, beq_self_eq_true, Nat.lt_add_one, and_self, and_true, true_and, Nat.zero_add, Nat.add_zero, Nat.add_one_sub_one, Nat.sub_self, Nat.sub_zero, decide_eq_true_eq, Nat.zero_le, Nat.add_zero, Nat.le_refl, b_add, b_sub, c_lt, c_le, c_gt, c_ge, c_eqI, c_neI, c_isNN, c_isIN, c_noNN, c_noIN, o_lenL, o_lenS, o_lenT, o_abs, o_listL, o_listT, o_intI, o_intB, o_max2, o_min2, neg_I]
end Ix
set_option Elab.async false
set_option linter.all false
set_option maxRecDepth 100000
set_option maxHeartbeats 4000000
namespace Hs
open PySem Ix
def fns : Nat → Option FD
  | 42 => some F42
  | 43 => some F43
  | 6 => some F6
  | 26 => some F26
  | 2 => some F2
  | 27 => some F27
  | 28 => some F28
  | 29 => some F29
  | _ => none
def T : Tab where
  fn := fun
    | 42 => "ends_of"
    | 43 => "heard_by"
    | 6 => "sure_times"
    | 26 => "_law_cell_at"
    | 2 => "_law_mix"
    | 27 => "_law_net"
    | 28 => "_law_signs"
    | 29 => "_law_tale"
    | _ => ""
  cls := fun _ => ""
  mth := fun _ => ""
  cF := fun _ => []
  key := fun x => if x = "coming" then some 3 else none
  con := fun x => none
  blt := ["abs", "len", "min", "range", "sorted"]
/-- level 3 -/
noncomputable abbrev G (n : Nat) : Orc := orcOf fns n
end Hs

open PySem Ix in
theorem Hs.cells (m : Nat) (ns : List Int) (k : Nat) (_ : k ≤ 1000000) : ∃ c, (orcOf Hs.fns (m + 1)).call 26 [.scr ns, .int k] = some (.int c, .no) := by
  rw [orc_call (F := F26) rfl]; exact cell26 _ ns k
open PySem Ix in
theorem Hs.mixes (m : Nat) (c k : Int) (h0 : 0 ≤ k) (hk : k ≤ 1000000) : ∃ x, (orcOf Hs.fns (m + 1)).call 2 [.int c, .int k] = some (.int x, .no) ∧ 0 ≤ x := by
  rw [orc_call (F := F2) rfl]; exact mix2 _ c k h0 hk
open PySem Ix in
theorem Hs.law_true (ns : List Int) (hl : ns.length ≤ 63) : ∃ o, runF (orcOf Hs.fns 3) F51 [.scr ns] = some (.bl true, o) := by
  obtain ⟨n, ps, h27, N⟩ := net27 (orcOf Hs.fns 2) ns (Hs.cells 1 ns) (Hs.mixes 1)
  obtain ⟨last, rs, sg, h29, T⟩ := tale29 (orcOf Hs.fns 2) ns n ps N (Hs.cells 1 ns) (Hs.mixes 1) (fun last => by
    obtain ⟨sg, h, S⟩ := signs28 (orcOf Hs.fns 1) ns n last ps N.lo (Hs.cells 0 ns) (Hs.mixes 0)
    exact ⟨sg, by rw [orc_call (F := F28) rfl]; exact h, S⟩)
  have hf := T.rs_.fwd
  have hat := T.rs_.ends N
  have hl24 := T.hi
  refine law51 _ ns n ps last rs sg N T (by rw [orc_call (F := F27) rfl]; exact h27) (by rw [orc_call (F := F29) rfl]; exact h29)
    (fun h hh => by rw [orc_call (F := F6) rfl]; exact sure6 _ n ps h N.lo N.hi N.pos (fun p hp => ⟨(N.at_ p hp).1, (N.at_ p hp).2.1, (N.at_ p hp).2.2.2⟩) hh) (fun h t hh ht => ?_)
  obtain ⟨es, fs, h42, W⟩ := ends42 (orcOf Hs.fns 1) n ps last rs sg h t N.hi hat hf T.rs_.len hh
  exact ⟨es, fs, by rw [orc_call (F := F43) rfl]; exact heard43 _ n ps last rs sg h t (by rw [orc_call (F := F42) rfl]; exact h42), W⟩
namespace Hs
open PySem PySem.Spec PyProof.Rows L2 Ix
def top (i : Nat) : Stmt := PySem.Challenge.pw_hearsay_k15_sure_times_are_kept.main.body.getD i (.Pass ⟨0, 0, 0, 0⟩)
theorem ok42 : okF T F42 (top 2) = true := by decide +kernel
theorem ok43 : okF T F43 (top 3) = true := by decide +kernel
theorem ok6 : okF T F6 (top 5) = true := by decide +kernel
theorem ok26 : okF T F26 (top 7) = true := by decide +kernel
theorem ok2 : okF T F2 (top 8) = true := by decide +kernel
theorem ok27 : okF T F27 (top 9) = true := by decide +kernel
theorem ok28 : okF T F28 (top 10) = true := by decide +kernel
theorem ok29 : okF T F29 (top 11) = true := by decide +kernel
theorem ok51 : okF T F51 (top 12) = true := by decide +kernel
theorem all_fns {K : PySem.W.Frag} {mg : Str → Option Value} (h42 : FunAt K mg "ends_of" "ends_of" (top 2) F42.ps) (h43 : FunAt K mg "heard_by" "heard_by" (top 3) F43.ps) (h6 : FunAt K mg "sure_times" "sure_times" (top 5) F6.ps) (h26 : FunAt K mg "_law_cell_at" "_law_cell_at" (top 7) F26.ps) (h2 : FunAt K mg "_law_mix" "_law_mix" (top 8) F2.ps) (h27 : FunAt K mg "_law_net" "_law_net" (top 9) F27.ps) (h28 : FunAt K mg "_law_signs" "_law_signs" (top 10) F28.ps) (h29 : FunAt K mg "_law_tale" "_law_tale" (top 11) F29.ps) : ∀ f F, fns f = some F → ∃ st, T.fn f = F.nm ∧ FunAt K mg F.nm F.nm st F.ps ∧ okF T F st = true := by
  intro f F e
  unfold fns at e
  split at e
  · cases e; exact ⟨top 2, rfl, h42, ok42⟩
  · cases e; exact ⟨top 3, rfl, h43, ok43⟩
  · cases e; exact ⟨top 5, rfl, h6, ok6⟩
  · cases e; exact ⟨top 7, rfl, h26, ok26⟩
  · cases e; exact ⟨top 8, rfl, h2, ok2⟩
  · cases e; exact ⟨top 9, rfl, h27, ok27⟩
  · cases e; exact ⟨top 10, rfl, h28, ok28⟩
  · cases e; exact ⟨top 11, rfl, h29, ok29⟩
  · cases e
theorem all_blt {mg : Str → Option Value} (z0 : mg "abs" = none) (z1 : mg "len" = none) (z2 : mg "min" = none) (z3 : mg "range" = none) (z4 : mg "sorted" = none) : ∀ x, T.blt.contains x = true → mg x = none := by
  intro x hx
  have hx : x ∈ (["abs", "len", "min", "range", "sorted"] : List Str) := by simpa [T] using hx
  simp only [List.mem_cons, List.not_mem_nil, or_false] at hx
  rcases hx with rfl | rfl | rfl | rfl | rfl
  · exact z0
  · exact z1
  · exact z2
  · exact z3
  · exact z4
theorem all_key {K : PySem.W.Frag} {mg : Str → Option Value} (k0 : ∃ f, mg "coming" = some (.ref f) ∧ KFn K f 3) : ∀ x j, T.key x = some j → ∃ f, mg x = some (.ref f) ∧ KFn K f j := by
  intro x j e
  have e : (if x = "coming" then some 3 else none) = some j := e
  split at e
  · rename_i h; cases e; subst h; exact k0
  · cases e
end Hs
open PySem PySem.W PyProof.Rows
set_option maxRecDepth 100000 in
set_option maxHeartbeats 0 in
theorem PySem.Challenge.cw_hearsay_k15_sure_times_are_kept_holds : PySem.Challenge.rw_hearsay_k15_sure_times_are_kept.Holds := by
  w_on; o_law; k_head; (case hw => w_witness2)
  k_fill
  refine Ix.law_end (T := Hs.T) (fns := Hs.fns) (n := 3) (F := Ix.F51) (st := Hs.top 12) (x := "_law_script") rfl rfl rfl rfl rfl ⟨rfl, by decide, by decide⟩ Hs.ok51 (fun w h Y => PySem.W.kIn_of Y) ?W Hs.law_true
  case W =>
    intro w mg h KX G
    have h42 : Ix.FunAt (L2.KOf KX) mg "ends_of" "ends_of" (Hs.top 2) Ix.F42.ps := by
      dsimp only [L2.KOf]
      refine' Ix.fun_at KX G (fun _ _ _ _ _ _ us hl => match us, hl with | [_, _, _], _ => rfl) ?a ?l ?c ?k
      (case a => k_is); (case l => k_is); (case c => k_is); (case k => k_is)
    have h43 : Ix.FunAt (L2.KOf KX) mg "heard_by" "heard_by" (Hs.top 3) Ix.F43.ps := by
      dsimp only [L2.KOf]
      refine' Ix.fun_at KX G (fun _ _ _ _ _ _ us hl => match us, hl with | [_, _, _], _ => rfl) ?a ?l ?c ?k
      (case a => k_is); (case l => k_is); (case c => k_is); (case k => k_is)
    have h6 : Ix.FunAt (L2.KOf KX) mg "sure_times" "sure_times" (Hs.top 5) Ix.F6.ps := by
      dsimp only [L2.KOf]
      refine' Ix.fun_at KX G (fun _ _ _ _ _ _ us hl => match us, hl with | [_, _], _ => rfl) ?a ?l ?c ?k
      (case a => k_is); (case l => k_is); (case c => k_is); (case k => k_is)
    have h26 : Ix.FunAt (L2.KOf KX) mg "_law_cell_at" "_law_cell_at" (Hs.top 7) Ix.F26.ps := by
      dsimp only [L2.KOf]
      refine' Ix.fun_at KX G (fun _ _ _ _ _ _ us hl => match us, hl with | [_, _], _ => rfl) ?a ?l ?c ?k
      (case a => k_is); (case l => k_is); (case c => k_is); (case k => k_is)
    have h2 : Ix.FunAt (L2.KOf KX) mg "_law_mix" "_law_mix" (Hs.top 8) Ix.F2.ps := by
      dsimp only [L2.KOf]
      refine' Ix.fun_at KX G (fun _ _ _ _ _ _ us hl => match us, hl with | [_, _], _ => rfl) ?a ?l ?c ?k
      (case a => k_is); (case l => k_is); (case c => k_is); (case k => k_is)
    have h27 : Ix.FunAt (L2.KOf KX) mg "_law_net" "_law_net" (Hs.top 9) Ix.F27.ps := by
      dsimp only [L2.KOf]
      refine' Ix.fun_at KX G (fun _ _ _ _ _ _ us hl => match us, hl with | [_], _ => rfl) ?a ?l ?c ?k
      (case a => k_is); (case l => k_is); (case c => k_is); (case k => k_is)
    have h28 : Ix.FunAt (L2.KOf KX) mg "_law_signs" "_law_signs" (Hs.top 10) Ix.F28.ps := by
      dsimp only [L2.KOf]
      refine' Ix.fun_at KX G (fun _ _ _ _ _ _ us hl => match us, hl with | [_, _, _], _ => rfl) ?a ?l ?c ?k
      (case a => k_is); (case l => k_is); (case c => k_is); (case k => k_is)
    have h29 : Ix.FunAt (L2.KOf KX) mg "_law_tale" "_law_tale" (Hs.top 11) Ix.F29.ps := by
      dsimp only [L2.KOf]
      refine' Ix.fun_at KX G (fun _ _ _ _ _ _ us hl => match us, hl with | [_, _], _ => rfl) ?a ?l ?c ?k
      (case a => k_is); (case l => k_is); (case c => k_is); (case k => k_is)
    have h51 : Ix.FunAt (L2.KOf KX) mg "law" "law" (Hs.top 12) Ix.F51.ps := by
      dsimp only [L2.KOf]
      refine' Ix.fun_at KX G (fun _ _ _ _ _ _ us hl => match us, hl with | [_], _ => rfl) ?a ?l ?c ?k
      (case a => k_is); (case l => k_is); (case c => k_is); (case k => k_is)
    have z0 : mg "abs" = none := by
      refine' PySem.W.mg_none_of KX G ?z
      (case z => k_is)
    have z1 : mg "len" = none := by
      refine' PySem.W.mg_none_of KX G ?z
      (case z => k_is)
    have z2 : mg "min" = none := by
      refine' PySem.W.mg_none_of KX G ?z
      (case z => k_is)
    have z3 : mg "range" = none := by
      refine' PySem.W.mg_none_of KX G ?z
      (case z => k_is)
    have z4 : mg "sorted" = none := by
      refine' PySem.W.mg_none_of KX G ?z
      (case z => k_is)
    have k0 : ∃ f, mg "coming" = some (.ref f) ∧ Ix.KFn (L2.KOf KX) f 3 := by
      dsimp only [L2.KOf]
      refine' Ix.key_at KX G (st := Hs.top 1) rfl rfl rfl rfl (by decide +kernel) (by decide +kernel) (fun _ _ _ _ _ _ _ => rfl) ?a ?l ?c
      (case a => k_is); (case l => k_is); (case c => k_is)
    exact ⟨Hs.all_fns h42 h43 h6 h26 h2 h27 h28 h29, h51, Hs.all_blt z0 z1 z2 z3 z4, (Hs.all_key k0), (fun _ _ e => nomatch e)⟩
