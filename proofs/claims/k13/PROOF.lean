import PyProof.Rows.All
import Wide.All
import OpenK.AllK
import Wide.FinOn
import HandS.ForMost
import HandS.Star
import HandS.Deep
import HandS.TupAny
import HandS.TupMul
import HandS.TupLe
import HandS.Wide
import HandS.Style
import HandS.IsInst
import HandS.Zip
import HandS.Walk
import HandS.Conv
import HandS.SetKeys
import HandS.GenList
import KE.SortData
import KE.LtData
import KE.LtSeq
import PyProof.EnumMake
import KE.GoesMore
import PyProof.Rows.SetFrom
import HandS.Set
import HandS.SetFor
import PyProof.CollectStr
import KE.KStar
import HandS.Head0
import HandS.Head1
import HandS.Head2
import HandS.HeadEnd
import HandS.HeadHook1
import HandS.HeadHook2
import HandS.GenYield
import PySem.Challenge.RW_samefiles_k13_whole_names_outside
set_option Elab.async false
set_option linter.all false
set_option maxRecDepth 100000
/-! Z1: values without addresses, how they lie in the layer's abstract heap -/
namespace Z
open PySem PySem.Spec PyProof.Rows L2

/-- a value: tuples and settled lists are data; a list or dict that is changed is a number -/
inductive D where
  | non | bl (b : Bool) | int (i : Int) | str (x : Str) | tup (xs : List D) | lst (xs : List D) | scr (ns : List Int) | ref (n : Nat)

/-- an object that is changed -/
inductive O where
  | lst (xs : List D) | dic (kvs : List (Key × D)) | lck (kvs : List (Key × D))

abbrev MH := List O
abbrev Rho := List (Option D)
abbrev Ev := Rho → MH → (D → MH → Prop) → Prop
abbrev Tv := Rho → MH → (Bool → MH → Prop) → Prop
abbrev Av := Rho → MH → (List D → MH → Prop) → Prop
structure Kx where
  nx : Rho → MH → Prop
  rt : D → MH → Prop
  bk : Rho → MH → Prop
  ct : Rho → MH → Prop
abbrev Sv := Kx → Rho → MH → Prop
abbrev Gs := List D → MH → (D → MH → Prop) → Prop

/-- where the changed objects lie; what nobody else may own -/
structure Vw where
  m : List Addr
  A : Addr → Prop

def WrT (F : PySem.W.Frag) (a : Addr) (vs : List V) : Prop :=
  ∃ (o : Obj) (its : Array Value) (n : Nat), F.lookup a = some o ∧ o.cls = .type "tuple" ∧ o.data = .seq its n ∧ its.size ≤ sizeLine ∧ Vals vs its.toList
def RdT (F : PySem.W.Frag) (W : Vw) (H : Hp) (a : Addr) (vs : List V) : Prop := (¬ W.A a ∧ Rd H a (.tup vs)) ∨ WrT F a vs
def RdL (W : Vw) (H : Hp) (a : Addr) (vs : List V) : Prop := ¬ W.A a ∧ H a = some (.lst vs)
def WrL (F : PySem.W.Frag) (a : Addr) (vs : List V) : Prop :=
  ∃ (o : Obj) (its : Array Value) (n : Nat), F.lookup a = some o ∧ o.cls = .type "list" ∧ o.dict = none ∧ o.data = .seq its n ∧ its.size ≤ sizeLine ∧ Vals vs its.toList
def RdS (F : PySem.W.Frag) (W : Vw) (H : Hp) (a : Addr) (vs : List V) : Prop := (¬ W.A a ∧ Rd H a (.lst vs)) ∨ WrL F a vs
theorem RdS.sq {F : PySem.W.Frag} {W : Vw} {H : Hp} {a : Addr} {vs : List V} (h : RdS F W H a vs) : SqL F H a vs := h.elim (fun z => .inl z.2) .inr
theorem RdT.sq {F : PySem.W.Frag} {W : Vw} {H : Hp} {a : Addr} {vs : List V} (h : RdT F W H a vs) : SqT F H a vs := h.elim (fun z => .inl z.2) .inr
theorem RdL.sq {F : PySem.W.Frag} {W : Vw} {H : Hp} {a : Addr} {vs : List V} (h : RdL W H a vs) : SqL F H a vs := .inl (.inl h.2)

mutual
def Rep (F : PySem.W.Frag) (W : Vw) (H : Hp) : D → V → Prop
  | .non, v => v = .non
  | .bl b, v => v = .bl b
  | .int i, v => v = .int i
  | .str x, v => v = .str x
  | .tup xs, v => ∃ a vs, v = .ref a ∧ RdT F W H a vs ∧ Reps F W H xs vs
  | .lst xs, v => ∃ a vs, v = .ref a ∧ RdL W H a vs ∧ Reps F W H xs vs
  | .scr ns, v => ∃ a, v = .ref a ∧ RdS F W H a (ns.map V.int)
  | .ref n, v => ∃ a, v = .ref a ∧ W.m[n]? = some a
def Reps (F : PySem.W.Frag) (W : Vw) (H : Hp) : List D → List V → Prop
  | [], vs => vs = []
  | x :: xs, vs => ∃ y ys, vs = y :: ys ∧ Rep F W H x y ∧ Reps F W H xs ys
end

structure Pres (W : Vw) (H : Hp) (W' : Vw) (H' : Hp) : Prop where
  ext : ∃ t, W'.m = W.m ++ t ∧ ∀ a ∈ t, ¬ W.A a
  sub : ∀ a, W.A a → W'.A a
  keep : ∀ a o, ¬ W.A a → H a = some o → H' a = some o ∧ ¬ W'.A a
  frz : ∀ a o u, H a = some (.frz o u) → H' a = some (.frz o u)
  hid : ∀ a, W.A a → a ∉ W.m → H' a = H a
theorem Pres.refl (W : Vw) (H : Hp) : Pres W H W H := ⟨⟨[], by simp, by simp⟩, fun _ h => h, fun _ _ n h => ⟨h, n⟩, fun _ _ _ h => h, fun _ _ _ => rfl⟩
theorem Pres.out {W W' : Vw} {H H' : Hp} (p : Pres W H W' H') {a : Addr} (z : W.A a) (n : a ∉ W.m) : a ∉ W'.m := fun h => by
  obtain ⟨t, e, nt⟩ := p.ext
  rw [e] at h
  rcases List.mem_append.mp h with h | h
  · exact n h
  · exact nt a h z
theorem Pres.trans {W W1 W2 : Vw} {H H1 H2 : Hp} (p : Pres W H W1 H1) (q : Pres W1 H1 W2 H2) : Pres W H W2 H2 := by
  obtain ⟨t, e, n⟩ := p.ext
  obtain ⟨t2, e2, n2⟩ := q.ext
  refine ⟨⟨t ++ t2, by rw [e2, e, List.append_assoc], fun a h => ?_⟩, fun a h => q.sub a (p.sub a h), fun a o na h => ?_, fun a o u h => q.frz a o u (p.frz a o u h), fun a z n => (q.hid a (p.sub a z) (p.out z n)).trans (p.hid a z n)⟩
  · rcases List.mem_append.mp h with h | h
    · exact n a h
    · exact fun z => n2 a h (p.sub a z)
  · obtain ⟨h1, n1⟩ := p.keep a o na h
    exact q.keep a o n1 h1
theorem Pres.rd {W W' : Vw} {H H' : Hp} (p : Pres W H W' H') {a : Addr} {u : HO} (n : ¬ W.A a) (h : Rd H a u) : Rd H' a u ∧ ¬ W'.A a := by
  rcases h with h | ⟨o, h⟩
  · exact ⟨.inl (p.keep a _ n h).1, (p.keep a _ n h).2⟩
  · exact ⟨.inr ⟨o, (p.keep a _ n h).1⟩, (p.keep a _ n h).2⟩
theorem Pres.rdT {F : PySem.W.Frag} {W W' : Vw} {H H' : Hp} (p : Pres W H W' H') {a : Addr} {vs : List V} (h : RdT F W H a vs) : RdT F W' H' a vs := by
  rcases h with ⟨n, h⟩ | h
  · exact .inl ⟨(p.rd n h).2, (p.rd n h).1⟩
  · exact .inr h
theorem Pres.rdL {W W' : Vw} {H H' : Hp} (p : Pres W H W' H') {a : Addr} {vs : List V} (h : RdL W H a vs) : RdL W' H' a vs :=
  ⟨(p.keep a _ h.1 h.2).2, (p.keep a _ h.1 h.2).1⟩
theorem Pres.at_ {W W' : Vw} {H H' : Hp} (p : Pres W H W' H') {n : Nat} {a : Addr} (h : W.m[n]? = some a) : W'.m[n]? = some a := by
  obtain ⟨t, e, _⟩ := p.ext
  rw [e, List.getElem?_append_left (List.getElem?_eq_some_iff.mp h).1]
  exact h
mutual
theorem Rep.pres {F : PySem.W.Frag} {W W' : Vw} {H H' : Hp} (p : Pres W H W' H') : ∀ {d : D} {v : V}, Rep F W H d v → Rep F W' H' d v
  | .non, _, h => by simpa [Rep] using h
  | .bl _, _, h => by simpa [Rep] using h
  | .int _, _, h => by simpa [Rep] using h
  | .str _, _, h => by simpa [Rep] using h
  | .tup xs, v, h => by
    rw [Rep] at h ⊢
    obtain ⟨a, vs, e, r, q⟩ := h
    exact ⟨a, vs, e, p.rdT r, Reps.pres p q⟩
  | .lst xs, v, h => by
    rw [Rep] at h ⊢
    obtain ⟨a, vs, e, r, q⟩ := h
    exact ⟨a, vs, e, p.rdL r, Reps.pres p q⟩
  | .scr ns, v, h => by
    rw [Rep] at h ⊢
    obtain ⟨a, e, n | q⟩ := h
    · exact ⟨a, e, .inl ⟨(p.rd n.1 n.2).2, (p.rd n.1 n.2).1⟩⟩
    · exact ⟨a, e, .inr q⟩
  | .ref n, v, h => by
    rw [Rep] at h ⊢
    obtain ⟨a, e, q⟩ := h
    exact ⟨a, e, p.at_ q⟩
theorem Reps.pres {F : PySem.W.Frag} {W W' : Vw} {H H' : Hp} (p : Pres W H W' H') : ∀ {xs : List D} {vs : List V}, Reps F W H xs vs → Reps F W' H' xs vs
  | [], _, h => by simpa [Reps] using h
  | x :: xs, vs, h => by
    rw [Reps] at h ⊢
    obtain ⟨y, ys, e, r, q⟩ := h
    exact ⟨y, ys, e, Rep.pres p r, Reps.pres p q⟩
end
section
variable {F : PySem.W.Frag} {W W' : Vw} {H H' : Hp}
theorem Reps.length : ∀ {xs : List D} {vs : List V}, Reps F W H xs vs → vs.length = xs.length
  | [], _, h => by rw [Reps] at h; rw [h]; rfl
  | x :: xs, _, h => by
    rw [Reps] at h
    obtain ⟨y, ys, rfl, _, q⟩ := h
    rw [List.length_cons, List.length_cons, Reps.length q]
theorem Reps.nil : Reps F W H [] [] := by rw [Reps]
theorem Reps.cons {x : D} {xs : List D} {v : V} {vs : List V} (r : Rep F W H x v) (q : Reps F W H xs vs) : Reps F W H (x :: xs) (v :: vs) := by
  rw [Reps]
  exact ⟨v, vs, rfl, r, q⟩
theorem Reps.inv {x : D} {xs : List D} {vs : List V} (h : Reps F W H (x :: xs) vs) : ∃ y ys, vs = y :: ys ∧ Rep F W H x y ∧ Reps F W H xs ys := by
  rw [Reps] at h
  exact h
theorem Reps.nil_inv {vs : List V} (h : Reps F W H [] vs) : vs = [] := by
  rw [Reps] at h
  exact h
theorem Reps.append : ∀ {xs ys : List D} {vs ws : List V}, Reps F W H xs vs → Reps F W H ys ws → Reps F W H (xs ++ ys) (vs ++ ws)
  | [], _, _, _, h, q => by cases h.nil_inv; exact q
  | x :: xs, _, _, _, h, q => by
    obtain ⟨y, ys, rfl, r, t⟩ := h.inv
    exact .cons r (Reps.append t q)
theorem Reps.get : ∀ {xs : List D} {vs : List V} {i : Nat} {x : D}, Reps F W H xs vs → xs[i]? = some x → ∃ v, vs[i]? = some v ∧ Rep F W H x v
  | [], _, _, _, _, e => by simp at e
  | x :: xs, _, 0, _, h, e => by
    obtain ⟨y, ys, rfl, r, t⟩ := h.inv
    simp at e
    subst e
    exact ⟨y, rfl, r⟩
  | x :: xs, _, i + 1, _, h, e => by
    obtain ⟨y, ys, rfl, r, t⟩ := h.inv
    exact Reps.get (i := i) t (by simpa using e)
theorem Reps.get' : ∀ {xs : List D} {vs : List V} {i : Nat} {v : V}, Reps F W H xs vs → vs[i]? = some v → ∃ x, xs[i]? = some x ∧ Rep F W H x v := by
  intro xs vs i v h e
  obtain ⟨hl, _⟩ := List.getElem?_eq_some_iff.mp e
  have hx : i < xs.length := by rw [← h.length]; exact hl
  obtain ⟨v', e', r⟩ := h.get (List.getElem?_eq_getElem hx)
  rw [e] at e'
  cases e'
  exact ⟨_, List.getElem?_eq_getElem hx, r⟩
theorem Reps.set : ∀ {xs : List D} {vs : List V} (i : Nat) {x : D} {v : V}, Reps F W H xs vs → Rep F W H x v → Reps F W H (xs.set i x) (vs.set i v)
  | [], _, _, _, _, h, _ => by cases h.nil_inv; exact .nil
  | _ :: _, _, 0, _, _, h, r => by
    obtain ⟨y, ys, rfl, _, t⟩ := h.inv
    exact .cons r t
  | _ :: _, _, i + 1, _, _, h, r => by
    obtain ⟨y, ys, rfl, r0, t⟩ := h.inv
    exact .cons r0 (Reps.set i t r)
theorem Reps.take : ∀ {xs : List D} {vs : List V} (n : Nat), Reps F W H xs vs → Reps F W H (xs.take n) (vs.take n)
  | _, _, 0, _ => by simp; exact .nil
  | [], _, _ + 1, h => by cases h.nil_inv; exact .nil
  | _ :: _, _, n + 1, h => by
    obtain ⟨y, ys, rfl, r0, t⟩ := h.inv
    exact .cons r0 (Reps.take n t)
theorem Reps.drop : ∀ {xs : List D} {vs : List V} (n : Nat), Reps F W H xs vs → Reps F W H (xs.drop n) (vs.drop n)
  | _, _, 0, h => by simpa using h
  | [], _, _ + 1, h => by cases h.nil_inv; exact .nil
  | _ :: _, _, n + 1, h => by
    obtain ⟨y, ys, rfl, r0, t⟩ := h.inv
    exact Reps.drop n t
theorem Reps.reverse : ∀ {xs : List D} {vs : List V}, Reps F W H xs vs → Reps F W H xs.reverse vs.reverse
  | [], _, h => by cases h.nil_inv; exact .nil
  | _ :: _, _, h => by
    obtain ⟨y, ys, rfl, r0, t⟩ := h.inv
    rw [List.reverse_cons, List.reverse_cons]
    exact (Reps.reverse t).append (.cons r0 .nil)
theorem Reps.eraseIdx : ∀ {xs : List D} {vs : List V} (i : Nat), Reps F W H xs vs → Reps F W H (xs.eraseIdx i) (vs.eraseIdx i)
  | [], _, _, h => by cases h.nil_inv; exact .nil
  | _ :: _, _, 0, h => by
    obtain ⟨y, ys, rfl, _, t⟩ := h.inv
    exact t
  | _ :: _, _, i + 1, h => by
    obtain ⟨y, ys, rfl, r0, t⟩ := h.inv
    exact .cons r0 (Reps.eraseIdx i t)
theorem Reps.map_f {α : Type} (f : α → D) (g : α → V) (hfg : ∀ a, Rep F W H (f a) (g a)) : ∀ l : List α, Reps F W H (l.map f) (l.map g)
  | [] => .nil
  | a :: l => .cons (hfg a) (Reps.map_f f g hfg l)
theorem Rep.int (i : Int) : Rep F W H (.int i) (.int i) := by rw [Rep]
theorem Rep.bl (b : Bool) : Rep F W H (.bl b) (.bl b) := by rw [Rep]
theorem Rep.str (x : Str) : Rep F W H (.str x) (.str x) := by rw [Rep]
theorem Rep.non : Rep F W H .non .non := by rw [Rep]
end

def RepKV (F : PySem.W.Frag) (W : Vw) (H : Hp) (kvs : List (Key × D)) (ks : List (Key × V)) : Prop :=
  ks.map (·.1) = kvs.map (·.1) ∧ Reps F W H (kvs.map (·.2)) (ks.map (·.2))
def RepO (F : PySem.W.Frag) (W : Vw) (H : Hp) : O → Addr → Prop
  | .lst xs, a => ∃ vs, H a = some (.lst vs) ∧ Reps F W H xs vs
  | .dic kvs, a => ∃ ks, H a = some (.dK ks) ∧ RepKV F W H kvs ks
  | .lck kvs, a => ∃ ks od, H a = some (.frz od (.dK ks)) ∧ RepKV F W H kvs ks
theorem RepKV.pres {F : PySem.W.Frag} {W W' : Vw} {H H' : Hp} (p : Pres W H W' H') {kvs : List (Key × D)} {ks : List (Key × V)} (h : RepKV F W H kvs ks) : RepKV F W' H' kvs ks := ⟨h.1, h.2.pres p⟩
theorem RepO.pres {F : PySem.W.Frag} {W W' : Vw} {H H' : Hp} (p : Pres W H W' H') {o : O} {a : Addr} (e : H' a = H a) (h : RepO F W H o a) : RepO F W' H' o a := by
  cases o with
  | lst xs =>
    obtain ⟨vs, q, r⟩ := h
    exact ⟨vs, e.trans q, r.pres p⟩
  | dic kvs =>
    obtain ⟨ks, q, r⟩ := h
    exact ⟨ks, e.trans q, r.pres p⟩
  | lck kvs =>
    obtain ⟨ks, od, q, r⟩ := h
    exact ⟨ks, od, e.trans q, r.pres p⟩

mutual
theorem Rep.view {F : PySem.W.Frag} {W W' : Vw} {H : Hp} (ha : ∀ a, W'.A a → W.A a) (hm : ∃ t, W'.m = W.m ++ t) : ∀ {d : D} {v : V}, Rep F W H d v → Rep F W' H d v
  | .non, _, h => by simpa [Rep] using h
  | .bl _, _, h => by simpa [Rep] using h
  | .int _, _, h => by simpa [Rep] using h
  | .str _, _, h => by simpa [Rep] using h
  | .tup xs, v, h => by
    rw [Rep] at h ⊢
    obtain ⟨b, vs, e, r, q⟩ := h
    refine ⟨b, vs, e, ?_, Reps.view ha hm q⟩
    rcases r with ⟨n, r⟩ | r
    · exact .inl ⟨fun z => n (ha b z), r⟩
    · exact .inr r
  | .lst xs, v, h => by
    rw [Rep] at h ⊢
    obtain ⟨b, vs, e, ⟨n, r⟩, q⟩ := h
    exact ⟨b, vs, e, ⟨fun z => n (ha b z), r⟩, Reps.view ha hm q⟩
  | .scr ns, v, h => by
    rw [Rep] at h ⊢
    obtain ⟨b, e, n | q⟩ := h
    · exact ⟨b, e, .inl ⟨fun z => n.1 (ha b z), n.2⟩⟩
    · exact ⟨b, e, .inr q⟩
  | .ref n, v, h => by
    rw [Rep] at h ⊢
    obtain ⟨a, e, q⟩ := h
    obtain ⟨t, et⟩ := hm
    exact ⟨a, e, by rw [et, List.getElem?_append_left (List.getElem?_eq_some_iff.mp q).1]; exact q⟩
theorem Reps.view {F : PySem.W.Frag} {W W' : Vw} {H : Hp} (ha : ∀ a, W'.A a → W.A a) (hm : ∃ t, W'.m = W.m ++ t) : ∀ {xs : List D} {vs : List V}, Reps F W H xs vs → Reps F W' H xs vs
  | [], _, h => by simpa [Reps] using h
  | x :: xs, vs, h => by
    rw [Reps] at h ⊢
    obtain ⟨y, ys, e, r, q⟩ := h
    exact ⟨y, ys, e, Rep.view ha hm r, Reps.view ha hm q⟩
end
theorem RepO.view {F : PySem.W.Frag} {W W' : Vw} {H : Hp} (ha : ∀ a, W'.A a → W.A a) (hm : ∃ t, W'.m = W.m ++ t) {o : O} {b : Addr} (h : RepO F W H o b) : RepO F W' H o b := by
  cases o with
  | lst xs =>
    obtain ⟨vs, q, r⟩ := h
    exact ⟨vs, q, r.view ha hm⟩
  | dic kvs =>
    obtain ⟨ks, q, r⟩ := h
    exact ⟨ks, q, r.1, r.2.view ha hm⟩
  | lck kvs =>
    obtain ⟨ks, od, q, r⟩ := h
    exact ⟨ks, od, q, r.1, r.2.view ha hm⟩

/-- the changed objects as they stand -/
structure RelH (F : PySem.W.Frag) (W : Vw) (h : MH) (H : Hp) : Prop where
  len : W.m.length = h.length
  nd : W.m.Nodup
  sub : ∀ a ∈ W.m, W.A a
  trk : ∀ a, W.A a → ∃ o, H a = some o
  at_ : ∀ (n : Nat) (o : O) (a : Addr), h[n]? = some o → W.m[n]? = some a → RepO F W H o a
section
variable {F : PySem.W.Frag} {W : Vw} {H : Hp} {h : MH} {p : Addr}
theorem RelH.free (R : RelH F W h H) (hp : H p = none) : ¬ W.A p := fun z => by
  obtain ⟨o, e⟩ := R.trk p z
  rw [hp] at e
  cases e
/-- a new settled object -/
theorem Pres.new (n : ¬ W.A p) (hp : H p = none) (u : HO) : Pres W H W (upd H p u) :=
  ⟨⟨[], by simp, by simp⟩, fun _ z => z, fun a o na e => ⟨by rw [upd_ne (ne_of_none e hp)]; exact e, na⟩, fun a o u' e => by rw [upd_ne (ne_of_none e hp)]; exact e, fun a z _ => upd_ne (fun q => n (by rw [← q]; exact z))⟩
theorem RelH.new (R : RelH F W h H) (hp : H p = none) (u : HO) : RelH F W h (upd H p u) := by
  have P := Pres.new (R.free hp) hp u
  refine ⟨R.len, R.nd, R.sub, fun a z => ?_, fun n o a e1 e2 => ?_⟩
  · obtain ⟨o, e⟩ := R.trk a z
    exact ⟨o, by rw [upd_ne (ne_of_none e hp)]; exact e⟩
  · refine (R.at_ n o a e1 e2).pres P ?_
    obtain ⟨o, e⟩ := R.trk a (R.sub a (List.mem_of_getElem? e2))
    rw [upd_ne (ne_of_none e hp)]
/-- the view with a new object that is changed -/
def Vw.more (W : Vw) (p : Addr) : Vw := ⟨W.m ++ [p], fun a => W.A a ∨ a = p⟩
theorem Pres.more (n : ¬ W.A p) (hp : H p = none) (u : HO) : Pres W H (W.more p) (upd H p u) :=
  ⟨⟨[p], rfl, fun a z => by simp at z; rw [z]; exact n⟩, fun _ z => .inl z, fun a o na e => ⟨by rw [upd_ne (ne_of_none e hp)]; exact e, fun z => z.elim na (ne_of_none e hp)⟩, fun a o u' e => by rw [upd_ne (ne_of_none e hp)]; exact e, fun a z _ => upd_ne (fun q => n (by rw [← q]; exact z))⟩
theorem RelH.more (R : RelH F W h H) (hp : H p = none) {u : HO} {ob : O} (r : RepO F (W.more p) (upd H p u) ob p) : RelH F (W.more p) (h ++ [ob]) (upd H p u) := by
  have n := R.free hp
  have P := Pres.more n hp u
  refine ⟨by simp [Vw.more, R.len], ?_, fun a z => ?_, fun a z => ?_, fun k o a e1 e2 => ?_⟩
  · show (W.m ++ [p]).Nodup
    rw [List.nodup_append]
    exact ⟨R.nd, by simp, fun a ha b hb e => by simp at hb; subst hb; subst e; exact n (R.sub a ha)⟩
  · rcases List.mem_append.mp z with z | z
    · exact .inl (R.sub a z)
    · exact .inr (by simpa using z)
  · rcases z with z | z
    · obtain ⟨o, e⟩ := R.trk a z
      exact ⟨o, by rw [upd_ne (ne_of_none e hp)]; exact e⟩
    · subst z
      exact ⟨u, upd_same⟩
  · have e2 : (W.m ++ [p])[k]? = some a := e2
    by_cases hk : k < W.m.length
    · rw [List.getElem?_append_left hk] at e2
      rw [List.getElem?_append_left (by rw [← R.len]; exact hk)] at e1
      refine (R.at_ k o a e1 e2).pres P ?_
      obtain ⟨o, e⟩ := R.trk a (R.sub a (List.mem_of_getElem? e2))
      rw [upd_ne (ne_of_none e hp)]
    · rw [List.getElem?_append_right (by omega)] at e2
      rw [List.getElem?_append_right (by rw [← R.len]; omega)] at e1
      have hk0 : k - W.m.length = 0 := by
        obtain ⟨q, _⟩ := List.getElem?_eq_some_iff.mp e2
        simp at q
        omega
      have hk1 : k - h.length = 0 := by rw [← R.len]; exact hk0
      rw [hk0] at e2
      rw [hk1] at e1
      cases Option.some.inj e2
      cases Option.some.inj e1
      exact r
theorem RelH.ref (R : RelH F W h H) {u : HO} : Rep F (W.more p) (upd H p u) (.ref h.length) (.ref p) := by
  rw [Rep]
  refine ⟨p, rfl, ?_⟩
  show (W.m ++ [p])[h.length]? = some p
  rw [← R.len, List.getElem?_append_right (Nat.le_refl _)]
  simp
/-- an object that is changed -/
theorem Pres.write (a : Addr) (u : HO) (z : W.A a) (nf : ∀ o u, H a ≠ some (.frz o u)) (hm : a ∈ W.m) : Pres W H W (upd H a u) :=
  ⟨⟨[], by simp, by simp⟩, fun _ z => z, fun b o nb e => ⟨by rw [upd_ne (fun q => nb (by rw [q]; exact z))]; exact e, nb⟩, fun b o u' e => by rw [upd_ne (fun q => nf o u' (by rw [← q]; exact e))]; exact e, fun b _ nb => upd_ne (fun q => nb (by rw [q]; exact hm))⟩
mutual
theorem Rep.write {a : Addr} {u : HO} (z : W.A a) : ∀ {d : D} {v : V}, Rep F W H d v → Rep F W (upd H a u) d v
  | .non, _, h => by simpa [Rep] using h
  | .bl _, _, h => by simpa [Rep] using h
  | .int _, _, h => by simpa [Rep] using h
  | .str _, _, h => by simpa [Rep] using h
  | .tup xs, v, h => by
    rw [Rep] at h ⊢
    obtain ⟨b, vs, e, r, q⟩ := h
    refine ⟨b, vs, e, ?_, Reps.write z q⟩
    rcases r with ⟨n, r⟩ | r
    · have hb : b ≠ a := fun q => n (by rw [q]; exact z)
      refine .inl ⟨n, ?_⟩
      unfold Rd
      rw [upd_ne hb]
      exact r
    · exact .inr r
  | .lst xs, v, h => by
    rw [Rep] at h ⊢
    obtain ⟨b, vs, e, ⟨n, r⟩, q⟩ := h
    have hb : b ≠ a := fun q => n (by rw [q]; exact z)
    exact ⟨b, vs, e, ⟨n, by rw [upd_ne hb]; exact r⟩, Reps.write z q⟩
  | .scr ns, v, h => by
    rw [Rep] at h ⊢
    obtain ⟨b, e, n | q⟩ := h
    · have hb : b ≠ a := fun q => n.1 (by rw [q]; exact z)
      refine ⟨b, e, .inl ⟨n.1, ?_⟩⟩
      unfold Rd
      rw [upd_ne hb]
      exact n.2
    · exact ⟨b, e, .inr q⟩
  | .ref n, v, h => by
    rw [Rep] at h ⊢
    exact h
theorem Reps.write {a : Addr} {u : HO} (z : W.A a) : ∀ {xs : List D} {vs : List V}, Reps F W H xs vs → Reps F W (upd H a u) xs vs
  | [], _, h => by simpa [Reps] using h
  | x :: xs, vs, h => by
    rw [Reps] at h ⊢
    obtain ⟨y, ys, e, r, q⟩ := h
    exact ⟨y, ys, e, Rep.write z r, Reps.write z q⟩
end
theorem RepO.write {a b : Addr} {u : HO} (z : W.A a) (hb : b ≠ a) {o : O} (h : RepO F W H o b) : RepO F W (upd H a u) o b := by
  cases o with
  | lst xs =>
    obtain ⟨vs, q, r⟩ := h
    exact ⟨vs, by rw [upd_ne hb]; exact q, r.write z⟩
  | dic kvs =>
    obtain ⟨ks, q, r⟩ := h
    exact ⟨ks, by rw [upd_ne hb]; exact q, r.1, r.2.write z⟩
  | lck kvs =>
    obtain ⟨ks, od, q, r⟩ := h
    exact ⟨ks, od, by rw [upd_ne hb]; exact q, r.1, r.2.write z⟩
theorem RelH.write (R : RelH F W h H) {n : Nat} {a : Addr} (e : W.m[n]? = some a) {u : HO} {ob : O} (r : RepO F W (upd H a u) ob a) : RelH F W (h.set n ob) (upd H a u) := by
  have z := R.sub a (List.mem_of_getElem? e)
  refine ⟨by rw [R.len, List.length_set], R.nd, R.sub, fun b q => ?_, fun k o b e1 e2 => ?_⟩
  · by_cases hb : b = a
    · subst hb
      exact ⟨u, upd_same⟩
    · rw [upd_ne hb]
      exact R.trk b q
  · by_cases hk : n = k
    · subst hk
      rw [e] at e2
      cases e2
      have hl : n < h.length := by
        rw [← R.len]
        exact (List.getElem?_eq_some_iff.mp e).1
      rw [List.getElem?_set_self hl] at e1
      cases e1
      exact r
    · rw [List.getElem?_set_ne hk] at e1
      have hb : b ≠ a := fun q => by
        subst q
        obtain ⟨h1, e1'⟩ := List.getElem?_eq_some_iff.mp e
        obtain ⟨h2, e2'⟩ := List.getElem?_eq_some_iff.mp e2
        exact hk ((List.getElem_inj R.nd).mp (e1'.trans e2'.symm))
      exact (R.at_ k o b e1 e2).write z hb
theorem RelH.get (R : RelH F W h H) {n : Nat} {o : O} (e : h[n]? = some o) : ∃ a, W.m[n]? = some a ∧ RepO F W H o a ∧ W.A a := by
  have hl : n < W.m.length := by
    rw [R.len]
    exact (List.getElem?_eq_some_iff.mp e).1
  have e2 := List.getElem?_eq_getElem hl
  exact ⟨_, e2, R.at_ n o _ e e2, R.sub _ (List.mem_of_getElem? e2)⟩
end
def RelE (F : PySem.W.Frag) (W : Vw) (H : Hp) (ρ : Rho) (σ : L2.St) : Prop := ρ.length ≤ σ.length ∧ ∀ (i : Nat) (d : D), ρ[i]? = some (some d) → ∃ v, σ[i]? = some (some v) ∧ Rep F W H d v
theorem RelE.pres {F : PySem.W.Frag} {W W' : Vw} {H H' : Hp} (p : Pres W H W' H') {ρ : Rho} {σ : L2.St} (h : RelE F W H ρ σ) : RelE F W' H' ρ σ :=
  ⟨h.1, fun i d e => by
    obtain ⟨v, q, r⟩ := h.2 i d e
    exact ⟨v, q, r.pres p⟩⟩
theorem RelE.set {F : PySem.W.Frag} {W : Vw} {H : Hp} {ρ : Rho} {σ : L2.St} (h : RelE F W H ρ σ) {i : Nat} {d : D} {v : V} (r : Rep F W H d v) : RelE F W H (ρ.set i (some d)) (σ.set i (some v)) := by
  refine ⟨by rw [List.length_set, List.length_set]; exact h.1, fun j d' e => ?_⟩
  by_cases hj : i = j
  · subst hj
    have hl : i < ρ.length := by
      have := (List.getElem?_eq_some_iff.mp e).1
      rwa [List.length_set] at this
    rw [List.getElem?_set_self hl] at e
    cases e
    exact ⟨v, by rw [List.getElem?_set_self (Nat.lt_of_lt_of_le hl h.1)], r⟩
  · rw [List.getElem?_set_ne hj] at e
    obtain ⟨v', q, r'⟩ := h.2 j d' e
    exact ⟨v', by rw [List.getElem?_set_ne hj]; exact q, r'⟩

/-! ### readings over values -/
def tE (F : PySem.W.Frag) (w : Ev) : TE := fun σ H Q => ∃ (W : Vw) (ρ : Rho) (h : MH) (K0 : D → MH → Prop), RelE F W H ρ σ ∧ RelH F W h H ∧ w ρ h K0 ∧
  ∀ d h' W' H' v, K0 d h' → Pres W H W' H' → RelH F W' h' H' → Rep F W' H' d v → Q v H'
def tT (F : PySem.W.Frag) (w : Tv) : TT := fun σ H Q => ∃ (W : Vw) (ρ : Rho) (h : MH) (K0 : Bool → MH → Prop), RelE F W H ρ σ ∧ RelH F W h H ∧ w ρ h K0 ∧
  ∀ b h' W' H', K0 b h' → Pres W H W' H' → RelH F W' h' H' → Q b H'
def tA (F : PySem.W.Frag) (w : Av) : TA := fun σ H Q => ∃ (W : Vw) (ρ : Rho) (h : MH) (K0 : List D → MH → Prop), RelE F W H ρ σ ∧ RelH F W h H ∧ w ρ h K0 ∧
  ∀ ds h' W' H' vs, K0 ds h' → Pres W H W' H' → RelH F W' h' H' → Reps F W' H' ds vs → Q vs H'
def tS (F : PySem.W.Frag) (s : Sv) : TS := fun E σ H => ∃ (W : Vw) (ρ : Rho) (h : MH) (K0 : Kx), RelE F W H ρ σ ∧ RelH F W h H ∧ s K0 ρ h ∧
  (∀ ρ' h' W' σ' H', K0.nx ρ' h' → Pres W H W' H' → RelE F W' H' ρ' σ' → RelH F W' h' H' → E.nx σ' H') ∧
  (∀ d h' W' H' v, K0.rt d h' → Pres W H W' H' → RelH F W' h' H' → Rep F W' H' d v → E.rt v H') ∧
  (∀ ρ' h' W' σ' H', K0.bk ρ' h' → Pres W H W' H' → RelE F W' H' ρ' σ' → RelH F W' h' H' → E.bk σ' H') ∧
  (∀ ρ' h' W' σ' H', K0.ct ρ' h' → Pres W H W' H' → RelE F W' H' ρ' σ' → RelH F W' h' H' → E.ct σ' H')
theorem _root_.L2.PE.imp {X : Cx} {e : Expr} {t t' : TE} (h : PE X e t) (k : ∀ σ H Q, t' σ H Q → t σ H Q) : PE X e t' := ⟨fun pins s σ H Q I hw => h.run pins s σ H Q I (k _ _ _ hw)⟩
theorem _root_.L2.PT.imp {X : Cx} {e : Expr} {t t' : TT} (h : PT X e t) (k : ∀ σ H Q, t' σ H Q → t σ H Q) : PT X e t' := ⟨fun pins s σ H Q I hw => h.run pins s σ H Q I (k _ _ _ hw)⟩
theorem _root_.L2.PW.imp {X : Cx} {e : Expr} {t t' : TT} (h : PW X e t) (k : ∀ σ H Q, t' σ H Q → t σ H Q) : PW X e t' := ⟨fun wh pins s σ H Q I hw => h.run wh pins s σ H Q I (k _ _ _ hw)⟩
theorem _root_.L2.PA.imp {X : Cx} {e : List Expr} {t t' : TA} (h : PA X e t) (k : ∀ σ H Q, t' σ H Q → t σ H Q) : PA X e t' := ⟨fun pos pins s σ H Q I hw => h.run pos pins s σ H Q I (k _ _ _ hw)⟩
theorem _root_.L2.PS.imp {X : Cx} {e : Stmt} {t t' : TS} (h : PS X e t) (k : ∀ E σ H, t' E σ H → t E σ H) : PS X e t' := ⟨fun pins s σ H E I hw => h.run pins s σ H E I (k _ _ _ hw)⟩
theorem _root_.L2.PSs.imp {X : Cx} {e : List Stmt} {t t' : TS} (h : PSs X e t) (k : ∀ E σ H, t' E σ H → t E σ H) : PSs X e t' := ⟨fun pins s σ H E I hw => h.run pins s σ H E I (k _ _ _ hw)⟩
end Z

set_option Elab.async false
set_option linter.all false
set_option maxRecDepth 100000
/-! Z2a: operators over values -/
namespace Z
open PySem PySem.Spec PyProof.Rows L2

/-- what is wanted of a value -/
def Fo (F : PySem.W.Frag) (W : Vw) (H : Hp) (K0 : D → MH → Prop) (Q : VK) : Prop :=
  ∀ d h' W' H' v, K0 d h' → Pres W H W' H' → RelH F W' h' H' → Rep F W' H' d v → Q v H'
def mkL (mu : Bool) (xs : List D) (h : MH) (K : D → MH → Prop) : Prop := match mu with
  | true => K (.ref h.length) (h ++ [.lst xs])
  | false => K (.lst xs) h
section
variable {F : PySem.W.Frag} {W : Vw} {H : Hp} {K0 : D → MH → Prop} {Q : VK} {h : MH}
theorem Fo.here (f : Fo F W H K0 Q) (R : RelH F W h H) {d : D} {v : V} (k : K0 d h) (r : Rep F W H d v) : Q v H := f d h W H v k (.refl W H) R r
theorem Fo.step (f : Fo F W H K0 Q) {W' : Vw} {H' : Hp} (p : Pres W H W' H') : Fo F W' H' K0 Q := fun d h' W2 H2 v k q R r => f d h' W2 H2 v k (p.trans q) R r
theorem Rep.tupNew {p : Addr} (n : ¬ W.A p) (hp : H p = none) {xs : List D} {vs : List V} (r : Reps F W H xs vs) : Rep F W (upd H p (.tup vs)) (.tup xs) (.ref p) := by
  rw [Rep]
  exact ⟨p, vs, rfl, .inl ⟨n, .inl upd_same⟩, r.pres (Pres.new n hp _)⟩
theorem Rep.lstNew {p : Addr} (n : ¬ W.A p) (hp : H p = none) {xs : List D} {vs : List V} (r : Reps F W H xs vs) : Rep F W (upd H p (.lst vs)) (.lst xs) (.ref p) := by
  rw [Rep]
  exact ⟨p, vs, rfl, ⟨n, upd_same⟩, r.pres (Pres.new n hp _)⟩
theorem Fo.tup (f : Fo F W H K0 Q) (R : RelH F W h H) {p : Addr} (hp : H p = none) {xs : List D} {vs : List V} (k : K0 (.tup xs) h) (r : Reps F W H xs vs) : Q (.ref p) (upd H p (.tup vs)) :=
  f _ h W _ _ k (Pres.new (R.free hp) hp _) (R.new hp _) (Rep.tupNew (R.free hp) hp r)
theorem Fo.lst (f : Fo F W H K0 Q) (R : RelH F W h H) {p : Addr} (hp : H p = none) {mu : Bool} {xs : List D} {vs : List V} (k : mkL mu xs h K0) (r : Reps F W H xs vs) : Q (.ref p) (upd H p (.lst vs)) := by
  cases mu with
  | false => exact f _ h W _ _ k (Pres.new (R.free hp) hp _) (R.new hp _) (Rep.lstNew (R.free hp) hp r)
  | true =>
    have P := Pres.more (R.free hp) hp (.lst vs)
    exact f _ _ _ _ _ k P (R.more hp ⟨vs, upd_same, r.pres P⟩) R.ref
end

/-- the items of a list -/
def lstOf (h : MH) : D → Option (List D)
  | .lst xs => some xs
  | .ref n => match h[n]? with
    | some (.lst xs) => some xs
    | _ => none
  | _ => none
theorem lstOf_ok {F : PySem.W.Frag} {W : Vw} {H : Hp} {h : MH} {d : D} {v : V} {xs : List D} (e : lstOf h d = some xs) (R : RelH F W h H) (r : Rep F W H d v) : ∃ a vs, v = .ref a ∧ H a = some (.lst vs) ∧ Reps F W H xs vs := by
  cases d with
  | lst ys =>
    cases e
    rw [Rep] at r
    obtain ⟨a, vs, e1, q, r⟩ := r
    exact ⟨a, vs, e1, q.2, r⟩
  | ref n =>
    rw [Rep] at r
    obtain ⟨a, e1, q⟩ := r
    unfold lstOf at e
    cases eo : h[n]? with
    | none => simp [eo] at e
    | some o =>
      cases o with
      | lst ys =>
        simp [eo] at e
        subst e
        obtain ⟨vs, q1, q2⟩ := R.at_ n _ a eo q
        exact ⟨a, vs, e1, q1, q2⟩
      | dic _ => simp [eo] at e
      | lck _ => simp [eo] at e
  | _ => simp [lstOf] at e
theorem Rep.tup_inv {F : PySem.W.Frag} {W : Vw} {H : Hp} {xs : List D} {v : V} (r : Rep F W H (.tup xs) v) : ∃ a vs, v = .ref a ∧ RdT F W H a vs ∧ Reps F W H xs vs := by
  rw [Rep] at r
  exact r
theorem Rep.int_inv {F : PySem.W.Frag} {W : Vw} {H : Hp} {i : Int} {v : V} (r : Rep F W H (.int i) v) : v = .int i := by
  rw [Rep] at r
  exact r
theorem Rep.str_inv {F : PySem.W.Frag} {W : Vw} {H : Hp} {i : Str} {v : V} (r : Rep F W H (.str i) v) : v = .str i := by
  rw [Rep] at r
  exact r
theorem Rep.bl_inv {F : PySem.W.Frag} {W : Vw} {H : Hp} {i : Bool} {v : V} (r : Rep F W H (.bl i) v) : v = .bl i := by
  rw [Rep] at r
  exact r
theorem Rep.non_inv {F : PySem.W.Frag} {W : Vw} {H : Hp} {v : V} (r : Rep F W H .non v) : v = .non := by
  rw [Rep] at r
  exact r

/-! ### data for == and < -/
mutual
def D.pd : D → PyData
  | .non => .none
  | .bl b => .bool b
  | .int i => .int i
  | .str x => .str x
  | .tup xs => .tuple (D.pds xs)
  | .lst xs => .list (D.pds xs)
  | .scr _ => .none
  | .ref _ => .none
def D.pds : List D → List PyData
  | [] => []
  | x :: xs => D.pd x :: D.pds xs
end
mutual
def D.pure : D → Bool
  | .tup xs => D.pures xs
  | .lst xs => D.pures xs
  | .scr _ => false
  | .ref _ => false
  | .non => true
  | .bl _ => true
  | .int _ => true
  | .str _ => true
def D.pures : List D → Bool
  | [] => true
  | x :: xs => D.pure x && D.pures xs
end
mutual
theorem Rep.dp {F : PySem.W.Frag} {W : Vw} {H : Hp} : ∀ {d : D} {v : V}, d.pure = true → Rep F W H d v → Dp F H v d.pd
  | .non, _, _, h => by
    cases h.non_inv
    rw [D.pd]
    constructor
  | .bl _, _, _, h => by
    cases h.bl_inv
    rw [D.pd]
    constructor
  | .int _, _, _, h => by
    cases h.int_inv
    rw [D.pd]
    constructor
  | .str _, _, _, h => by
    cases h.str_inv
    rw [D.pd]
    constructor
  | .tup xs, v, p, h => by
    obtain ⟨a, vs, rfl, r, q⟩ := h.tup_inv
    rw [D.pd]
    rw [D.pure] at p
    exact .tup r.sq (Reps.dp p q)
  | .lst xs, v, p, h => by
    rw [Rep] at h
    obtain ⟨a, vs, rfl, r, q⟩ := h
    rw [D.pd]
    rw [D.pure] at p
    exact .lst r.sq (Reps.dp p q)
  | .scr _, _, p, _ => by simp [D.pure] at p
  | .ref _, _, p, _ => by simp [D.pure] at p
theorem Reps.dp {F : PySem.W.Frag} {W : Vw} {H : Hp} : ∀ {xs : List D} {vs : List V}, D.pures xs = true → Reps F W H xs vs → DpAll F H vs (D.pds xs)
  | [], _, _, h => by
    cases h.nil_inv
    rw [D.pds]
    exact .nil
  | x :: xs, vs, p, h => by
    obtain ⟨y, ys, rfl, r, q⟩ := h.inv
    rw [D.pures, Bool.and_eq_true] at p
    rw [D.pds]
    exact .cons (Rep.dp p.1 r) (Reps.dp p.2 q)
end

/-! ### operators by values -/
abbrev W2 := MH → D → D → (D → MH → Prop) → Prop
def r2W (F : PySem.W.Frag) (o : W2) : R2 := fun x y H Q => ∃ (W : Vw) (h : MH) (dx dy : D) (K0 : D → MH → Prop), RelH F W h H ∧ Rep F W H dx x ∧ Rep F W H dy y ∧ o h dx dy K0 ∧ Fo F W H K0 Q
def cBin (o : W2) (a b : Ev) : Ev := fun ρ h Q => a ρ h fun x h1 => b ρ h1 fun y h2 => o h2 x y Q
theorem tE_bin {F : PySem.W.Frag} {o : W2} {a b : Ev} : ∀ σ H Q, tE F (cBin o a b) σ H Q → tOp (r2W F o) (tE F a) (tE F b) σ H Q := by
  intro σ H Q ⟨W, ρ, h, K0, E, R, w, f⟩
  refine ⟨W, ρ, h, _, E, R, w, fun dx h1 W1 H1 vx k1 p1 R1 rx => ?_⟩
  refine ⟨W1, ρ, h1, _, E.pres p1, R1, k1, fun dy h2 W2 H2 vy k2 p2 R2 ry => ?_⟩
  exact ⟨W2, h2, dx, dy, K0, R2, rx.pres p2, ry, k2, fun d h' W' H' v k p => f d h' W' H' v k ((p1.trans p2).trans p)⟩

/-- + (mu: the new list will be changed) -/
def wAdd (mu : Bool) : W2 := fun h x y K => match x, y with
  | .int i, .int j => K (.int (i + j)) h
  | .str a, .str b => a.length + b.length ≤ sizeLine ∧ K (.str (a ++ b)) h
  | .tup xs, .tup ys => xs.length + ys.length ≤ sizeLine ∧ K (.tup (xs ++ ys)) h
  | x, y => ∃ xs ys, lstOf h x = some xs ∧ lstOf h y = some ys ∧ xs.length + ys.length ≤ sizeLine ∧ mkL mu (xs ++ ys) h K
section
variable {X : Cx}
theorem op_wAddL {mu : Bool} {pins : List (Addr × PySem.Obj)} {s : Shared} {σ : L2.St} {H : Hp} {x y : V} {v u : Value} {Q : VK} (I : Inv X pins σ H s) (rx : RelV x v) (ry : RelV y u)
    {W : Vw} {h : MH} {dx dy : D} {K0 : D → MH → Prop} (R : RelH X.K W h H) (r1 : Rep X.K W H dx x) (r2 : Rep X.K W H dy y)
    (hw : ∃ xs ys, lstOf h dx = some xs ∧ lstOf h dy = some ys ∧ xs.length + ys.length ≤ sizeLine ∧ mkL mu (xs ++ ys) h K0) (f : Fo X.K W H K0 Q) :
    wpAny (model X.prog X.w) X.A (binaryOp .Add v u) (EP X pins σ Q) X.xe s := by
  obtain ⟨xs, ys, e1, e2, hz, k⟩ := hw
  obtain ⟨a, vs, rfl, ha, q1⟩ := lstOf_ok e1 R r1
  obtain ⟨b, ws, rfl, hb, q2⟩ := lstOf_ok e2 R r2
  exact op_cat pins s σ H _ _ v u Q I rx ry ⟨a, b, vs, ws, rfl, rfl, ha, hb, by rw [q1.length, q2.length]; exact hz, fun p hp => f.lst R hp k (q1.append q2)⟩
theorem op_wAdd (mu : Bool) : OpR X (binaryOp .Add) (r2W X.K (wAdd mu)) := by
  intro pins s σ H x y v u Q I rx ry hh
  obtain ⟨W, h, dx, dy, K0, R, r1, r2, w, f⟩ := hh
  cases dx with
  | int i =>
    cases dy with
    | int j =>
      cases r1.int_inv
      cases r2.int_inv
      exact op_add pins s σ H _ _ v u Q I rx ry ⟨i, j, rfl, rfl, f.here R w (.int _)⟩
    | _ => exact op_wAddL I rx ry R r1 r2 w f
  | str i =>
    cases dy with
    | str j =>
      cases r1.str_inv
      cases r2.str_inv
      exact op_add_str pins s σ H _ _ v u Q I rx ry ⟨i, j, rfl, rfl, w.1, f.here R w.2 (.str _)⟩
    | _ => exact op_wAddL I rx ry R r1 r2 w f
  | tup xs =>
    cases dy with
    | tup ys =>
      obtain ⟨a, vs, rfl, ha, q1⟩ := r1.tup_inv
      obtain ⟨b, ws, rfl, hb, q2⟩ := r2.tup_inv
      obtain ⟨hz, w⟩ := w
      refine op_catA pins s σ H _ _ v u Q I rx ry ⟨a, b, vs, ws, rfl, rfl, ha.sq, hb.sq, by rw [q1.length, q2.length]; exact hz, fun e => ?_, fun _ e => ?_, fun _ _ p hp => f.tup R hp w (q1.append q2)⟩
      · subst e
        have : xs = [] := List.eq_nil_of_length_eq_zero q1.length.symm
        subst this
        exact f.here R w r2
      · subst e
        have : ys = [] := List.eq_nil_of_length_eq_zero q2.length.symm
        subst this
        rw [List.append_nil] at w
        exact f.here R w r1
    | _ => exact op_wAddL I rx ry R r1 r2 w f
  | _ => exact op_wAddL I rx ry R r1 r2 w f
def wInt (C : Int → Int → Prop) (g : Int → Int → D) : W2 := fun h x y K => match x, y with
  | .int i, .int j => C i j ∧ K (g i j) h
  | _, _ => False
theorem op_wInt {f : Value → Value → Sem Value} {C : Int → Int → Prop} {g : Int → Int → D} {gv : Int → Int → V} (ho : OpR X f (rI C gv)) (hg : ∀ F W H i j, Rep F W H (g i j) (gv i j)) : OpR X f (r2W X.K (wInt C g)) := by
  intro pins s σ H x y v u Q I rx ry hh
  obtain ⟨W, h, dx, dy, K0, R, r1, r2, w, fo⟩ := hh
  cases dx with
  | int i =>
    cases dy with
    | int j =>
      cases r1.int_inv
      cases r2.int_inv
      exact ho pins s σ H _ _ v u Q I rx ry ⟨i, j, rfl, rfl, w.1, fo.here R w.2 (hg _ _ _ _ _)⟩
    | _ => exact w.elim
  | _ => exact w.elim
theorem rI_of {f : Value → Value → Sem Value} {gv : Int → Int → V} (ho : OpR X f (rI0 gv)) : OpR X f (rI (fun _ _ => True) gv) := by
  intro pins s σ H x y v u Q I rx ry hh
  obtain ⟨i, j, e1, e2, _, q⟩ := hh
  exact ho pins s σ H x y v u Q I rx ry ⟨i, j, e1, e2, q⟩
def wSub : W2 := wInt (fun _ _ => True) fun i j => .int (i - j)
theorem op_wSub : OpR X (binaryOp .Sub) (r2W X.K wSub) := op_wInt (rI_of op_sub) fun _ _ _ _ _ => .int _
end
end Z

set_option Elab.async false
set_option linter.all false
set_option maxRecDepth 100000
/-! Z2b: comparisons, membership, subscripts, slices over values -/
namespace Z
open PySem PySem.Spec PyProof.Rows L2

/-! data of bounded depth, without numbers of changed objects, of lawful texts -/
mutual
def D.ok : Nat → D → Bool
  | _, .non => true
  | _, .bl _ => true
  | _, .int _ => true
  | _, .str x => PyData.strOk x
  | n, .tup xs => match n with
    | 0 => false
    | n + 1 => D.oks n xs
  | n, .lst xs => match n with
    | 0 => false
    | n + 1 => D.oks n xs
  | _, .scr _ => false
  | _, .ref _ => false
def D.oks : Nat → List D → Bool
  | _, [] => true
  | n, x :: xs => D.ok n x && D.oks n xs
end
mutual
theorem D.ok_spec : ∀ (n : Nat) (d : D), d.ok n = true → d.pure = true ∧ d.pd.canLay0 = true ∧ d.pd.depth ≤ n
  | n, .non, _ => ⟨by simp [D.pure], by simp [D.pd, PyData.canLay0], by simp [D.pd, PyData.depth]⟩
  | n, .bl _, _ => ⟨by simp [D.pure], by simp [D.pd, PyData.canLay0], by simp [D.pd, PyData.depth]⟩
  | n, .int _, _ => ⟨by simp [D.pure], by simp [D.pd, PyData.canLay0], by simp [D.pd, PyData.depth]⟩
  | n, .str x, h => ⟨by simp [D.pure], by simpa [D.pd, PyData.canLay0, D.ok] using h, by simp [D.pd, PyData.depth]⟩
  | 0, .tup xs, h => by simp [D.ok] at h
  | n + 1, .tup xs, h => by
    have := D.oks_spec n xs (by simpa [D.ok] using h)
    refine ⟨by simpa [D.pure] using this.1, by simpa [D.pd, PyData.canLay0] using this.2.1, ?_⟩
    simp only [D.pd, PyData.depth]
    omega
  | 0, .lst xs, h => by simp [D.ok] at h
  | n + 1, .lst xs, h => by
    have := D.oks_spec n xs (by simpa [D.ok] using h)
    refine ⟨by simpa [D.pure] using this.1, by simpa [D.pd, PyData.canLay0] using this.2.1, ?_⟩
    simp only [D.pd, PyData.depth]
    omega
  | _, .scr _, h => by simp [D.ok] at h
  | _, .ref _, h => by simp [D.ok] at h
theorem D.oks_spec : ∀ (n : Nat) (xs : List D), D.oks n xs = true → D.pures xs = true ∧ PyData.canLayAll0 (D.pds xs) = true ∧ PyData.depthAll (D.pds xs) ≤ n
  | n, [], _ => ⟨by simp [D.pures], by simp [D.pds, PyData.canLayAll0], by simp [D.pds, PyData.depthAll]⟩
  | n, x :: xs, h => by
    simp only [D.oks, Bool.and_eq_true] at h
    have h1 := D.ok_spec n x h.1
    have h2 := D.oks_spec n xs h.2
    refine ⟨by simp [D.pures, h1.1, h2.1], by simp [D.pds, PyData.canLayAll0, h1.2.1, h2.2.1], ?_⟩
    simp only [D.pds, PyData.depthAll]
    omega
end
theorem D.shaped {d : D} (h : d.ok 60 = true) : SeqAt.shaped d.pd = true := by
  have := D.ok_spec 60 d h
  unfold SeqAt.shaped
  rw [this.2.1, decide_eq_true (by omega)]
  rfl
theorem D.pds_map (xs : List D) : D.pds xs = xs.map D.pd := by
  induction xs with
  | nil => simp [D.pds]
  | cons x xs ih => simp [D.pds, ih]
/-- == -/
def D.eqv (x y : D) : Bool := PyData.eqv x.pd y.pd

def optAll {α : Type} : List (Option α) → Option (List α)
  | [] => some []
  | none :: _ => none
  | some x :: r => (optAll r).map (x :: ·)
/-- the data that a value stands for now -/
def dref (h : MH) : Nat → D → Option D
  | _, .non => some .non
  | _, .bl b => some (.bl b)
  | _, .int i => some (.int i)
  | _, .str x => some (.str x)
  | n + 1, .tup xs => (optAll (xs.map (dref h n))).map .tup
  | n + 1, .lst xs => (optAll (xs.map (dref h n))).map .lst
  | n + 1, .ref i => match h[i]? with
    | some (.lst xs) => (optAll (xs.map (dref h n))).map .lst
    | _ => none
  | _, _ => none
theorem dref_all {F : PySem.W.Frag} {W : Vw} {H : Hp} {h : MH} {n : Nat} (ih : ∀ {d d' : D} {v : V}, dref h n d = some d' → Rep F W H d v → d'.pure = true → Dp F H v d'.pd) :
    ∀ {xs ys : List D} {vs : List V}, optAll (xs.map (dref h n)) = some ys → Reps F W H xs vs → D.pures ys = true → DpAll F H vs (D.pds ys)
  | [], _, _, e, r, p => by
    cases e
    cases r.nil_inv
    rw [D.pds]
    exact .nil
  | x :: xs, ys, vs, e, r, p => by
    obtain ⟨y, zs, rfl, r1, r2⟩ := r.inv
    rw [List.map_cons] at e
    cases e1 : dref h n x with
    | none => rw [e1] at e; cases e
    | some x' =>
      rw [e1] at e
      simp only [optAll] at e
      cases e2 : optAll (xs.map (dref h n)) with
      | none => rw [e2] at e; cases e
      | some ys' =>
        rw [e2] at e
        cases e
        rw [D.pures, Bool.and_eq_true] at p
        rw [D.pds]
        exact .cons (ih e1 r1 p.1) (dref_all ih e2 r2 p.2)
theorem dref_dp {F : PySem.W.Frag} {W : Vw} {H : Hp} {h : MH} (R : RelH F W h H) : ∀ {n : Nat} {d d' : D} {v : V}, dref h n d = some d' → Rep F W H d v → d'.pure = true → Dp F H v d'.pd := by
  intro n
  induction n with
  | zero =>
    intro d d' v e r p
    cases d <;> first
      | (cases e; exact r.dp p)
      | cases e
  | succ n ih =>
    intro d d' v e r p
    cases d with
    | tup xs =>
      simp only [dref] at e
      cases e2 : optAll (xs.map (dref h n)) with
      | none => rw [e2] at e; cases e
      | some ys =>
        rw [e2] at e
        cases e
        obtain ⟨a, vs, rfl, q, rs⟩ := r.tup_inv
        rw [D.pd]
        rw [D.pure] at p
        exact .tup q.sq (dref_all ih e2 rs p)
    | lst xs =>
      simp only [dref] at e
      cases e2 : optAll (xs.map (dref h n)) with
      | none => rw [e2] at e; cases e
      | some ys =>
        rw [e2] at e
        cases e
        rw [Rep] at r
        obtain ⟨a, vs, rfl, q, rs⟩ := r
        rw [D.pd]
        rw [D.pure] at p
        exact .lst q.sq (dref_all ih e2 rs p)
    | ref i =>
      rw [Rep] at r
      obtain ⟨a, rfl, q⟩ := r
      simp only [dref] at e
      cases eo : h[i]? with
      | none => rw [eo] at e; cases e
      | some ob =>
        rw [eo] at e
        cases ob with
        | lst xs =>
          simp only [] at e
          cases e2 : optAll (xs.map (dref h n)) with
          | none => rw [e2] at e; cases e
          | some ys =>
            rw [e2] at e
            cases e
            obtain ⟨vs, q1, q2⟩ := R.at_ i _ a eo q
            rw [D.pd]
            rw [D.pure] at p
            exact .lst (.inl (.inl q1)) (dref_all ih e2 q2 p)
        | dic _ => cases e
        | lck _ => cases e
    | scr _ => cases e
    | non => cases e; exact r.dp p
    | bl _ => cases e; exact r.dp p
    | int _ => cases e; exact r.dp p
    | str _ => cases e; exact r.dp p
def wEqD (neg : Bool) : W2 := fun h x y K => (x.ok 60 = true ∧ y.ok 60 = true ∧ K (.bl (xor neg (x.eqv y))) h) ∨ ∃ x' y', dref h 9 x = some x' ∧ dref h 9 y = some y' ∧ x'.ok 60 = true ∧ y'.ok 60 = true ∧ K (.bl (xor neg (x'.eqv y'))) h
def wEq (neg : Bool) : W2 := fun h x y K => match x, y with
  | .str a, .str b => K (.bl (xor neg (decide (a = b)))) h
  | .int a, .int b => K (.bl (xor neg (decide (a = b)))) h
  | x, y => wEqD neg h x y K
section
variable {X : Cx}
theorem op_wEqD (hu : X.A.units + 64 < cLine) {pins : List (Addr × PySem.Obj)} {s : Shared} {σ : L2.St} {H : Hp} {x y : V} {v u : Value} {Q : VK} (I : Inv X pins σ H s) (rx : RelV x v) (ry : RelV y u)
    {W : Vw} {h : MH} {dx dy : D} {K0 : D → MH → Prop} (R : RelH X.K W h H) (r1 : Rep X.K W H dx x) (r2 : Rep X.K W H dy y)
    (w : wEqD false h dx dy K0) (f : Fo X.K W H K0 Q) : wpAny (model X.prog X.w) X.A (compareOp .Eq v u) (EP X pins σ Q) X.xe s := by
  rcases w with ⟨o1, o2, k⟩ | ⟨x', y', e1, e2, o1, o2, k⟩
  · refine op_eqD hu pins s σ H x y v u Q I rx ry ⟨dx.pd, dy.pd, r1.dp (D.ok_spec _ _ o1).1, r2.dp (D.ok_spec _ _ o2).1, D.shaped o1, D.shaped o2, f.here R k ?_⟩
    rw [Bool.false_xor]
    exact .bl _
  · refine op_eqD hu pins s σ H x y v u Q I rx ry ⟨x'.pd, y'.pd, dref_dp R e1 r1 (D.ok_spec _ _ o1).1, dref_dp R e2 r2 (D.ok_spec _ _ o2).1, D.shaped o1, D.shaped o2, f.here R k ?_⟩
    rw [Bool.false_xor]
    exact .bl _
theorem op_wNeD (hu : X.A.units + 64 < cLine) {pins : List (Addr × PySem.Obj)} {s : Shared} {σ : L2.St} {H : Hp} {x y : V} {v u : Value} {Q : VK} (I : Inv X pins σ H s) (rx : RelV x v) (ry : RelV y u)
    {W : Vw} {h : MH} {dx dy : D} {K0 : D → MH → Prop} (R : RelH X.K W h H) (r1 : Rep X.K W H dx x) (r2 : Rep X.K W H dy y)
    (w : wEqD true h dx dy K0) (f : Fo X.K W H K0 Q) : wpAny (model X.prog X.w) X.A (compareOp .NotEq v u) (EP X pins σ Q) X.xe s := by
  rcases w with ⟨o1, o2, k⟩ | ⟨x', y', e1, e2, o1, o2, k⟩
  · refine op_neD hu pins s σ H x y v u Q I rx ry ⟨dx.pd, dy.pd, r1.dp (D.ok_spec _ _ o1).1, r2.dp (D.ok_spec _ _ o2).1, D.shaped o1, D.shaped o2, f.here R k ?_⟩
    rw [Bool.true_xor]
    exact .bl _
  · refine op_neD hu pins s σ H x y v u Q I rx ry ⟨x'.pd, y'.pd, dref_dp R e1 r1 (D.ok_spec _ _ o1).1, dref_dp R e2 r2 (D.ok_spec _ _ o2).1, D.shaped o1, D.shaped o2, f.here R k ?_⟩
    rw [Bool.true_xor]
    exact .bl _
theorem op_wEq (hu : X.A.units + 64 < cLine) : OpR X (compareOp .Eq) (r2W X.K (wEq false)) := by
  intro pins s σ H x y v u Q I rx ry hh
  obtain ⟨W, h, dx, dy, K0, R, r1, r2, w, f⟩ := hh
  cases dx with
  | int i =>
    cases dy with
    | int j =>
      cases r1.int_inv
      cases r2.int_inv
      refine op_eq pins s σ H _ _ v u Q I rx ry ⟨rfl, f.here R w ?_⟩
      rw [Bool.false_xor, Rep]
      simp
    | _ => exact op_wEqD hu I rx ry R r1 r2 w f
  | str i =>
    cases dy with
    | str j =>
      cases r1.str_inv
      cases r2.str_inv
      refine op_eq pins s σ H _ _ v u Q I rx ry ⟨rfl, f.here R w ?_⟩
      rw [Bool.false_xor, Rep]
      simp
    | _ => exact op_wEqD hu I rx ry R r1 r2 w f
  | _ => exact op_wEqD hu I rx ry R r1 r2 w f
theorem op_wNe (hu : X.A.units + 64 < cLine) : OpR X (compareOp .NotEq) (r2W X.K (wEq true)) := by
  intro pins s σ H x y v u Q I rx ry hh
  obtain ⟨W, h, dx, dy, K0, R, r1, r2, w, f⟩ := hh
  cases dx with
  | int i =>
    cases dy with
    | int j =>
      cases r1.int_inv
      cases r2.int_inv
      refine op_ne pins s σ H _ _ v u Q I rx ry ⟨rfl, f.here R w ?_⟩
      rw [Bool.true_xor, Rep]
      simp
    | _ => exact op_wNeD hu I rx ry R r1 r2 w f
  | str i =>
    cases dy with
    | str j =>
      cases r1.str_inv
      cases r2.str_inv
      refine op_ne pins s σ H _ _ v u Q I rx ry ⟨rfl, f.here R w ?_⟩
      rw [Bool.true_xor, Rep]
      simp
    | _ => exact op_wNeD hu I rx ry R r1 r2 w f
  | _ => exact op_wNeD hu I rx ry R r1 r2 w f

/-! order -/
def strLt (a b : Str) : Bool := decide (a.cps.toList < b.cps.toList)
def strLe (a b : Str) : Bool := !strLt b a
/-- < of alike data -/
def D.lt (x y : D) : Bool := PySem.W.dataLt x.pd y.pd
def D.alike (x y : D) : Bool := PySem.W.alike x.pd y.pd
def wLt : W2 := fun h x y K => match x, y with
  | .int a, .int b => K (.bl (decide (a < b))) h
  | .str a, .str b => K (.bl (strLt a b)) h
  | x, y => x.ok 60 = true ∧ y.ok 60 = true ∧ x.alike y = true ∧ x.pd ≠ .none ∧ K (.bl (x.lt y)) h
theorem op_wLt (hu : X.A.units + 64 < cLine) : OpR X (compareOp .Lt) (r2W X.K wLt) := by
  intro pins s σ H x y v u Q I rx ry hh
  obtain ⟨W, h, dx, dy, K0, R, r1, r2, w, f⟩ := hh
  have deep : (dx.ok 60 = true ∧ dy.ok 60 = true ∧ dx.alike dy = true ∧ dx.pd ≠ .none ∧ K0 (.bl (dx.lt dy)) h) → wpAny (model X.prog X.w) X.A (compareOp .Lt v u) (EP X pins σ Q) X.xe s := fun w => by
    obtain ⟨o1, o2, al, nn, k⟩ := w
    obtain ⟨as, q1⟩ := Dp.reads I dx.pd x v (r1.dp (D.ok_spec _ _ o1).1) rx
    obtain ⟨bs, q2⟩ := Dp.reads I dy.pd y u (r2.dp (D.ok_spec _ _ o2).1) ry
    have hd := (D.ok_spec _ _ o1).2.2
    exact PySem.W.rcLt_alike dx.pd dy.pd X.A s v u as bs q1 q2 al nn (by omega) X.prog X.w _ _ ⟨.bl (dx.lt dy), H, I, rfl, f.here R k (.bl _)⟩
  cases dx with
  | int i =>
    cases dy with
    | int j =>
      cases r1.int_inv
      cases r2.int_inv
      exact op_lt pins s σ H _ _ v u Q I rx ry ⟨i, j, rfl, rfl, f.here R w (.bl _)⟩
    | _ => exact deep w
  | str i =>
    cases dy with
    | str j =>
      cases r1.str_inv
      cases r2.str_inv
      exact op_lt_str pins s σ H _ _ v u Q I rx ry ⟨i, j, rfl, rfl, f.here R w (.bl _)⟩
    | _ => exact deep w
  | _ => exact deep w
/-- <=, >, >= of ints, texts -/
def wOrd (fi : Int → Int → Bool) (fs : Str → Str → Bool) : W2 := fun h x y K => match x, y with
  | .int a, .int b => K (.bl (fi a b)) h
  | .str a, .str b => K (.bl (fs a b)) h
  | _, _ => False
theorem op_wOrd {op : CmpOp} {fi : Int → Int → Bool} {fs : Str → Str → Bool} (h1 : OpR X (compareOp op) (rI0 fun i j => .bl (fi i j)))
    (h2 : OpR X (compareOp op) (fun x y H Q => ∃ i j, x = .str i ∧ y = .str j ∧ Q (.bl (fs i j)) H)) : OpR X (compareOp op) (r2W X.K (wOrd fi fs)) := by
  intro pins s σ H x y v u Q I rx ry hh
  obtain ⟨W, h, dx, dy, K0, R, r1, r2, w, f⟩ := hh
  cases dx with
  | int i =>
    cases dy with
    | int j =>
      cases r1.int_inv
      cases r2.int_inv
      exact h1 pins s σ H _ _ v u Q I rx ry ⟨i, j, rfl, rfl, f.here R w (.bl _)⟩
    | _ => exact w.elim
  | str i =>
    cases dy with
    | str j =>
      cases r1.str_inv
      cases r2.str_inv
      exact h2 pins s σ H _ _ v u Q I rx ry ⟨i, j, rfl, rfl, f.here R w (.bl _)⟩
    | _ => exact w.elim
  | _ => exact w.elim
def wLe : W2 := wOrd (fun i j => decide (i ≤ j)) strLe
def wGt : W2 := wOrd (fun i j => decide (j < i)) (fun a b => strLt b a)
def wGe : W2 := wOrd (fun i j => decide (j ≤ i)) (fun a b => strLe b a)
theorem op_wLe : OpR X (compareOp .LtE) (r2W X.K wLe) := op_wOrd op_le op_le_str
theorem op_wGt : OpR X (compareOp .Gt) (r2W X.K wGt) := op_wOrd op_gt op_gt_str
theorem op_wGe : OpR X (compareOp .GtE) (r2W X.K wGe) := op_wOrd op_ge op_ge_str

/-! membership -/
def toKey : D → Option Key
  | .int i => some (.inl i)
  | .str x => some (.inr x)
  | _ => none
theorem toKey_rep {F : PySem.W.Frag} {W : Vw} {H : Hp} {d : D} {k : Key} {v : V} (e : toKey d = some k) (r : Rep F W H d v) : v = kV k := by
  cases d with
  | int i =>
    cases e
    cases r.int_inv
    rfl
  | str i =>
    cases e
    cases r.str_inv
    rfl
  | _ => simp [toKey] at e
/-- what a dict holds -/
def dicOf (h : MH) : D → Option (List (Key × D))
  | .ref n => match h[n]? with
    | some (.dic kvs) => some kvs
    | some (.lck kvs) => some kvs
    | _ => none
  | _ => none
def getKV (kvs : List (Key × D)) (k : Key) : Option D := (kvs.find? fun kv => decide (kv.1 = k)).map (·.2)
def putKV (kvs : List (Key × D)) (k : Key) (d : D) : List (Key × D) :=
  if kvs.any fun kv => decide (kv.1 = k) then kvs.map fun kv => if kv.1 = k then (kv.1, d) else kv else kvs ++ [(k, d)]
def dropKV (kvs : List (Key × D)) (k : Key) : List (Key × D) := kvs.filter fun kv => decide (kv.1 ≠ k)
theorem dicOf_ok {F : PySem.W.Frag} {W : Vw} {H : Hp} {h : MH} {d : D} {v : V} {kvs : List (Key × D)} (e : dicOf h d = some kvs) (R : RelH F W h H) (r : Rep F W H d v) :
    ∃ a ks, v = .ref a ∧ Rd H a (.dK ks) ∧ RepKV F W H kvs ks := by
  cases d with
  | ref n =>
    rw [Rep] at r
    obtain ⟨a, e1, q⟩ := r
    unfold dicOf at e
    cases eo : h[n]? with
    | none => simp [eo] at e
    | some o =>
      cases o with
      | lst ys => simp [eo] at e
      | dic ys =>
        simp [eo] at e
        subst e
        obtain ⟨ks, q1, q2⟩ := R.at_ n _ a eo q
        exact ⟨a, ks, e1, .inl q1, q2⟩
      | lck ys =>
        simp [eo] at e
        subst e
        obtain ⟨ks, od, q1, q2⟩ := R.at_ n _ a eo q
        exact ⟨a, ks, e1, .inr ⟨od, q1⟩, q2⟩
  | _ => simp [dicOf] at e
theorem RepKV.get {F : PySem.W.Frag} {W : Vw} {H : Hp} (k : Key) : ∀ {kvs : List (Key × D)} {ks : List (Key × V)}, RepKV F W H kvs ks →
    (∀ d, getKV kvs k = some d → ∃ v, valV ks k = some v ∧ Rep F W H d v) ∧ (getKV kvs k = none → valV ks k = none)
  | [], ks, h => by
    have : ks = [] := by simpa using h.1
    subst this
    exact ⟨fun d e => by simp [getKV] at e, fun _ => rfl⟩
  | (k', d') :: kvs, [], h => by simp [RepKV] at h
  | (k', d') :: kvs, (j, v) :: ks, h => by
    obtain ⟨h1, h2⟩ := h
    simp only [List.map_cons, List.cons.injEq] at h1
    obtain ⟨rfl, h1⟩ := h1
    obtain ⟨y, ys, e, r, q⟩ := h2.inv
    simp only [List.map_cons, List.cons.injEq] at e
    obtain ⟨rfl, rfl⟩ := e
    have ih := RepKV.get k (kvs := kvs) (ks := ks) ⟨h1, q⟩
    by_cases hk : j = k
    · subst hk
      rw [valV_pos rfl]
      have e1 : getKV ((j, d') :: kvs) j = some d' := by simp [getKV, List.find?_cons]
      rw [e1]
      exact ⟨fun d e => by cases e; exact ⟨_, rfl, r⟩, fun e => by cases e⟩
    · rw [valV_neg hk]
      have e1 : getKV ((j, d') :: kvs) k = getKV kvs k := by simp [getKV, List.find?_cons, hk]
      rw [e1]
      exact ih
theorem RepKV.isSome {F : PySem.W.Frag} {W : Vw} {H : Hp} (k : Key) {kvs : List (Key × D)} {ks : List (Key × V)} (h : RepKV F W H kvs ks) : (valV ks k).isSome = (getKV kvs k).isSome := by
  have q := h.get k
  cases e : getKV kvs k with
  | none => rw [q.2 e]; rfl
  | some d =>
    obtain ⟨v, e2, _⟩ := q.1 d e
    rw [e2]
    rfl
theorem RepKV.length {F : PySem.W.Frag} {W : Vw} {H : Hp} {kvs : List (Key × D)} {ks : List (Key × V)} (h : RepKV F W H kvs ks) : ks.length = kvs.length := by
  have := congrArg List.length h.1
  simpa using this
theorem RepKV.put {F : PySem.W.Frag} {W : Vw} {H : Hp} {kvs : List (Key × D)} {ks : List (Key × V)} (h : RepKV F W H kvs ks) (k : Key) {d : D} {v : V} (r : Rep F W H d v) : RepKV F W H (putKV kvs k d) (putK ks k v) := by
  have ea : (ks.any fun kv => decide (kv.1 = k)) = (kvs.any fun kv => decide (kv.1 = k)) := by
    have e1 : (ks.any fun kv => decide (kv.1 = k)) = (ks.map (·.1)).any fun j => decide (j = k) := by rw [List.any_map]; rfl
    have e2 : (kvs.any fun kv => decide (kv.1 = k)) = (kvs.map (·.1)).any fun j => decide (j = k) := by rw [List.any_map]; rfl
    rw [e1, e2, h.1]
  unfold putKV putK
  rw [ea]
  split
  · refine ⟨?_, ?_⟩
    · have e1 : (ks.map fun kv => if kv.1 = k then (kv.1, v) else kv).map (·.1) = ks.map (·.1) := by
        rw [List.map_map]
        apply List.map_congr_left
        intro kv _
        simp only [Function.comp]
        split <;> rfl
      have e2 : (kvs.map fun kv => if kv.1 = k then (kv.1, d) else kv).map (·.1) = kvs.map (·.1) := by
        rw [List.map_map]
        apply List.map_congr_left
        intro kv _
        simp only [Function.comp]
        split <;> rfl
      rw [e1, e2, h.1]
    · clear ea
      rename_i hc
      clear hc
      revert ks
      induction kvs with
      | nil =>
        intro ks h
        have : ks = [] := by simpa using h.1
        subst this
        exact .nil
      | cons kd kvs ih =>
        intro ks h
        cases ks with
        | nil => simp [RepKV] at h
        | cons jv ks =>
          obtain ⟨h1, h2⟩ := h
          simp only [List.map_cons, List.cons.injEq] at h1
          obtain ⟨h0, h1⟩ := h1
          obtain ⟨y, ys, e, r0, q⟩ := h2.inv
          simp only [List.map_cons, List.cons.injEq] at e
          obtain ⟨e0, e1⟩ := e
          subst e0 e1
          have := ih ⟨h1, q⟩
          simp only [List.map_cons]
          refine .cons ?_ this
          rw [h0]
          by_cases hk : kd.1 = k
          · rw [if_pos hk, if_pos hk]
            exact r
          · rw [if_neg hk, if_neg hk]
            exact r0
  · refine ⟨by rw [List.map_append, List.map_append, h.1]; rfl, ?_⟩
    rw [List.map_append, List.map_append]
    exact h.2.append (.cons r .nil)
theorem RepKV.drop {F : PySem.W.Frag} {W : Vw} {H : Hp} (k : Key) : ∀ {kvs : List (Key × D)} {ks : List (Key × V)}, RepKV F W H kvs ks → RepKV F W H (dropKV kvs k) (dropK ks k)
  | [], ks, h => by
    have : ks = [] := by simpa using h.1
    subst this
    exact ⟨rfl, .nil⟩
  | (k', d') :: kvs, [], h => by simp [RepKV] at h
  | (k', d') :: kvs, (j, v) :: ks, h => by
    obtain ⟨h1, h2⟩ := h
    simp only [List.map_cons, List.cons.injEq] at h1
    obtain ⟨rfl, h1⟩ := h1
    obtain ⟨y, ys, e, r, q⟩ := h2.inv
    simp only [List.map_cons, List.cons.injEq] at e
    obtain ⟨rfl, rfl⟩ := e
    have ih := RepKV.drop k (kvs := kvs) (ks := ks) ⟨h1, q⟩
    unfold dropKV dropK at ih ⊢
    by_cases hk : j = k
    · rw [List.filter_cons_of_neg (by simp [hk]), List.filter_cons_of_neg (by simp [hk])]
      exact ih
    · rw [List.filter_cons_of_pos (by simp [hk]), List.filter_cons_of_pos (by simp [hk])]
      exact ⟨by simp only [List.map_cons, ih.1], by simp only [List.map_cons]; exact .cons r ih.2⟩
/-- the items of a list or tuple -/
def seqOf (h : MH) : D → Option (List D)
  | .tup xs => some xs
  | d => lstOf h d
theorem seqOf_ok {F : PySem.W.Frag} {W : Vw} {H : Hp} {h : MH} {d : D} {v : V} {xs : List D} (e : seqOf h d = some xs) (R : RelH F W h H) (r : Rep F W H d v) :
    ∃ a vs, v = .ref a ∧ (SqL F H a vs ∨ SqT F H a vs) ∧ Reps F W H xs vs := by
  cases d with
  | tup ys =>
    cases e
    obtain ⟨a, vs, e1, q, r⟩ := r.tup_inv
    exact ⟨a, vs, e1, .inr q.sq, r⟩
  | lst ys =>
    obtain ⟨a, vs, e1, q, r⟩ := lstOf_ok (d := .lst ys) e R r
    exact ⟨a, vs, e1, .inl (.inl (.inl q)), r⟩
  | ref n =>
    obtain ⟨a, vs, e1, q, r⟩ := lstOf_ok (d := .ref n) e R r
    exact ⟨a, vs, e1, .inl (.inl (.inl q)), r⟩
  | _ => simp [seqOf, lstOf] at e
/-- x in y: a dict's key, a sign of a text, an item of a list or tuple -/
def wIn (neg : Bool) : W2 := fun h x y K => match y with
  | .str z => ∃ c, x = .str ⟨#[c]⟩ ∧ K (.bl (xor neg (decide (c ∈ z.cps.toList)))) h
  | y => (∃ kvs k, dicOf h y = some kvs ∧ toKey x = some k ∧ K (.bl (xor neg (getKV kvs k).isSome)) h) ∨
    (∃ xs, seqOf h y = some xs ∧ x.ok 50 = true ∧ D.oks 50 xs = true ∧ K (.bl (xor neg (xs.any fun z => z.eqv x))) h)
theorem op_wIn (hu : X.A.units + 64 < cLine) : OpR X (compareOp .In) (r2W X.K (wIn false)) := by
  intro pins s σ H x y v u Q I rx ry hh
  obtain ⟨W, h, dx, dy, K0, R, r1, r2, w, f⟩ := hh
  have rest : ((∃ kvs k, dicOf h dy = some kvs ∧ toKey dx = some k ∧ K0 (.bl (xor false (getKV kvs k).isSome)) h) ∨
    (∃ xs, seqOf h dy = some xs ∧ dx.ok 50 = true ∧ D.oks 50 xs = true ∧ K0 (.bl (xor false (xs.any fun z => z.eqv dx))) h)) → wpAny (model X.prog X.w) X.A (compareOp .In v u) (EP X pins σ Q) X.xe s := fun w => by
    rcases w with ⟨kvs, k, e1, e2, w⟩ | ⟨xs, e1, o1, o2, w⟩
    · obtain ⟨a, ks, rfl, rd, q⟩ := dicOf_ok e1 R r2
      cases ry
      cases toKey_rep e2 r1
      refine d_in (hu := by omega) I (o := valV ks k) (.inl ⟨ks, k, rd, rfl, rfl⟩) rx fun s' I' => ⟨.bl _, H, I', rfl, f.here R w ?_⟩
      rw [Bool.false_xor, q.isSome k]
      exact .bl _
    · obtain ⟨a, vs, rfl, rd, q⟩ := seqOf_ok e1 R r2
      obtain ⟨as, q1⟩ := Dp.reads I dx.pd x v (r1.dp (D.ok_spec _ _ o1).1) rx
      have hd1 := (D.ok_spec _ _ o1)
      have hd2 := (D.oks_spec _ _ o2)
      have fin : wpAny (model X.prog X.w) X.A (compareOp .In v u) (EP X pins σ Q) X.xe s := by
        have hq : EP X pins σ Q (.bool ((D.pds xs).any fun y => PyData.eqv y dx.pd)) s := by
          refine ⟨.bl _, H, I, rfl, f.here R w ?_⟩
          rw [Bool.false_xor, D.pds_map, List.any_map]
          exact .bl _
        rcases rd with rd | rd
        · obtain ⟨bs, q2⟩ := Dp.reads I (.list (D.pds xs)) (.ref a) u (.lst rd (q.dp hd2.1)) ry
          exact SeqAt.in_list_reads q2 q1 hd2.2.1 hd1.2.1 (by have := hd1.2.2; omega) hq
        · obtain ⟨bs, q2⟩ := Dp.reads I (.tuple (D.pds xs)) (.ref a) u (.tup rd (q.dp hd2.1)) ry
          exact SeqAt.in_tuple_reads q2 q1 hd2.2.1 hd1.2.1 (by have := hd1.2.2; omega) hq
      exact fin
  cases dy with
  | str z =>
    obtain ⟨c, rfl, w⟩ := w
    cases r1.str_inv
    cases r2.str_inv
    refine op_in_sign pins s σ H _ _ v u Q I rx ry ⟨c, z, rfl, rfl, f.here R w ?_⟩
    rw [Bool.false_xor]
    exact .bl _
  | _ => exact rest w
theorem op_wNotIn (hu : X.A.units + 64 < cLine) : OpR X (compareOp .NotIn) (r2W X.K (wIn true)) := by
  intro pins s σ H x y v u Q I rx ry hh
  obtain ⟨W, h, dx, dy, K0, R, r1, r2, w, f⟩ := hh
  have rest : ((∃ kvs k, dicOf h dy = some kvs ∧ toKey dx = some k ∧ K0 (.bl (xor true (getKV kvs k).isSome)) h) ∨
    (∃ xs, seqOf h dy = some xs ∧ dx.ok 50 = true ∧ D.oks 50 xs = true ∧ K0 (.bl (xor true (xs.any fun z => z.eqv dx))) h)) → wpAny (model X.prog X.w) X.A (compareOp .NotIn v u) (EP X pins σ Q) X.xe s := fun w => by
    rcases w with ⟨kvs, k, e1, e2, w⟩ | ⟨xs, e1, o1, o2, w⟩
    · obtain ⟨a, ks, rfl, rd, q⟩ := dicOf_ok e1 R r2
      cases ry
      cases toKey_rep e2 r1
      refine d_notIn (hu := by omega) I (o := valV ks k) (.inl ⟨ks, k, rd, rfl, rfl⟩) rx fun s' I' => ⟨.bl _, H, I', rfl, f.here R w ?_⟩
      rw [Bool.true_xor, q.isSome k]
      exact .bl _
    · obtain ⟨a, vs, rfl, rd, q⟩ := seqOf_ok e1 R r2
      obtain ⟨as, q1⟩ := Dp.reads I dx.pd x v (r1.dp (D.ok_spec _ _ o1).1) rx
      have hd1 := (D.ok_spec _ _ o1)
      have hd2 := (D.oks_spec _ _ o2)
      have hq : EP X pins σ Q (.bool (!(D.pds xs).any fun y => PyData.eqv y dx.pd)) s := by
        refine ⟨.bl _, H, I, rfl, f.here R w ?_⟩
        rw [Bool.true_xor, D.pds_map, List.any_map]
        exact .bl _
      rcases rd with rd | rd
      · obtain ⟨bs, q2⟩ := Dp.reads I (.list (D.pds xs)) (.ref a) u (.lst rd (q.dp hd2.1)) ry
        exact SeqAt.notIn_list_reads q2 q1 hd2.2.1 hd1.2.1 (by have := hd1.2.2; omega) hq
      · obtain ⟨bs, q2⟩ := Dp.reads I (.tuple (D.pds xs)) (.ref a) u (.tup rd (q.dp hd2.1)) ry
        exact SeqAt.notIn_tuple_reads q2 q1 hd2.2.1 hd1.2.1 (by have := hd1.2.2; omega) hq
  cases dy with
  | str z =>
    obtain ⟨c, rfl, w⟩ := w
    cases r1.str_inv
    cases r2.str_inv
    refine op_notIn_sign pins s σ H _ _ v u Q I rx ry ⟨c, z, rfl, rfl, f.here R w ?_⟩
    rw [Bool.true_xor]
    exact .bl _
  | _ => exact rest w
/-- is None, is not None -/
def D.isN : D → Bool
  | .non => true
  | _ => false
def cIsN (neg : Bool) (a : Ev) : Ev := fun ρ h Q => a ρ h fun x h1 => Q (.bl (xor neg x.isN)) h1
theorem isN_rep {F : PySem.W.Frag} {W : Vw} {H : Hp} {d : D} {v : V} (r : Rep F W H d v) : decide (v = .non) = d.isN := by
  cases d with
  | non => rw [r.non_inv]; rfl
  | bl b => rw [r.bl_inv]; rfl
  | int b => rw [r.int_inv]; rfl
  | str b => rw [r.str_inv]; rfl
  | tup b => obtain ⟨a, vs, rfl, _⟩ := r.tup_inv; rfl
  | lst b => rw [Rep] at r; obtain ⟨a, vs, rfl, _⟩ := r; rfl
  | scr b => rw [Rep] at r; obtain ⟨a, rfl, _⟩ := r; rfl
  | ref b => rw [Rep] at r; obtain ⟨a, rfl, _⟩ := r; rfl
theorem tE_isN {F : PySem.W.Frag} {a : Ev} : ∀ σ H Q, tE F (cIsN false a) σ H Q → tIsN (tE F a) σ H Q := by
  intro σ H Q ⟨W, ρ, h, K0, E, R, w, f⟩
  refine ⟨W, ρ, h, _, E, R, w, fun dx h1 W1 H1 vx k1 p1 R1 rx => ?_⟩
  refine f _ _ _ _ _ k1 p1 R1 ?_
  rw [isN_rep rx, Bool.false_xor]
  exact .bl _
theorem tE_notN {F : PySem.W.Frag} {a : Ev} : ∀ σ H Q, tE F (cIsN true a) σ H Q → tNotN (tE F a) σ H Q := by
  intro σ H Q ⟨W, ρ, h, K0, E, R, w, f⟩
  refine ⟨W, ρ, h, _, E, R, w, fun dx h1 W1 H1 vx k1 p1 R1 rx => ?_⟩
  refine f _ _ _ _ _ k1 p1 R1 ?_
  rw [isN_rep rx, Bool.true_xor]
  exact .bl _

/-! subscripts -/
def wIx : W2 := fun h x y K => match x, y with
  | .tup xs, .int i => ∃ v, atI xs i = some v ∧ K v h
  | .str z, .int i => z.length ≤ sizeLine ∧ ∃ c, atI z.cps.toList i = some c ∧ K (.str ⟨#[c]⟩) h
  | x, y => (∃ xs i v, lstOf h x = some xs ∧ y = .int i ∧ atI xs i = some v ∧ K v h) ∨ (∃ kvs k v, dicOf h x = some kvs ∧ toKey y = some k ∧ getKV kvs k = some v ∧ K v h)
theorem atI_rep {F : PySem.W.Frag} {W : Vw} {H : Hp} {xs : List D} {vs : List V} {i : Int} {d : D} (q : Reps F W H xs vs) (e : atI xs i = some d) : ∃ v, atI vs i = some v ∧ Rep F W H d v := by
  unfold atI at e ⊢
  rw [q.length]
  cases ei : ixN xs.length i with
  | none => rw [ei] at e; cases e
  | some j =>
    rw [ei] at e
    exact q.get e
theorem ix_wIx (hu : X.A.units + 64 < cLine) : IxR X (r2W X.K wIx) := by
  intro value slice pins s σ H x y v u Q I rx ry hh hs
  obtain ⟨W, h, dx, dy, K0, R, r1, r2, w, f⟩ := hh
  have rest : ((∃ xs i v, lstOf h dx = some xs ∧ dy = .int i ∧ atI xs i = some v ∧ K0 v h) ∨ (∃ kvs k v, dicOf h dx = some kvs ∧ toKey dy = some k ∧ getKV kvs k = some v ∧ K0 v h)) →
      wpAny (model X.prog X.w) X.A (subscriptTail value slice v u) (EP X pins σ Q) X.xe s := fun w => by
    rcases w with ⟨xs, i, d, e1, rfl, e2, w⟩ | ⟨kvs, k, d, e1, e2, e3, w⟩
    · obtain ⟨a, vs, rfl, rd, q⟩ := lstOf_ok e1 R r1
      cases r2.int_inv
      obtain ⟨z, ez, rz⟩ := atI_rep q e2
      exact ix_list value slice pins s σ H _ _ v u Q I rx ry ⟨a, vs, i, z, rfl, rfl, .inl (.inl rd), ez, f.here R w rz⟩ hs
    · obtain ⟨a, ks, rfl, rd, q⟩ := dicOf_ok e1 R r1
      cases toKey_rep e2 r2
      obtain ⟨z, ez, rz⟩ := (q.get k).1 d e3
      have g : DGet H a (kV k) (some z) := .inl ⟨ks, k, rd, rfl, ez.symm⟩
      cases rx
      exact tail_any (dict_typeIs I g) PySem.F.slot_dict_getitem.lookup (d_getItem (by omega) I g ry fun w' s' I' rw' => ⟨z, H, I', rw', f.here R w rz⟩) hs
  cases dx with
  | tup xs =>
    cases dy with
    | int i =>
      obtain ⟨d, e, w⟩ := w
      obtain ⟨a, vs, rfl, rd, q⟩ := r1.tup_inv
      cases r2.int_inv
      obtain ⟨z, ez, rz⟩ := atI_rep q e
      exact ix_tup value slice pins s σ H _ _ v u Q I rx ry ⟨a, vs, i, z, rfl, rfl, rd.sq, ez, f.here R w rz⟩ hs
    | _ => exact rest w
  | str z =>
    cases dy with
    | int i =>
      obtain ⟨hz, c, e, w⟩ := w
      cases r1.str_inv
      cases r2.int_inv
      exact ix_str value slice pins s σ H _ _ v u Q I rx ry ⟨z, i, c, rfl, rfl, hz, e, f.here R w (.str _)⟩ hs
    | _ => exact rest w
  | _ => exact rest w

/-! slices -/
def cutL {α : Type} (xs : List α) (lo hi : Option Int) : List α := (xs.drop (HT.sIx xs.length 0 lo)).take (HT.sIx xs.length xs.length hi - HT.sIx xs.length 0 lo)
theorem cutL_V (xs : List V) (lo hi : Option Int) : cutL xs lo hi = cutV xs lo hi := rfl
theorem cutL_rep {F : PySem.W.Frag} {W : Vw} {H : Hp} {xs : List D} {vs : List V} (q : Reps F W H xs vs) (lo hi : Option Int) : Reps F W H (cutL xs lo hi) (cutV vs lo hi) := by
  rw [← cutL_V]
  unfold cutL
  rw [q.length]
  exact (q.drop _).take _
def wSl (mu : Bool) (h : MH) (x : D) (lo hi : Option Int) (K : D → MH → Prop) : Prop := match x with
  | .str z => z.length ≤ sizeLine ∧ K (.str (cutS z lo hi)) h
  | .tup xs => K (.tup (cutL xs lo hi)) h
  | x => ∃ xs, lstOf h x = some xs ∧ mkL mu (cutL xs lo hi) h K
def rSlW (F : PySem.W.Frag) (mu : Bool) : V → Option Int → Option Int → Hp → VK → Prop := fun x lo hi H Q => ∃ (W : Vw) (h : MH) (dx : D) (K0 : D → MH → Prop), RelH F W h H ∧ Rep F W H dx x ∧ wSl mu h dx lo hi K0 ∧ Fo F W H K0 Q
theorem cutV_whole (xs : List V) (lo hi : Option Int) (h : HT.sIx xs.length 0 lo = 0 ∧ HT.sIx xs.length xs.length hi = xs.length) : cutV xs lo hi = xs := by
  unfold cutV
  rw [h.1, h.2]
  simp
theorem sl_wSl (mu : Bool) : SlR X (rSlW X.K mu) := by
  intro pins s σ H x v vl vu lo hi sl Q I rx hs pl pu hh
  obtain ⟨W, h, dx, K0, R, r1, w, f⟩ := hh
  cases dx with
  | str z =>
    cases r1.str_inv
    exact sl_str pins s σ H _ v vl vu lo hi sl Q I rx hs pl pu ⟨z, rfl, w.1, f.here R w.2 (.str _)⟩
  | tup xs =>
    obtain ⟨a, vs, rfl, rd, q⟩ := r1.tup_inv
    refine sl_tupA pins s σ H _ v vl vu lo hi sl Q I rx hs pl pu ⟨a, vs, rfl, rd.sq, fun e => ?_, fun _ p hp => f.tup R hp w (cutL_rep q lo hi)⟩
    refine f.here R w ?_
    rw [Rep]
    refine ⟨a, vs, rfl, rd, ?_⟩
    have := cutL_rep q lo hi
    rwa [cutV_whole vs lo hi e] at this
  | _ =>
    obtain ⟨xs, e1, w⟩ := w
    obtain ⟨a, vs, rfl, rd, q⟩ := lstOf_ok e1 R r1
    exact sl_list pins s σ H _ v vl vu lo hi sl Q I rx hs pl pu ⟨a, vs, rfl, .inl (.inl rd), fun p hp => f.lst R hp w (cutL_rep q lo hi)⟩
end
end Z

set_option Elab.async false
set_option linter.all false
set_option maxRecDepth 100000
/-! Z2c: expressions -/
namespace Z
open PySem PySem.Spec PyProof.Rows L2

def cVar (i : Nat) : Ev := fun ρ h Q => ∃ d, ρ[i]? = some (some d) ∧ Q d h
def cK (d : D) : Ev := fun _ h Q => Q d h
def cTest (w : Ev) : Tv := fun ρ h Q => w ρ h fun d h1 => match d with
  | .bl b => Q b h1
  | _ => False
def cUn (o : D → (D → Prop) → Prop) (w : Ev) : Ev := fun ρ h Q => w ρ h fun d h1 => o d fun z => Q z h1
def uNeg (d : D) (K : D → Prop) : Prop := match d with
  | .int i => K (.int (-i))
  | _ => False
def uNot (d : D) (K : D → Prop) : Prop := match d with
  | .bl i => K (.bl (!i))
  | _ => False
def cChain (o o' : W2) (a b c : Ev) : Ev := fun ρ h Q => a ρ h fun x h1 => b ρ h1 fun y h2 => o h2 x y fun z h3 => match z with
  | .bl true => c ρ h3 fun w h4 => o' h4 y w Q
  | .bl false => Q (.bl false) h3
  | _ => False
def cAndV (a b : Ev) : Ev := fun ρ h Q => a ρ h fun x h1 => match x with
  | .bl true => b ρ h1 Q
  | .bl false => Q (.bl false) h1
  | _ => False
def cOrV (a b : Ev) : Ev := fun ρ h Q => a ρ h fun x h1 => match x with
  | .bl true => Q (.bl true) h1
  | .bl false => b ρ h1 Q
  | _ => False
def cAnd (a b : Tv) : Tv := fun ρ h Q => a ρ h fun x h1 => match x with
  | true => b ρ h1 Q
  | false => Q false h1
def cOr (a b : Tv) : Tv := fun ρ h Q => a ρ h fun x h1 => match x with
  | true => Q true h1
  | false => b ρ h1 Q
def cNot (a : Tv) : Tv := fun ρ h Q => a ρ h fun x h1 => Q (!x) h1
def cIfE (t : Tv) (a b : Ev) : Ev := fun ρ h Q => t ρ h fun x h1 => match x with
  | true => a ρ h1 Q
  | false => b ρ h1 Q
def aNil : Av := fun _ h Q => Q [] h
def aCons (w : Ev) (r : Av) : Av := fun ρ h Q => w ρ h fun d h1 => r ρ h1 fun ds h2 => Q (d :: ds) h2
def aStar (w : Ev) (r : Av) : Av := fun ρ h Q => w ρ h fun d h1 => ∃ xs, seqOf h1 d = some xs ∧ r ρ h1 fun ds h2 => Q (xs ++ ds) h2
def cTup (as : Av) : Ev := fun ρ h Q => as ρ h fun ds h1 => ds.length ≤ sizeLine ∧ Q (.tup ds) h1
def cLst (mu : Bool) (as : Av) : Ev := fun ρ h Q => as ρ h fun ds h1 => ds.length ≤ sizeLine ∧ mkL mu ds h1 Q
def cCall (g : Gs) (as : Av) : Ev := fun ρ h Q => as ρ h fun ds h1 => g ds h1 Q
abbrev Wn := MH → List D → (D → MH → Prop) → Prop
def cB (o : Wn) (as : Av) : Ev := fun ρ h Q => as ρ h fun ds h1 => o h1 ds Q
abbrev Wm := MH → D → List D → (D → MH → Prop) → Prop
def cMeth (o : Wm) (a : Ev) (as : Av) : Ev := fun ρ h Q => a ρ h fun x h1 => as ρ h1 fun ds h2 => o h2 x ds Q
def oPart (w : Option Ev) (ρ : Rho) (h : MH) (K : Option Int → MH → Prop) : Prop := match w with
  | none => K none h
  | some w => w ρ h fun d h1 => match d with
    | .int i => K (some i) h1
    | _ => False
def cSl (mu : Bool) (a : Ev) (lo hi : Option Ev) : Ev := fun ρ h Q => a ρ h fun x h1 => oPart lo ρ h1 fun l h2 => oPart hi ρ h2 fun u h3 => wSl mu h3 x l u Q
/-- xs[::-1] -/
def wRev (mu : Bool) (h : MH) (x : D) (K : D → MH → Prop) : Prop := match x with
  | .tup xs => K (.tup xs.reverse) h
  | x => ∃ xs, lstOf h x = some xs ∧ mkL mu xs.reverse h K
def cRev (mu : Bool) (a : Ev) : Ev := fun ρ h Q => a ρ h fun x h1 => wRev mu h1 x Q

section
variable {F : PySem.W.Frag}
theorem tE_var {i : Nat} : ∀ σ H Q, tE F (cVar i) σ H Q → tVar i σ H Q := by
  intro σ H Q ⟨W, ρ, h, K0, E, R, ⟨d, e, k⟩, f⟩
  obtain ⟨v, ev, r⟩ := E.2 i d e
  exact ⟨v, ev, f _ _ _ _ _ k (.refl W H) R r⟩
theorem tE_K {d : D} {v : V} (r : ∀ W H, Rep F W H d v) : ∀ σ H Q, tE F (cK d) σ H Q → tC v σ H Q := by
  intro σ H Q ⟨W, ρ, h, K0, E, R, k, f⟩
  exact f _ _ _ _ _ k (.refl W H) R (r W H)
theorem tT_test {w : Ev} : ∀ σ H Q, tT F (cTest w) σ H Q → tTest (tE F w) σ H Q := by
  intro σ H Q ⟨W, ρ, h, K0, E, R, w, f⟩
  refine ⟨W, ρ, h, _, E, R, w, fun d h1 W1 H1 v k p R1 r => ?_⟩
  cases d with
  | bl b =>
    cases r.bl_inv
    exact ⟨b, rfl, f _ _ _ _ k p R1⟩
  | _ => exact k.elim
theorem tE_un {o : D → (D → Prop) → Prop} {ro : V → Hp → VK → Prop} {w : Ev} (ho : ∀ W H d v K Q, Rep F W H d v → o d K → (∀ z y, K z → Rep F W H z y → Q y H) → ro v H Q) :
    ∀ σ H Q, tE F (cUn o w) σ H Q → tUn ro (tE F w) σ H Q := by
  intro σ H Q ⟨W, ρ, h, K0, E, R, w, f⟩
  refine ⟨W, ρ, h, _, E, R, w, fun d h1 W1 H1 v k p R1 r => ?_⟩
  exact ho W1 H1 d v _ Q r k fun z y kz rz => f _ _ _ _ _ kz p R1 rz
theorem un_uNeg : ∀ (W : Vw) (H : Hp) (d : D) (v : V) (K : D → Prop) (Q : VK), Rep F W H d v → uNeg d K → (∀ z y, K z → Rep F W H z y → Q y H) → rU (fun i => .int (-i)) v H Q := by
  intro W H d v K Q r k f
  cases d with
  | int i =>
    cases r.int_inv
    exact ⟨i, rfl, f _ _ k (.int _)⟩
  | _ => exact k.elim
theorem tE_chain {o o' : W2} {a b c : Ev} : ∀ σ H Q, tE F (cChain o o' a b c) σ H Q → tChain (r2W F o) (r2W F o') (tE F a) (tE F b) (tE F c) σ H Q := by
  intro σ H Q ⟨W, ρ, h, K0, E, R, w, f⟩
  refine ⟨W, ρ, h, _, E, R, w, fun dx h1 W1 H1 vx k1 p1 R1 rx => ?_⟩
  refine ⟨W1, ρ, h1, _, E.pres p1, R1, k1, fun dy h2 W2 H2 vy k2 p2 R2 ry => ?_⟩
  refine ⟨W2, h2, dx, dy, _, R2, rx.pres p2, ry, k2, fun z h3 W3 H3 vz k3 p3 R3 rz => ?_⟩
  have p13 := (p1.trans p2).trans p3
  cases z with
  | bl b =>
    cases rz.bl_inv
    refine ⟨b, rfl, ?_⟩
    cases b with
    | true =>
      rw [if_pos rfl]
      refine ⟨W3, ρ, h3, _, E.pres p13, R3, k3, fun dw h4 W4 H4 vw k4 p4 R4 rw' => ?_⟩
      exact ⟨W4, h4, dy, dw, K0, R4, (ry.pres p3).pres p4, rw', k4, fun d h' W' H' v k p => f d h' W' H' v k ((p13.trans p4).trans p)⟩
    | false =>
      rw [if_neg Bool.false_ne_true]
      exact f _ _ _ _ _ k3 p13 R3 rz
  | _ => exact k3.elim
theorem tE_andV {a b : Ev} : ∀ σ H Q, tE F (cAndV a b) σ H Q → tAndV (tE F a) (tE F b) σ H Q := by
  intro σ H Q ⟨W, ρ, h, K0, E, R, w, f⟩
  refine ⟨W, ρ, h, _, E, R, w, fun dx h1 W1 H1 vx k1 p1 R1 rx => ?_⟩
  cases dx with
  | bl c =>
    cases rx.bl_inv
    refine ⟨c, rfl, ?_⟩
    cases c with
    | true =>
      rw [if_pos rfl]
      exact ⟨W1, ρ, h1, _, E.pres p1, R1, k1, fun d h' W' H' v k p => f d h' W' H' v k (p1.trans p)⟩
    | false =>
      rw [if_neg Bool.false_ne_true]
      exact f _ _ _ _ _ k1 p1 R1 (.bl _)
  | _ => exact k1.elim
theorem tE_orV {a b : Ev} : ∀ σ H Q, tE F (cOrV a b) σ H Q → tOrV (tE F a) (tE F b) σ H Q := by
  intro σ H Q ⟨W, ρ, h, K0, E, R, w, f⟩
  refine ⟨W, ρ, h, _, E, R, w, fun dx h1 W1 H1 vx k1 p1 R1 rx => ?_⟩
  cases dx with
  | bl c =>
    cases rx.bl_inv
    refine ⟨c, rfl, ?_⟩
    cases c with
    | true =>
      rw [if_pos rfl]
      exact f _ _ _ _ _ k1 p1 R1 (.bl _)
    | false =>
      rw [if_neg Bool.false_ne_true]
      exact ⟨W1, ρ, h1, _, E.pres p1, R1, k1, fun d h' W' H' v k p => f d h' W' H' v k (p1.trans p)⟩
  | _ => exact k1.elim
theorem tE_notV {a : Ev} : ∀ σ H Q, tE F (cUn uNot a) σ H Q → tNotV (tE F a) σ H Q := by
  intro σ H Q ⟨W, ρ, h, K0, E, R, w, f⟩
  refine ⟨W, ρ, h, _, E, R, w, fun dx h1 W1 H1 vx k1 p1 R1 rx => ?_⟩
  cases dx with
  | bl c =>
    cases rx.bl_inv
    exact ⟨c, rfl, f _ _ _ _ _ k1 p1 R1 (.bl _)⟩
  | _ => exact k1.elim
theorem tT_and {a b : Tv} : ∀ σ H Q, tT F (cAnd a b) σ H Q → tAnd (tT F a) (tT F b) σ H Q := by
  intro σ H Q ⟨W, ρ, h, K0, E, R, w, f⟩
  refine ⟨W, ρ, h, _, E, R, w, fun c h1 W1 H1 k1 p1 R1 => ?_⟩
  cases c with
  | true =>
    rw [if_pos rfl]
    exact ⟨W1, ρ, h1, _, E.pres p1, R1, k1, fun d h' W' H' k p => f d h' W' H' k (p1.trans p)⟩
  | false =>
    rw [if_neg Bool.false_ne_true]
    exact f _ _ _ _ k1 p1 R1
theorem tT_or {a b : Tv} : ∀ σ H Q, tT F (cOr a b) σ H Q → tOr (tT F a) (tT F b) σ H Q := by
  intro σ H Q ⟨W, ρ, h, K0, E, R, w, f⟩
  refine ⟨W, ρ, h, _, E, R, w, fun c h1 W1 H1 k1 p1 R1 => ?_⟩
  cases c with
  | true =>
    rw [if_pos rfl]
    exact f _ _ _ _ k1 p1 R1
  | false =>
    rw [if_neg Bool.false_ne_true]
    exact ⟨W1, ρ, h1, _, E.pres p1, R1, k1, fun d h' W' H' k p => f d h' W' H' k (p1.trans p)⟩
theorem tT_not {a : Tv} : ∀ σ H Q, tT F (cNot a) σ H Q → tNot (tT F a) σ H Q := by
  intro σ H Q ⟨W, ρ, h, K0, E, R, w, f⟩
  exact ⟨W, ρ, h, _, E, R, w, fun c h1 W1 H1 k1 p1 R1 => f _ _ _ _ k1 p1 R1⟩
theorem tE_if {t : Tv} {a b : Ev} : ∀ σ H Q, tE F (cIfE t a b) σ H Q → tIf (tT F t) (tE F a) (tE F b) σ H Q := by
  intro σ H Q ⟨W, ρ, h, K0, E, R, w, f⟩
  refine ⟨W, ρ, h, _, E, R, w, fun c h1 W1 H1 k1 p1 R1 => ?_⟩
  cases c with
  | true =>
    rw [if_pos rfl]
    exact ⟨W1, ρ, h1, _, E.pres p1, R1, k1, fun d h' W' H' v k p => f d h' W' H' v k (p1.trans p)⟩
  | false =>
    rw [if_neg Bool.false_ne_true]
    exact ⟨W1, ρ, h1, _, E.pres p1, R1, k1, fun d h' W' H' v k p => f d h' W' H' v k (p1.trans p)⟩
theorem tA_nil : ∀ σ H Q, tA F aNil σ H Q → tNil σ H Q := by
  intro σ H Q ⟨W, ρ, h, K0, E, R, w, f⟩
  exact f _ _ _ _ _ w (.refl W H) R .nil
theorem tA_cons {w : Ev} {r : Av} : ∀ σ H Q, tA F (aCons w r) σ H Q → tCons (tE F w) (tA F r) σ H Q := by
  intro σ H Q ⟨W, ρ, h, K0, E, R, w, f⟩
  refine ⟨W, ρ, h, _, E, R, w, fun dx h1 W1 H1 vx k1 p1 R1 rx => ?_⟩
  refine ⟨W1, ρ, h1, _, E.pres p1, R1, k1, fun ds h2 W2 H2 vs k2 p2 R2 rs => ?_⟩
  exact f _ _ _ _ _ k2 (p1.trans p2) R2 (.cons (rx.pres p2) rs)
theorem tA_star {w : Ev} {r : Av} : ∀ σ H Q, tA F (aStar w r) σ H Q → StX.tStar F (tE F w) (tA F r) σ H Q := by
  intro σ H Q ⟨W, ρ, h, K0, E, R, w, f⟩
  refine ⟨W, ρ, h, _, E, R, w, fun dx h1 W1 H1 vx k1 p1 R1 rx => ?_⟩
  obtain ⟨xs, e, k1⟩ := k1
  obtain ⟨a, vs, e1, q, rs⟩ := seqOf_ok e R1 rx
  refine ⟨a, vs, e1, q.symm, W1, ρ, h1, _, E.pres p1, R1, k1, fun ds h2 W2 H2 ws k2 p2 R2 rs2 => ?_⟩
  exact f _ _ _ _ _ k2 (p1.trans p2) R2 ((rs.pres p2).append rs2)
theorem tE_tup {as : Av} : ∀ σ H Q, tE F (cTup as) σ H Q → tTup (tA F as) σ H Q := by
  intro σ H Q ⟨W, ρ, h, K0, E, R, w, f⟩
  refine ⟨W, ρ, h, _, E, R, w, fun ds h1 W1 H1 vs k1 p1 R1 rs => ?_⟩
  exact ⟨by rw [rs.length]; exact k1.1, fun p hp => Fo.tup (Fo.step f p1) R1 hp k1.2 rs⟩
theorem tE_lst {mu : Bool} {as : Av} : ∀ σ H Q, tE F (cLst mu as) σ H Q → tLst (tA F as) σ H Q := by
  intro σ H Q ⟨W, ρ, h, K0, E, R, w, f⟩
  refine ⟨W, ρ, h, _, E, R, w, fun ds h1 W1 H1 vs k1 p1 R1 rs => ?_⟩
  exact ⟨by rw [rs.length]; exact k1.1, fun p hp => Fo.lst (Fo.step f p1) R1 hp k1.2 rs⟩
/-- calls by values -/
def rsW (F : PySem.W.Frag) (o : Wn) : List V → Hp → VK → Prop := fun vs H Q => ∃ (W : Vw) (h : MH) (ds : List D) (K0 : D → MH → Prop), RelH F W h H ∧ Reps F W H ds vs ∧ o h ds K0 ∧ Fo F W H K0 Q
def rmW (F : PySem.W.Frag) (o : Wm) : V → List V → Hp → VK → Prop := fun x vs H Q => ∃ (W : Vw) (h : MH) (d : D) (ds : List D) (K0 : D → MH → Prop), RelH F W h H ∧ Rep F W H d x ∧ Reps F W H ds vs ∧ o h d ds K0 ∧ Fo F W H K0 Q
theorem tE_B {o : Wn} {as : Av} : ∀ σ H Q, tE F (cB o as) σ H Q → tCB (rsW F o) (tA F as) σ H Q := by
  intro σ H Q ⟨W, ρ, h, K0, E, R, w, f⟩
  refine ⟨W, ρ, h, _, E, R, w, fun ds h1 W1 H1 vs k1 p1 R1 rs => ?_⟩
  exact ⟨W1, h1, ds, K0, R1, rs, k1, Fo.step f p1⟩
/-- a def's promise over values -/
def spG (F : PySem.W.Frag) (g : Gs) : Sp := fun vs H Q _ => ∃ (W : Vw) (h : MH) (ds : List D) (K0 : D → MH → Prop), RelH F W h H ∧ Reps F W H ds vs ∧ g ds h K0 ∧ Fo F W H K0 Q
theorem tE_call {g : Gs} {as : Av} {E : XK} : ∀ σ H Q, tE F (cCall g as) σ H Q → (tA F as σ H fun vs H1 => spG F g vs H1 Q E) := by
  intro σ H Q ⟨W, ρ, h, K0, E, R, w, f⟩
  refine ⟨W, ρ, h, _, E, R, w, fun ds h1 W1 H1 vs k1 p1 R1 rs => ?_⟩
  exact ⟨W1, h1, ds, K0, R1, rs, k1, Fo.step f p1⟩
theorem tO_part {w : Ev} {σ : L2.St} {H : Hp} {Q : Option Int → Hp → Prop} {W : Vw} {ρ : Rho} {h : MH} {K : Option Int → MH → Prop} (E : RelE F W H ρ σ) (R : RelH F W h H) (k : oPart (some w) ρ h K)
    (f : ∀ i h' W' H', K i h' → Pres W H W' H' → RelH F W' h' H' → Q i H') : tPart (tE F w) σ H Q := by
  refine ⟨W, ρ, h, _, E, R, k, fun d h1 W1 H1 v k1 p1 R1 r => ?_⟩
  cases d with
  | int i =>
    cases r.int_inv
    exact ⟨i, rfl, f _ _ _ _ k1 p1 R1⟩
  | _ => exact k1.elim
end

/-! ### the rules -/
section
variable {X : Cx} {a b c e : Expr} {es : List Expr} {wa wb wc w : Ev} {was : Av} {pos p : Pos}
theorem z_var {i : Nat} {x : Str} (hN : X.N[i]? = some x) (hv : Vis X.env.scope x) (hd : (x == ("__debug__" : Str)) = false) (hcd : (x == ("__classdict__" : Str)) = false) : PE X (.Name x pos) (tE X.K (cVar i)) :=
  (pe_var hN hv hd hcd).imp tE_var
theorem z_int {i : Int} {k : Nat} : PE X (.Constant (.int i) k pos) (tE X.K (cK (.int i))) := pe_int.imp (tE_K fun _ _ => .int _)
theorem z_str {i : Str} {k : Nat} : PE X (.Constant (.str i) k pos) (tE X.K (cK (.str i))) := pe_str.imp (tE_K fun _ _ => .str _)
theorem z_bl {i : Bool} {k : Nat} : PE X (.Constant (.bool i) k pos) (tE X.K (cK (.bl i))) := pe_bl.imp (tE_K fun _ _ => .bl _)
theorem z_non {k : Nat} : PE X (.Constant .none k pos) (tE X.K (cK .non)) := pe_non.imp (tE_K fun _ _ => .non)
theorem z_bin {op : Operator} {o : W2} (ho : OpR X (binaryOp op) (r2W X.K o)) (ha : PE X a (tE X.K wa)) (hb : PE X b (tE X.K wb)) : PE X (.BinOp a op b pos) (tE X.K (cBin o wa wb)) :=
  (pe_op ho ha hb).imp tE_bin
theorem z_neg (ha : PE X a (tE X.K wa)) : PE X (.UnaryOp .USub a pos) (tE X.K (cUn uNeg wa)) := (pe_un un_neg ha).imp (tE_un un_uNeg)
theorem z_notV (ha : PE X a (tE X.K wa)) : PE X (.UnaryOp .Not a pos) (tE X.K (cUn uNot wa)) := (pe_not ha).imp tE_notV
theorem z_cmp {op : CmpOp} {o : W2} (ho : OpR X (compareOp op) (r2W X.K o)) (hm : behindInMarks op b = false) (ha : PE X a (tE X.K wa)) (hb : PE X b (tE X.K wb)) : PE X (.Compare a [op] [b] pos) (tE X.K (cBin o wa wb)) :=
  (pe_cmpR ho ha hb hm).imp tE_bin
theorem z_cmpT {op : CmpOp} {o : W2} (ho : OpR X (compareOp op) (r2W X.K o)) (hm : behindInMarks op b = false) (ha : PE X a (tE X.K wa)) (hb : PE X b (tE X.K wb)) : PT X (.Compare a [op] [b] pos) (tT X.K (cTest (cBin o wa wb))) :=
  (pt_cmpR ho ha hb hm).imp fun σ H Q q => tE_bin σ H _ (tT_test σ H Q q)
theorem z_isN (neg : Bool) {j : Nat} {p2 : Pos} (ha : PE X a (tE X.K wa)) : PE X (.Compare a [if neg then .IsNot else .Is] [.Constant .none j p2] pos) (tE X.K (cIsN neg wa)) := by
  cases neg with
  | false => exact (pe_cmp (pc_isN ha) rfl).imp tE_isN
  | true => exact (pe_cmp (pc_notN ha) rfl).imp tE_notN
theorem z_isNT (neg : Bool) {j : Nat} {p2 : Pos} (ha : PE X a (tE X.K wa)) : PT X (.Compare a [if neg then .IsNot else .Is] [.Constant .none j p2] pos) (tT X.K (cTest (cIsN neg wa))) := by
  cases neg with
  | false => exact (pt_cmp (pc_isN ha) rfl).imp fun σ H Q q => tE_isN σ H _ (tT_test σ H Q q)
  | true => exact (pt_cmp (pc_notN ha) rfl).imp fun σ H Q q => tE_notN σ H _ (tT_test σ H Q q)
theorem z_chain {op op' : CmpOp} {o o' : W2} (ho : OpR X (compareOp op) (r2W X.K o)) (ho' : OpR X (compareOp op') (r2W X.K o')) (hm : lastMarks [op, op'] [b, c] = false) (ha : PE X a (tE X.K wa)) (hb : PE X b (tE X.K wb)) (hc : PE X c (tE X.K wc)) :
    PE X (.Compare a [op, op'] [b, c] pos) (tE X.K (cChain o o' wa wb wc)) := (pe_chain ho ho' ha hb hc hm).imp tE_chain
theorem z_chainT {op op' : CmpOp} {o o' : W2} (ho : OpR X (compareOp op) (r2W X.K o)) (ho' : OpR X (compareOp op') (r2W X.K o')) (hm : lastMarks [op, op'] [b, c] = false) (ha : PE X a (tE X.K wa)) (hb : PE X b (tE X.K wb)) (hc : PE X c (tE X.K wc)) :
    PT X (.Compare a [op, op'] [b, c] pos) (tT X.K (cTest (cChain o o' wa wb wc))) := (pt_chain ho ho' ha hb hc hm).imp fun σ H Q q => tE_chain σ H _ (tT_test σ H Q q)
theorem z_val (ha : PE X a (tE X.K wa)) (he : ∀ whole, isTrue a X.env whole = (do let v ← whole; standAt a.pos; holding [v] (truthy v))) : PT X a (tT X.K (cTest wa)) :=
  (pt_val ha he).imp fun σ H Q q => tT_test σ H Q q
theorem z_one {op : BoolOp} (ha : PE X a (tE X.K wa)) : PE X (.BoolOp op [a] pos) (tE X.K wa) := pe_one ha
theorem z_andV {r : List Expr} (ha : PE X a (tE X.K wa)) (hb : PE X (.BoolOp .And (b :: r) pos) (tE X.K wb)) : PE X (.BoolOp .And (a :: b :: r) pos) (tE X.K (cAndV wa wb)) := (pe_and ha hb).imp tE_andV
theorem z_orV {r : List Expr} (ha : PE X a (tE X.K wa)) (hb : PE X (.BoolOp .Or (b :: r) pos) (tE X.K wb)) : PE X (.BoolOp .Or (a :: b :: r) pos) (tE X.K (cOrV wa wb)) := (pe_or ha hb).imp tE_orV
theorem z_and1 {ta : Tv} (ha : PT X a (tT X.K ta)) : PW X (.BoolOp .And [a] pos) (tT X.K ta) := pw_and1 ha
theorem z_or1 {ta : Tv} (ha : PT X a (tT X.K ta)) : PW X (.BoolOp .Or [a] pos) (tT X.K ta) := pw_or1 ha
theorem z_and {r : List Expr} {ta tb : Tv} (ha : PT X a (tT X.K ta)) (hb : PW X (.BoolOp .And (b :: r) pos) (tT X.K tb)) : PW X (.BoolOp .And (a :: b :: r) pos) (tT X.K (cAnd ta tb)) := (pw_and ha hb).imp tT_and
theorem z_or {r : List Expr} {ta tb : Tv} (ha : PT X a (tT X.K ta)) (hb : PW X (.BoolOp .Or (b :: r) pos) (tT X.K tb)) : PW X (.BoolOp .Or (a :: b :: r) pos) (tT X.K (cOr ta tb)) := (pw_or ha hb).imp tT_or
theorem z_notT {ta : Tv} (ha : PT X a (tT X.K ta)) : PT X (.UnaryOp .Not a pos) (tT X.K (cNot ta)) := (pt_not ha).imp tT_not
theorem z_ifE {t : Tv} (ht : PT X c (tT X.K t)) (ha : PE X a (tE X.K wa)) (hb : PE X b (tE X.K wb)) : PE X (.IfExp c a b pos) (tE X.K (cIfE t wa wb)) := (pe_ifExp ht ha hb).imp tE_if
theorem z_anil : PA X [] (tA X.K aNil) := pa_nil.imp tA_nil
def isStar : Expr → Bool
  | .Starred _ _ => true
  | _ => false
theorem starEach_plain {env : PySem.Env} (h : isStar e = false) : starEach (e :: es) env = (false, eval e env) :: starEach es env := by
  cases e <;> first | rfl | cases h
theorem z_acons (h : isStar a = false) (ha : PE X a (tE X.K wa)) (hr : PA X es (tA X.K was)) : PA X (a :: es) (tA X.K (aCons wa was)) := (pa_cons ha hr (starEach_plain h)).imp tA_cons
theorem z_astar (ha : PE X a (tE X.K wa)) (hr : PA X es (tA X.K was)) : PA X (.Starred a p :: es) (tA X.K (aStar wa was)) := (StX.pa_star ha hr rfl).imp tA_star
theorem z_tup {k : Nat} (h : PA X es (tA X.K was)) : PE X (.Tuple es k pos) (tE X.K (cTup was)) := (pe_tup h).imp tE_tup
theorem z_lst (mu : Bool) (h : PA X es (tA X.K was)) : PE X (.List es pos) (tE X.K (cLst mu was)) := (pe_lst h).imp tE_lst
/-- not a slice -/
def isSl : Expr → Bool
  | .Slice _ _ _ _ => true
  | _ => false
theorem plainIx (h : isSl b = false) : PlainIx b := fun o i => by
  cases b <;> first | rfl | cases h
theorem z_ix (hu : X.A.units + 64 < cLine) (h : isSl b = false) (ha : PE X a (tE X.K wa)) (hb : PE X b (tE X.K wb)) : PE X (.Subscript a b pos) (tE X.K (cBin wIx wa wb)) :=
  (pe_ix (ix_wIx hu) ha hb (plainIx h)).imp tE_bin
end
end Z

set_option Elab.async false
set_option linter.all false
set_option maxRecDepth 100000
/-! ZS: sorted of a tuple -/
namespace Z
open PySem PySem.Spec PyProof.Rows PySem.W L2
section
variable {prog : Program} {w : World} {A : Around} {E : Value → Shared → Prop} {s : Shared} {β : Type} {vs : List Value} {bs : List β} {enc : β → PyData} {R : Value → β → Prop} {l : Addr}
theorem tt_list : (Value.type "tuple" == Value.type "tuple") = true := rfl
theorem collectT {Q : List Value → Shared → Prop} (hl : s.heap.IsTuple l vs.toArray) (hsz : vs.length ≤ sizeLine)
    (h : Q vs { s with heap := (s.heap.push (seqObj "list" #[] 0)).update s.heap.objs.size (Obj.mapSeq (· ++ vs.toArray)) }) : wpAny (model prog w) A (collect (.ref l)) Q E s := by
  obtain ⟨o, ho, hc, n, hd⟩ := id hl
  have fresh : (s.heap.push (seqObj "list" #[] 0)).get? s.heap.objs.size = some (seqObj "list" #[] 0) := Heap.get?_push_size _ rfl
  have old : (s.heap.push (seqObj "list" #[] 0)).get? l = some o := Heap.get?_push_of_some _ ho
  unfold collect
  refine wpAny_bind (wpAny_runValue (codeAny_builtin entry_proto_collect' ?_))
  show wpAny _ _ (newList [] >>= fun z => again (.builtin "list.__iadd__" ⟨[z, .ref l], []⟩)) _ _ s
  refine wpAny_bind (wpAny_newList (wpAny_pure ⟨Code.quiet_builtin _ (by decide +kernel), codeAny_builtin entry_list_iadd' ?_⟩))
  show wpAny _ _ (Builtin.List.listExtendWith (.ref s.heap.objs.size) (.ref l) (.ref s.heap.objs.size)) _ _ { s with heap := s.heap.push (seqObj "list" #[] 0) }
  unfold Builtin.List.listExtendWith
  refine wpAny_bind (wpAny_typeOf (T := "tuple") ⟨o, old, hc⟩ ?_)
  rw [if_pos (by rw [tt_list]; simp)]
  refine wpAny_bind (listItems_at old hd (wpAny_bind (listItems_at (xs := #[]) (n := 0) fresh rfl ?_)))
  rw [if_neg (by simp)]
  refine wpAny_bind (listUpdate_at (xs := #[]) (n := 0) fresh rfl ?_ (Nat.zero_le _) (by show (#[] ++ vs.toArray).size ≤ sizeLine + 1; simp only [Array.size_append, List.size_toArray, List.length_nil]; omega))
  refine wpAny_pure ?_
  show wpAny (model prog w) A (load s.heap.objs.size >>= fun o => match o.data with
      | .seq xs _ => pure xs.toList
      | _ => unsupported "internal:collect") Q E { s with heap := (s.heap.push (seqObj "list" #[] 0)).update s.heap.objs.size (Obj.mapSeq (· ++ vs.toArray)) }
  refine wpAny_bind (wpAny_load (get?_update_seq fresh _) (wpAny_pure ?_))
  have : ((#[] : Array Value) ++ vs.toArray).toList = vs := by simp
  rw [this]
  exact h
theorem sortedT {Q : Value → Shared → Prop} (hl : s.heap.IsTuple l vs.toArray) (e : EachIs R vs bs) (er : EachIs (fun v b => ∃ as, Reads s.heap v (enc b) as) vs bs) (hal : AllAlike (bs.map enc)) (hk : Sortable (bs.map enc)) (hL : bs.length ≤ sizeLine)
    (hu : ∀ b, b ∈ bs → A.units + 2 + (enc b).depth < cLine) (h : ∀ out, out.length = bs.length → EachIs R out (bs.mergeSort (dataLe false enc)) → Q (.ref (s.heap.objs.size + 1)) { s with heap := sortedAll s.heap vs (List.toArray out) }) :
    wpAny (model prog w) A (PySem.call (.builtin "sorted") [.ref l]) Q E s := by
  have hLv : vs.length ≤ sizeLine := by rw [e.length]; exact hL
  have er' : EachIs (fun v b => ∃ as, Reads (sortingHeap (copyHeap s.heap vs) (s.heap.objs.size + 1) vs) v (enc b) as) vs bs := er.mono fun _ _ ⟨as, r⟩ => ⟨as, PyProof.Rows.Reads.keeps (fun _ _ => sorting_copy_old) r⟩
  have S := SortsAt.data (prog := prog) (w := w) (A := A.in1.in1) (s := { s with heap := sortingHeap (copyHeap s.heap vs) (s.heap.objs.size + 1) vs }) (each_map (R := fun v d => ∃ as, Reads (sortingHeap (copyHeap s.heap vs) (s.heap.objs.size + 1) vs) v d as) enc er') hal hk (bound_map hu)
  refine Calls.call_function_entry kind_sorted plain_sorted entry_sorted (args_sorted1 _) ?_
  unfold Builtin.«sorted»
  refine wpAny_bind (m := checkCount "sorted" 1 1 _) (wpAny_pure ?_)
  refine wpAny_bind (collectT hl hLv (wpAny_bind (wpAny_newList ?_ hLv)))
  have hsz : ((s.heap.push (seqObj "list" #[] 0)).update s.heap.objs.size (Obj.mapSeq (· ++ vs.toArray))).objs.size = s.heap.objs.size + 1 := by rw [Heap.size_update, size_push']
  show wpAny _ _ _ _ _ { s with heap := copyHeap s.heap vs }
  rw [hsz]
  refine wpAny_bind (wpAny_holding (wpAny_call_entry slot_list_sort ⟨_, copyHeap_at s.heap vs, rfl⟩ entry_list_sort ?body (args_list_sort _)))
  case body =>
    refine list_sort_vals (s := { s with heap := copyHeap s.heap vs }) (copyHeap_at s.heap vs) S hLv ⟨_, rfl, wpAny_pure ⟨_, rfl, ?_⟩⟩
    exact h _ (by rw [sortVals_length false rfl]; exact e.length) (sortVals_data false e er' hal)
end
end Z

set_option Elab.async false
set_option linter.all false
set_option maxRecDepth 100000
/-! ZT: sorted of tuples, the first of which is empty -/
namespace Z
open PySem PySem.Spec PyProof.Rows PySem.W L2
/-- all are tuples, the first one is empty -/
def Sort0 (ds : List PyData) : Prop := (∃ r, ds = .tuple [] :: r) ∧ ∀ d, d ∈ ds → ∃ xs, d = .tuple xs
section
variable {prog : Program} {w : World} {A : Around} {E : Value → Shared → Prop} {s : Shared}
theorem oneLt_tup {xs ys : List PyData} {a b : Value} {as bs : List Addr} {Q : Bool → Shared → Prop} (ra : Reads s.heap a (.tuple xs) as) (rb : Reads s.heap b (.tuple ys) bs) (h : alike (.tuple xs) (.tuple ys) = true)
    (hu : A.units + min (PyData.tuple xs).depth (PyData.tuple ys).depth < cLine) (hq : Q (dataLt (.tuple xs) (.tuple ys)) s) : wpAny (model prog w) A (oneLt' true a b) Q E s := by
  have hal : alikeAll xs ys = true := by simpa [alike] using h
  cases ra with
  | @tuple l o vs n _ as₁ h1 h2 h3 h4 =>
    cases rb with
    | @tuple l' o' vs' n' _ bs₁ k1 k2 k3 k4 =>
      have n1 : vs.size = xs.length := by simpa using SeqAt.ReadsAll.length _ _ _ h4
      have n2 : vs'.size = ys.length := by simpa using SeqAt.ReadsAll.length _ _ _ k4
      rw [dataLt_tuple, ← firstLt_toks xs ys hal, ← n1, ← n2] at hq
      rw [oneLt'_eq]
      simp only [if_true]
      obtain ⟨oc, od, odt, osl⟩ := o
      obtain ⟨oc2, od2, odt2, osl2⟩ := o'
      simp only at h2 h3 k2 k3
      subst h2 h3 k2 k3
      refine wpAny_bind (wpAny_cRoomFor (SeqAt.room_here hu) ?_)
      refine wpAny_bind (wpAny_callSpecialIfBound?_slot (T := "tuple") ⟨_, h1, rfl⟩ F.slot_tuple_lt (call_meets F.slot_tuple_lt ⟨_, h1, rfl⟩ F.entry_tuple_lt (F.args_tuple_lt_2 _ _)
        (SeqAt.tuple_ltAt _ _ vs vs' n n' od od2 osl osl2 (SeqAt.pairEq xs ys) (fun j => dataLt (xs.getD j .none) (ys.getD j .none))) ⟨h1, k1, fun j j1 j2 => ?_, fun j j1 j2 hj => ?_, wpAny_truthy_bool hq⟩))
      · have := eqAt_alikeAll xs ys A.in1 s vs.toList vs'.toList _ _ h4 k4 hal (SeqAt.room_in hu) j (by simpa using j1) (by simpa using j2)
        simpa using this
      · have := rcLt_alikeAll xs ys A.in1 s vs.toList vs'.toList _ _ h4 k4 hal (SeqAt.room_in hu) j (by simpa using j1) (by simpa using j2) hj
        simpa using this
theorem firsts0 {M : Model} {h : Heap} : ∀ {vs : List Value} {ds : List PyData}, EachIs (fun v d => ∃ as, Reads h v d as) vs ds → (∀ d, d ∈ ds → ∃ xs, d = .tuple xs) → ∀ {E : Value → Shared → Prop} {Q : List (Option Value) → Shared → Prop} {s : Shared}, s.heap = h → (∀ fs : List (Option Value), fs.length = ds.length → (∀ (i : Nat), ds[i]? = some (.tuple []) → fs[i]? = some none) → Q fs s) → wpAny M A (vs.mapM firstOfTuple') Q E s
  | _, _, .nil, _, E, Q, s, _, k => by
    rw [List.mapM_nil]
    exact wpAny_pure (k [] rfl fun i e => by simp at e)
  | _, _, .cons (b := d) ⟨as, r⟩ t, ht, E, Q, s, hs, k => by
    obtain ⟨xs, rfl⟩ := ht d (List.mem_cons_self ..)
    rw [List.mapM_cons]
    refine wpAny_bind ?_
    rw [kas_first_eq]
    cases r with
    | @tuple a o vs n _ _ ho hc hd hr =>
      subst hs
      refine wpAny_bind (Looks.here (show Looks M s.heap (typeOf (.ref a)) o.cls from (Looks.ld ho).andThen .now) ?_)
      rw [hc, if_neg (by first | decide | simp)]
      refine wpAny_bind (listItems_at ho hd (wpAny_pure ?_))
      refine wpAny_bind (firsts0 t (fun d hd => ht d (List.mem_cons_of_mem _ hd)) rfl fun fs h1 h2 => wpAny_pure (k _ (by simp [h1]) fun i e => ?_))
      cases i with
      | zero =>
        have e : xs = [] := by simpa using e
        subst e
        have := SeqAt.ReadsAll.length _ _ _ hr
        simp at this
        simp [this]
      | succ i => exact h2 i (by simpa using e)
theorem kind0 {vs : List Value} {ds : List PyData} (e : EachIs (fun v d => ∃ as, Reads s.heap v d as) vs ds) (h0 : Sort0 ds) {Q : SortKind → Shared → Prop} (hq : Q oneType' s) : wpAny (model prog w) A (keyKind' vs.toArray) Q E s := by
  obtain ⟨⟨r, e0⟩, ht⟩ := h0
  rw [keyKind'_eq, List.mapM_toArray, map_eq_pure_bind]
  refine wpAny_bind (wpAny_bind (firsts0 e ht rfl fun fs h1 h2 => wpAny_pure ?_))
  have f0 : fs[0]? = some none := h2 0 (by rw [e0]; rfl)
  obtain ⟨fr, rfl⟩ : ∃ fr, fs = none :: fr := by
    cases fs with
    | nil => simp at f0
    | cons x fr =>
      simp at f0
      exact ⟨fr, by rw [f0]⟩
  rw [if_neg (by simp), if_neg (by simp)]
  rw [oneTypeOnly'_eq, List.mapM_toArray, map_eq_pure_bind]
  have hl : vs.length = ds.length := e.length
  refine wpAny_bind (wpAny_bind (wpAny_bind (kas_mapM (r := Value.type "tuple") _ (fun v hv Q' hq => ?_) (wpAny_pure ?_))))
  · obtain ⟨d, hd, as, rd⟩ := e.left v hv
    obtain ⟨xs, rfl⟩ := ht d hd
    exact (looks_reads rd).here hq
  · obtain ⟨v0, vr, rfl⟩ : ∃ v0 vr, vs = v0 :: vr := by
      cases vs with
      | nil => rw [e0] at hl; simp at hl
      | cons v0 vr => exact ⟨v0, vr, rfl⟩
    have hall : ((List.map (fun _ => Value.type "tuple") (v0 :: vr)).toArray.all fun x => x == Value.type "tuple") = true := by
      simp only [List.all_toArray, List.all_map, List.all_eq_true]
      intro _ _
      rfl
    have h0 : (List.map (fun _ => Value.type "tuple") (v0 :: vr)).toArray[0]? = some (Value.type "tuple") := by simp
    rw [h0]
    simp only [hall, if_true]
    exact wpAny_pure (wpAny_pure hq)
theorem sortsAt0 {vs : List Value} {ds : List PyData} (e : EachIs (fun v d => ∃ as, Reads s.heap v d as) vs ds) (hal : AllAlike ds) (hk : Sort0 ds) (hu : ∀ d, d ∈ ds → A.units + d.depth < cLine) : SortsAt prog w A s (dataKind s.heap ds) vs := by
  refine ⟨fun v hv => ?_, oneType', ?_, fun h2 E Q hq => kind0 e hk hq⟩
  · obtain ⟨d, hd, as, r⟩ := e.left v hv
    exact ⟨_, dataKind_some hal hd r⟩
  · intro E x y a b Q ha hb hq
    obtain ⟨d, as, hd, ra, rfl⟩ := dataKind_inv ha
    obtain ⟨d', as', hd', rb, rfl⟩ := dataKind_inv hb
    obtain ⟨xs, rfl⟩ := hk.2 d hd
    obtain ⟨ys, rfl⟩ := hk.2 d' hd'
    rw [keyLt'_oneType]
    exact oneLt_tup ra rb (hal _ hd _ hd') (Nat.lt_of_le_of_lt (Nat.add_le_add_left (Nat.min_le_left _ _) _) (hu _ hd)) hq
theorem sorted_data0 {β : Type} {vs : List Value} {bs : List β} {enc : β → PyData} {R : Value → β → Prop} {l : Addr} {Q : Value → Shared → Prop} (hl : s.heap.IsList l vs.toArray) (e : EachIs R vs bs) (er : EachIs (fun v b => ∃ as, Reads s.heap v (enc b) as) vs bs) (hal : AllAlike (bs.map enc)) (hk : Sort0 (bs.map enc)) (hL : bs.length ≤ sizeLine)
    (hu : ∀ b, b ∈ bs → A.units + 2 + (enc b).depth < cLine) (h : ∀ out, out.length = bs.length → EachIs R out (bs.mergeSort (dataLe false enc)) → Q (.ref (s.heap.objs.size + 1)) { s with heap := sortedAll s.heap vs (List.toArray out) }) :
    wpAny (model prog w) A (PySem.call (.builtin "sorted") [.ref l]) Q E s := by
  have er' : EachIs (fun v b => ∃ as, Reads (sortingHeap (copyHeap s.heap vs) (s.heap.objs.size + 1) vs) v (enc b) as) vs bs := er.mono fun _ _ ⟨as, r⟩ => ⟨as, PyProof.Rows.Reads.keeps (fun _ _ => sorting_copy_old) r⟩
  refine sorted_vals hl (sortsAt0 (s := { s with heap := sortingHeap (copyHeap s.heap vs) (s.heap.objs.size + 1) vs }) (each_map (R := fun v d => ∃ as, Reads (sortingHeap (copyHeap s.heap vs) (s.heap.objs.size + 1) vs) v d as) enc er') hal hk (bound_map hu)) (by rw [e.length]; exact hL) ?_
  exact h _ (by rw [sortVals_length false rfl]; exact e.length) (sortVals_data false e er' hal)
variable {β : Type} {vs : List Value} {bs : List β} {enc : β → PyData} {R : Value → β → Prop} {l : Addr}
theorem sorted_dataT0 {Q : Value → Shared → Prop} (hl : s.heap.IsTuple l vs.toArray) (e : EachIs R vs bs) (er : EachIs (fun v b => ∃ as, Reads s.heap v (enc b) as) vs bs) (hal : AllAlike (bs.map enc)) (hk : Sort0 (bs.map enc)) (hL : bs.length ≤ sizeLine)
    (hu : ∀ b, b ∈ bs → A.units + 2 + (enc b).depth < cLine) (h : ∀ out, out.length = bs.length → EachIs R out (bs.mergeSort (dataLe false enc)) → Q (.ref (s.heap.objs.size + 1)) { s with heap := sortedAll s.heap vs (List.toArray out) }) :
    wpAny (model prog w) A (PySem.call (.builtin "sorted") [.ref l]) Q E s := by
  have hLv : vs.length ≤ sizeLine := by rw [e.length]; exact hL
  have er' : EachIs (fun v b => ∃ as, Reads (sortingHeap (copyHeap s.heap vs) (s.heap.objs.size + 1) vs) v (enc b) as) vs bs := er.mono fun _ _ ⟨as, r⟩ => ⟨as, PyProof.Rows.Reads.keeps (fun _ _ => sorting_copy_old) r⟩
  have S := sortsAt0 (prog := prog) (w := w) (A := A.in1.in1) (s := { s with heap := sortingHeap (copyHeap s.heap vs) (s.heap.objs.size + 1) vs }) (each_map (R := fun v d => ∃ as, Reads (sortingHeap (copyHeap s.heap vs) (s.heap.objs.size + 1) vs) v d as) enc er') hal hk (bound_map hu)
  refine Calls.call_function_entry kind_sorted plain_sorted entry_sorted (args_sorted1 _) ?_
  unfold Builtin.«sorted»
  refine wpAny_bind (m := checkCount "sorted" 1 1 _) (wpAny_pure ?_)
  refine wpAny_bind (collectT hl hLv (wpAny_bind (wpAny_newList ?_ hLv)))
  have hsz : ((s.heap.push (seqObj "list" #[] 0)).update s.heap.objs.size (Obj.mapSeq (· ++ vs.toArray))).objs.size = s.heap.objs.size + 1 := by rw [Heap.size_update, size_push']
  show wpAny _ _ _ _ _ { s with heap := copyHeap s.heap vs }
  rw [hsz]
  refine wpAny_bind (wpAny_holding (wpAny_call_entry slot_list_sort ⟨_, copyHeap_at s.heap vs, rfl⟩ entry_list_sort ?body (args_list_sort _)))
  case body =>
    refine list_sort_vals (s := { s with heap := copyHeap s.heap vs }) (copyHeap_at s.heap vs) S hLv ⟨_, rfl, wpAny_pure ⟨_, rfl, ?_⟩⟩
    exact h _ (by rw [sortVals_length false rfl]; exact e.length) (sortVals_data false e er' hal)
end
end Z

set_option Elab.async false
set_option linter.all false
set_option maxRecDepth 100000
/-! Z2d: calls of defs, of built-ins, of methods; slices -/
namespace Z
open PySem PySem.Spec PyProof.Rows L2

section
variable {X : Cx} {a b c e : Expr} {es : List Expr} {wa wb wc w : Ev} {was : Av} {pos p apos : Pos} {x : Str}
/-- x is a def of the module, g its promise over values -/
structure FnZ (X : Cx) (x : Str) (g : Gs) : Prop where
  gl : x ≠ "__debug__"
  ex : ∃ (k : Nat) (f : Addr), FnR X.prog X.w X.K X.mg X.base CX0 k f (spG X.K g) ∧ Room k X.A ∧ PySem.W.keepIn X.K (.ref f) = true ∧ X.mg x = some (.ref f)
def noStars (es : List Expr) : Bool := es.all fun e => !isStar e
theorem starEach_all {env : PySem.Env} : ∀ {es : List Expr}, (starEach es env).any (·.1) = es.any isStar
  | [] => rfl
  | e :: es => by
    cases e <;> first
      | (rw [starEach_plain rfl, List.any_cons, List.any_cons, starEach_all]; rfl)
      | (show ((true, _) :: starEach es env).any (·.1) = _; rw [List.any_cons, List.any_cons]; rfl)
theorem backTo_any {pos : Pos} (l : List (Bool × Sem Value)) : (backTo pos l).any (·.1) = l.any (·.1) := by
  unfold backTo
  rw [List.any_map]
  rfl
theorem z_call {g : Gs} (F : FnZ X x g) (hg : Gl X x) (h0 : isStar e = false) (ha : PA X (e :: es) (tA X.K was)) : PE X (.Call (.Name x p) (e :: es) [] pos) (tE X.K (cCall g was)) := by
  obtain ⟨k, f, FR, hr, hk, hm⟩ := F.ex
  have hd : (x == ("__debug__" : Str)) = false := by simpa using F.gl
  refine ⟨fun pins s σ H Q I h => ?_⟩
  refine wpAny_Call_Name_kw (ld_glob I hg hm ?_ hd)
  have h' := tE_call (E := E0) σ H Q h
  have body : wpAny (model X.prog X.w) X.A (spliced (backTo pos (starEach (e :: es) X.env))) (fun vs s₁ => X.K.In s₁.heap ∧ wpAny (model X.prog X.w) X.A (call (.ref f) ([] ++ vs)) (EP X pins σ Q) X.xe s₁) X.xe s :=
    thn (ha.run pos pins s σ H _ I h') fun us s1 ⟨vs, H1, I1, r, q⟩ => ⟨I1.kIn, wpAny_call (run_fnR FR hr pass0 I1 r q)⟩
  by_cases hst : es.any isStar = true
  · exact PySem.W.callWith_S2 (h₀ := X.base) I.ok.mod.kin hk body (starEach_plain h0) (by rw [backTo_any, starEach_all]; exact hst)
  · exact PySem.W.callWith_K (h₀ := X.base) I.ok.mod.kin hk body (starEach_plain h0) (by rw [backTo_any, starEach_all]; exact Bool.eq_false_iff.mpr hst)
theorem z_callS {g : Gs} {sp_ : Pos} (F : FnZ X x g) (hg : Gl X x) (he : PE X e (tE X.K wa)) : PE X (.Call (.Name x p) [.Starred e sp_] [] pos) (tE X.K (cCall g (aStar wa aNil))) := by
  obtain ⟨k, f, FR, hr, hk, hm⟩ := F.ex
  have hd : (x == ("__debug__" : Str)) = false := by simpa using F.gl
  refine (StX.pe_callS1 (E := E0) FR hr hk hg hm pass0 he hd).imp fun σ H Q q => ?_
  obtain ⟨W, ρ, h, K0, E, R, w, f⟩ := q
  refine ⟨W, ρ, h, _, E, R, w, fun dx h1 W1 H1 vx k1 p1 R1 rx => ?_⟩
  obtain ⟨xs, e2, k1⟩ := k1
  obtain ⟨a, vs, e1, q, rs⟩ := seqOf_ok e2 R1 rx
  have k1 : g (xs ++ []) h1 K0 := k1
  rw [List.append_nil] at k1
  exact ⟨a, vs, e1, q.symm, W1, h1, xs, K0, R1, rs, k1, Fo.step f p1⟩

/-! built-ins by name -/
theorem z_B {id : String} {o : Wn} (hc : CallR X (.builtin id) (rsW X.K o)) (hg : Gl X x) (hm : X.mg x = none) (hv : bootBuiltins x = some (.builtin id)) (hn : x ≠ "__name__") (hd : x ≠ "__debug__") (h0 : noStars (e :: es) = true)
    (ha : PA X (e :: es) (tA X.K was)) : PE X (.Call (.Name x p) (e :: es) [] pos) (tE X.K (cB o was)) := by
  have h1 : isStar e = false ∧ es.any isStar = false := by
    simp only [noStars, List.all_cons, Bool.and_eq_true, Bool.not_eq_true'] at h0
    refine ⟨h0.1, ?_⟩
    rw [List.any_eq_false]
    intro y hy
    have := List.all_eq_true.mp h0.2 y hy
    simpa using this
  exact (pe_callB hc hg hm hv ha hn (by simpa using hd) (starEach_plain h1.1) (by rw [backTo_any, starEach_all]; exact h1.2)).imp tE_B
theorem z_Ty {T : String} {o : Wn} (hc : CallR X (.type T) (rsW X.K o)) (hg : Gl X x) (hm : X.mg x = none) (hv : bootBuiltins x = some (.type T)) (hn : x ≠ "__name__") (hd : x ≠ "__debug__") (h0 : noStars (e :: es) = true)
    (ha : PA X (e :: es) (tA X.K was)) : PE X (.Call (.Name x p) (e :: es) [] pos) (tE X.K (cB o was)) := by
  have h1 : isStar e = false ∧ es.any isStar = false := by
    simp only [noStars, List.all_cons, Bool.and_eq_true, Bool.not_eq_true'] at h0
    refine ⟨h0.1, ?_⟩
    rw [List.any_eq_false]
    intro y hy
    have := List.all_eq_true.mp h0.2 y hy
    simpa using this
  exact (pe_callTy hc hg hm hv ha hn (by simpa using hd) (starEach_plain h1.1) (by rw [backTo_any, starEach_all]; exact h1.2)).imp tE_B

/-- len -/
def bLen1 (h : MH) (d : D) (K : D → MH → Prop) : Prop := match d with
  | .str z => z.length ≤ sizeLine ∧ K (.int z.length) h
  | d => (∃ xs, seqOf h d = some xs ∧ (xs.length ≤ sizeLine → K (.int xs.length) h)) ∨ (∃ kvs, dicOf h d = some kvs ∧ K (.int kvs.length) h)
def bLen : Wn := fun h ds K => match ds with
  | [d] => bLen1 h d K
  | _ => False
theorem Reps.one {F : PySem.W.Frag} {W : Vw} {H : Hp} {d : D} {vs : List V} (r : Reps F W H [d] vs) : ∃ v, vs = [v] ∧ Rep F W H d v := by
  obtain ⟨y, ys, e, r1, r2⟩ := r.inv
  cases r2.nil_inv
  exact ⟨y, e, r1⟩
theorem Reps.two {F : PySem.W.Frag} {W : Vw} {H : Hp} {d d' : D} {vs : List V} (r : Reps F W H [d, d'] vs) : ∃ v v', vs = [v, v'] ∧ Rep F W H d v ∧ Rep F W H d' v' := by
  obtain ⟨y, ys, e, r1, r2⟩ := r.inv
  obtain ⟨v', e2, r3⟩ := r2.one
  subst e2
  exact ⟨y, v', e, r1, r3⟩
theorem call_bLen : CallR X (.builtin "len") (rsW X.K bLen) := by
  intro pins s σ H vs us Q I r hh
  obtain ⟨W, h, ds, K0, R, rs, w, f⟩ := hh
  match ds, rs, w with
  | [], _, w => exact w.elim
  | [d], rs, w =>
    obtain ⟨v, rfl, rd⟩ := rs.one
    have rest : ((∃ xs, seqOf h d = some xs ∧ (xs.length ≤ sizeLine → K0 (.int xs.length) h)) ∨ (∃ kvs, dicOf h d = some kvs ∧ K0 (.int kvs.length) h)) → wpAny (model X.prog X.w) X.A (call (.builtin "len") us) (EP X pins σ Q) X.xe s := fun w => by
      rcases w with ⟨xs, e, k⟩ | ⟨kvs, e, k⟩
      · obtain ⟨a, vs, rfl, q, rx⟩ := seqOf_ok e R rd
        have hz : xs.length ≤ sizeLine := by
          rw [← rx.length]
          rcases q with q | q
          · obtain ⟨its, rv, pl, hz⟩ := I.list q
            exact hz
          · obtain ⟨its, rv, pl, hz⟩ := I.tuple q
            exact hz
        exact call_len_seq pins s σ H _ us Q I r ⟨a, vs, rfl, q, f.here R (k hz) (by rw [rx.length]; exact .int _)⟩
      · obtain ⟨a, ks, rfl, q, rx⟩ := dicOf_ok e R rd
        obtain ⟨u, rfl, ru⟩ := r.one
        cases ru
        exact d_len I q fun t s' I' => ⟨.int ks.length, H, I', ⟨_, rfl⟩, f.here R k (by rw [rx.length]; exact .int _)⟩
    cases d with
    | str z =>
      cases rd.str_inv
      exact call_len_str pins s σ H _ us Q I r ⟨z, rfl, w.1, f.here R w.2 (.int _)⟩
    | _ => exact rest w
  | _ :: _ :: _, _, w => exact w.elim
theorem lstOf_bls {F : PySem.W.Frag} {W : Vw} {H : Hp} : ∀ {bs : List Bool} {vs : List V}, Reps F W H (bs.map .bl) vs → vs = bs.map V.bl
  | [], _, r => r.nil_inv
  | b :: bs, _, r => by
    obtain ⟨y, ys, rfl, r1, r2⟩ := r.inv
    rw [r1.bl_inv, lstOf_bls r2]
    rfl
theorem lstOf_ints {F : PySem.W.Frag} {W : Vw} {H : Hp} : ∀ {bs : List Int} {vs : List V}, Reps F W H (bs.map .int) vs → vs = bs.map V.int
  | [], _, r => r.nil_inv
  | b :: bs, _, r => by
    obtain ⟨y, ys, rfl, r1, r2⟩ := r.inv
    rw [r1.int_inv, lstOf_ints r2]
    rfl
theorem lstOf_strs {F : PySem.W.Frag} {W : Vw} {H : Hp} : ∀ {bs : List Str} {vs : List V}, Reps F W H (bs.map .str) vs → vs = bs.map V.str
  | [], _, r => r.nil_inv
  | b :: bs, _, r => by
    obtain ⟨y, ys, rfl, r1, r2⟩ := r.inv
    rw [r1.str_inv, lstOf_strs r2]
    rfl
/-- a built-in of one list of truth values -/
def bBools (g : List Bool → Bool) : Wn := fun h ds K => match ds with
  | [d] => ∃ bs : List Bool, lstOf h d = some (bs.map .bl) ∧ K (.bl (g bs)) h
  | _ => False
theorem call_bBools {id : String} {g : List Bool → Bool} (hc : CallR X (.builtin id) (fun vs H Q => ∃ (a : Addr) (bs : List Bool), vs = [V.ref a] ∧ SqL X.K H a (bs.map V.bl) ∧ Q (.bl (g bs)) H)) : CallR X (.builtin id) (rsW X.K (bBools g)) := by
  intro pins s σ H vs us Q I r hh
  obtain ⟨W, h, ds, K0, R, rs, w, f⟩ := hh
  match ds, rs, w with
  | [], _, w => exact w.elim
  | [d], rs, w =>
    obtain ⟨v, rfl, rd⟩ := rs.one
    obtain ⟨bs, e, k⟩ := w
    obtain ⟨a, vs, rfl, q, rx⟩ := lstOf_ok e R rd
    cases lstOf_bls rx
    exact hc pins s σ H _ us Q I r ⟨a, bs, rfl, .inl (.inl q), f.here R k (.bl _)⟩
  | _ :: _ :: _, _, w => exact w.elim
theorem call_bAll (hc : X.calm = true) : CallR X (.builtin "all") (rsW X.K (bBools fun bs => bs.all id)) := call_bBools (cr_all hc)
theorem call_bAny (hc : X.calm = true) : CallR X (.builtin "any") (rsW X.K (bBools fun bs => bs.any id)) := call_bBools (cr_any hc)
/-- tuple(x) -/
def bTuple : Wn := fun h ds K => match ds with
  | [d] => ∃ xs, seqOf h d = some xs ∧ K (.tup xs) h
  | _ => False
theorem call_bTuple : CallR X (.type "tuple") (rsW X.K bTuple) := by
  intro pins s σ H vs us Q I r hh
  obtain ⟨W, h, ds, K0, R, rs, w, f⟩ := hh
  match ds, rs, w with
  | [], _, w => exact w.elim
  | [d], rs, w =>
    obtain ⟨v, rfl, rd⟩ := rs.one
    obtain ⟨xs, e, k⟩ := w
    cases d with
    | tup ys =>
      cases e
      obtain ⟨a, vs, rfl, q, rx⟩ := rd.tup_inv
      exact call_tuple_of pins s σ H _ us Q I r ⟨a, vs, rfl, .inr ⟨q.sq, f.here R k rd⟩⟩
    | lst ys =>
      obtain ⟨a, vs, rfl, q, rx⟩ := lstOf_ok (d := .lst ys) e R rd
      exact call_tuple_of pins s σ H _ us Q I r ⟨a, vs, rfl, .inl ⟨.inl (.inl q), fun p hp => f.tup R hp k rx⟩⟩
    | ref n =>
      obtain ⟨a, vs, rfl, q, rx⟩ := lstOf_ok (d := .ref n) e R rd
      exact call_tuple_of pins s σ H _ us Q I r ⟨a, vs, rfl, .inl ⟨.inl (.inl q), fun p hp => f.tup R hp k rx⟩⟩
    | _ => simp [seqOf, lstOf] at e
  | _ :: _ :: _, _, w => exact w.elim
/-- list(x) -/
def bList1 (mu : Bool) (h : MH) (d : D) (K : D → MH → Prop) : Prop := match d with
  | .scr ns => mkL mu (ns.map .int) h K
  | d => ∃ xs, seqOf h d = some xs ∧ mkL mu xs h K
def bList (mu : Bool) : Wn := fun h ds K => match ds with
  | [d] => bList1 mu h d K
  | _ => False
theorem call_bList (mu : Bool) : CallR X (.type "list") (rsW X.K (bList mu)) := by
  intro pins s σ H vs us Q I r hh
  obtain ⟨W, h, ds, K0, R, rs, w, f⟩ := hh
  match ds, rs, w with
  | [], _, w => exact w.elim
  | [d], rs, w =>
    obtain ⟨v, rfl, rd⟩ := rs.one
    have rest : (∃ xs, seqOf h d = some xs ∧ mkL mu xs h K0) → wpAny (model X.prog X.w) X.A (call (.type "list") us) (EP X pins σ Q) X.xe s := fun w => by
      obtain ⟨xs, e, k⟩ := w
      obtain ⟨a, vs, rfl, q, rx⟩ := seqOf_ok e R rd
      exact call_list_of pins s σ H _ us Q I r ⟨a, vs, rfl, q, fun p hp => f.lst R hp k rx⟩
    cases d with
    | scr ns =>
      rw [Rep] at rd
      obtain ⟨a, rfl, q⟩ := rd
      exact call_list_of pins s σ H _ us Q I r ⟨a, _, rfl, .inl q.sq, fun p hp => f.lst R hp w (Reps.map_f _ _ (fun i => .int i) ns)⟩
    | _ => exact rest w
  | _ :: _ :: _, _, w => exact w.elim
/-- sorted(x): data -/
def sortD (xs : List D) : List D := xs.mergeSort (PySem.W.dataLe false D.pd)
def srtOk (xs : List D) : Prop := PySem.W.AllAlike (xs.map D.pd) ∧ (PySem.W.Sortable (xs.map D.pd) ∨ Sort0 (xs.map D.pd))
theorem reps_sorted {F : PySem.W.Frag} {W : Vw} {H : Hp} : ∀ {ys : List D} {out : List Value}, PySem.W.EachIs (fun u d => ∃ v, RelV v u ∧ Rep F W H d v) out ys → ∃ vs, Vals vs out ∧ Reps F W H ys vs
  | _, _, .nil => ⟨[], .nil, .nil⟩
  | _, _, .cons ⟨v, r1, r2⟩ t => by
    obtain ⟨vs, q1, q2⟩ := reps_sorted t
    exact ⟨v :: vs, .cons r1 q1, .cons r2 q2⟩
theorem reps_each {F : PySem.W.Frag} {W : Vw} {H : Hp} : ∀ {xs : List D} {vs : List V} {us : List Value}, Reps F W H xs vs → Vals vs us → PySem.W.EachIs (fun u d => ∃ v, RelV v u ∧ Rep F W H d v) us xs
  | [], _, _, r, q => by
    cases r.nil_inv
    cases q
    exact .nil
  | x :: xs, _, _, r, q => by
    obtain ⟨y, ys, rfl, r1, r2⟩ := r.inv
    cases q with
    | cons q1 q2 => exact .cons ⟨y, q1, r1⟩ (reps_each r2 q2)
theorem each_reads {pins : List (Addr × PySem.Obj)} {s : Shared} {σ : L2.St} {H : Hp} (I : Inv X pins σ H s) {W : Vw} : ∀ {xs : List D} {us : List Value}, D.oks 50 xs = true → PySem.W.EachIs (fun u d => ∃ v, RelV v u ∧ Rep X.K W H d v) us xs →
    PySem.W.EachIs (fun u d => ∃ as, Reads s.heap u d.pd as) us xs
  | [], _, _, e => by
    cases e
    exact .nil
  | d :: xs, _, o, e => by
    cases e with
    | cons h t =>
      obtain ⟨v, r1, r2⟩ := h
      simp only [D.oks, Bool.and_eq_true] at o
      exact .cons (Dp.reads I d.pd v _ (r2.dp (D.ok_spec _ _ o.1).1) r1) (each_reads I o.2 t)
theorem oks_depth : ∀ {xs : List D}, D.oks 50 xs = true → ∀ d ∈ xs, d.pd.depth ≤ 50
  | [], _, d, h => by simp at h
  | x :: xs, o, d, h => by
    simp only [D.oks, Bool.and_eq_true] at o
    rcases List.mem_cons.mp h with h | h
    · subst h
      exact (D.ok_spec _ _ o.1).2.2
    · exact oks_depth o.2 d h
/-- sorted of a list or tuple of data -/
def bSorted (mu : Bool) : Wn := fun h ds K => match ds with
  | [d] => ∃ xs, seqOf h d = some xs ∧ D.oks 50 xs = true ∧ srtOk xs ∧ mkL mu (sortD xs) h K
  | _ => False
theorem call_bSorted (hu : X.A.units + 64 < cLine) (mu : Bool) : CallR X (.builtin "sorted") (rsW X.K (bSorted mu)) := by
  intro pins s σ H vs us Q I r hh
  obtain ⟨W, h, ds, K0, R, rs, w, f⟩ := hh
  match ds, rs, w with
  | [], _, w => exact w.elim
  | [d], rs, w =>
    obtain ⟨v, rfl, rd⟩ := rs.one
    obtain ⟨xs, e, ok, ⟨al, sb⟩, k⟩ := w
    obtain ⟨a, vs, rfl, q, rx⟩ := seqOf_ok e R rd
    obtain ⟨u, rfl, ru⟩ := r.one
    cases ru
    have hd := oks_depth ok
    have fin : ∀ {its : List Value}, Vals vs its → ∀ out, out.length = xs.length → PySem.W.EachIs (fun u d => ∃ v, RelV v u ∧ Rep X.K W H d v) out (xs.mergeSort (PySem.W.dataLe false D.pd)) → xs.length ≤ sizeLine → EP X pins σ Q (.ref (s.heap.objs.size + 1)) { s with heap := sortedAll s.heap its (List.toArray out) } := fun {its} rv out ho eo hz => by
      obtain ⟨ws, q1, q2⟩ := reps_sorted eo
      obtain ⟨c, hc⟩ := sortedAll_at s.heap its (List.toArray out)
      have hlt : s.heap.objs.size ≤ s.heap.objs.size + 1 := Nat.le_succ _
      have hn1 : H (s.heap.objs.size + 1) = none := I.hok.fresh hlt
      have I1 : Inv X pins σ (upd H (s.heap.objs.size + 1) (.lst ws)) { s with heap := sortedAll s.heap its (List.toArray out) } := by
        refine I.laid (t' := s.toks) (fun b ob z => sortedAll_old z) hlt ?_
        exact ⟨by rw [q1.length, ho]; exact hz, out, c, q1, hc⟩
      exact ⟨.ref _, _, I1, rfl, f.lst R hn1 k q2⟩
    rcases q with q | q
    · obtain ⟨its, rv, pl, hz⟩ := I.list q
      have ea := reps_each rx rv
      have hz : xs.length ≤ sizeLine := by rw [← rx.length]; exact hz
      rcases sb with sb | sb
      · exact PySem.W.sorted_data (enc := D.pd) pl.isList ea (each_reads I ok ea) al sb hz (fun b hb => by have := hd b hb; omega) fun out ho eo => fin rv out ho eo hz
      · exact sorted_data0 (enc := D.pd) pl.isList ea (each_reads I ok ea) al sb hz (fun b hb => by have := hd b hb; omega) fun out ho eo => fin rv out ho eo hz
    · obtain ⟨its, rv, pl, hz⟩ := I.tuple q
      have ea := reps_each rx rv
      have hz : xs.length ≤ sizeLine := by rw [← rx.length]; exact hz
      rcases sb with sb | sb
      · exact sortedT (enc := D.pd) (show s.heap.IsTuple a its.toArray from pl) ea (each_reads I ok ea) al sb hz (fun b hb => by have := hd b hb; omega) fun out ho eo => fin rv out ho eo hz
      · exact sorted_dataT0 (enc := D.pd) (show s.heap.IsTuple a its.toArray from pl) ea (each_reads I ok ea) al sb hz (fun b hb => by have := hd b hb; omega) fun out ho eo => fin rv out ho eo hz
  | _ :: _ :: _, _, w => exact w.elim
end
end Z

set_option Elab.async false
set_option linter.all false
set_option maxRecDepth 100000
set_option maxHeartbeats 4000000
/-! ZV: xs[::-1] of a list or a tuple -/
namespace Z
open PySem PySem.Spec PyProof.Rows L2
section
variable {prog : Program} {w : World} {A : Around} {E : Value → Shared → Prop} {s : Shared}
theorem places_rev (n : Nat) : Builtin.Slice.slicePlaces ((n : Int) - 1) (-1) (-1) = n := by
  unfold Builtin.Slice.slicePlaces
  rw [if_neg (by decide)]
  by_cases h : n = 0
  · subst h
    rfl
  · rw [if_pos (by omega)]
    rw [show (-(-1) : Int) = 1 by decide, Int.ediv_one]
    omega
theorem applied_rev {sl : Addr} {vl vu vs : Value} {n : Nat} {Q : Int × Int × Nat → Shared → Prop} (hs : s.heap.IsSliceOf sl vl vu vs) (pl : IsPart vl none) (pu : IsPart vu none) (ps : IsPart vs (some (-1)))
    (h : Q ((n : Int) - 1, -1, n) s) : wpAny (model prog w) A (Builtin.Slice.sliceApplied (.ref sl) (pure (n : Int))) Q E s := by
  obtain ⟨os, hos, hcs, hds⟩ := id hs
  unfold Builtin.Slice.sliceApplied Builtin.Slice.sliceFields
  refine wpAny_bind (wpAny_bind (wpAny_field hos hds (x := vl) rfl (wpAny_bind (wpAny_field hos hds (x := vu) rfl (wpAny_bind (wpAny_field hos hds (x := vs) rfl (wpAny_pure ?_)))))))
  refine wpAny_bind (HT.slicePart_ ps ?_)
  show wpAny _ _ (if ((-1 : Int) == 0) = true then _ else _) _ _ s
  rw [if_neg (by decide)]
  refine wpAny_bind (HT.slicePart_ pl (wpAny_bind (HT.slicePart_ pu (wpAny_bind (wpAny_pure ?_)))))
  show wpAny _ _ (pure (((n : Int) - 1), (-1 : Int), Builtin.Slice.slicePlaces ((n : Int) - 1) (-1) (-1))) _ _ s
  rw [places_rev]
  exact wpAny_pure h
theorem pick_rev (xs : Array Value) : ((List.range xs.size).filterMap fun (m : Nat) => xs[(((xs.size : Int) - 1) + (m : Int) * (-1)).toNat]?).toArray = xs.toList.reverse.toArray := by
  have e : (List.range xs.size).filterMap (fun (m : Nat) => xs[(((xs.size : Int) - 1) + (m : Int) * (-1)).toNat]?) = ((List.range xs.size).map fun k => xs.size - 1 - k).filterMap (xs[·]?) := by
    rw [List.filterMap_map]
    have : (fun (m : Nat) => xs[(((xs.size : Int) - 1) + (m : Int) * (-1)).toNat]?) = fun m => xs[xs.size - 1 - m]? := by
      funext m
      have : (((xs.size : Int) - 1) + (m : Int) * (-1)).toNat = xs.size - 1 - m := by omega
      rw [this]
    rw [this]
    rfl
  rw [e, PySem.W.krv_range, List.filterMap_reverse, PySem.W.krv_all]
theorem getItem_tupRev {t sl : Addr} {items : Array Value} {vl vu vs : Value} {Q : Value → Shared → Prop} (ht : IsTup s.heap t items) (hs : s.heap.IsSliceOf sl vl vu vs) (pl : IsPart vl none) (pu : IsPart vu none) (ps : IsPart vs (some (-1)))
    (h : Q (.ref s.heap.objs.size) { s with heap := s.heap.push { cls := .type "tuple", data := .seq items.toList.reverse.toArray } })
    (hsz : items.size ≤ sizeLine) : wpAny (model prog w) A (getItem (.ref t) (.ref sl)) Q E s := by
  have htake : sizeOk (.seq items.toList.reverse.toArray) := by
    show items.toList.reverse.toArray.size ≤ sizeLine
    rw [List.size_toArray, List.length_reverse, Array.length_toList]
    exact hsz
  obtain ⟨os, hos, hcs, hds⟩ := id hs
  have hTs : s.TypeIs (.ref sl) "slice" := ⟨os, hos, hcs⟩
  unfold getItem
  try with_reducible refine wpAny_holding ?_
  first | refine wpAny_bind (wpAny_pure ?_) | skip
  refine wpAny_bind (wpAny_sequenceKey ht.typeIs (by decide) ?_)
  refine wpAny_bind (wpAny_callSpecial?_slot (name := Str.ofString "__getitem__") ht.typeIs PyProof.Rows.slot_tuple_getitem
    (wpAny_call_entry PyProof.Rows.slot_tuple_getitem ht.typeIs entry_tuple_getitem ?_ (args_tuple_getitem _ _)))
  show wpAny _ _ (Builtin.Tuple.tupleItemsOf (.ref t) >>= _) _ _ s
  refine wpAny_bind (tupleItemsOf_ ht ?_)
  refine wpAny_bind (wpAny_typeOf hTs ?_)
  rw [if_pos (by decide)]
  refine wpAny_bind (applied_rev hs pl pu ps ?_)
  have hno : ¬ ((((items.size : Int) - 1) == 0 && (-1 : Int) == 1 && items.size == items.size) = true) := by
    intro q
    rw [Bool.and_eq_true, Bool.and_eq_true] at q
    exact absurd q.1.2 (by decide)
  show wpAny _ _ (if (((items.size : Int) - 1) == 0 && (-1 : Int) == 1 && items.size == items.size) = true then _ else _) _ _ s
  rw [if_neg hno, pick_rev]
  first
    | exact wpAny_bind (m := Builtin.Tuple.tupleExact _) (wpAny_newObj_type (wpAny_pure ⟨_, rfl, wpAny_pure h⟩) htake)
    | exact wpAny_bind (m := Builtin.Tuple.tupleExact _) (wpAny_newObj_type (wpAny_bind (wpAny_pure (wpAny_pure ⟨_, rfl, wpAny_pure h⟩))) htake)
    | exact wpAny_bind (wpAny_bind (m := Builtin.Tuple.tupleExact _) (wpAny_newObj_type (wpAny_pure (wpAny_pure ⟨_, rfl, wpAny_pure h⟩)) htake))
    | exact wpAny_bind (wpAny_bind (m := Builtin.Tuple.tupleExact _) (wpAny_newObj_type (wpAny_pure ⟨_, rfl, wpAny_pure h⟩) htake))
end
section
variable {X : Cx}
def tRevA (K : PySem.W.Frag) (te : TE) : TE := fun σ H Q => te σ H fun x H1 => ∃ a xs, x = .ref a ∧ ((SqL K H1 a xs ∧ ∀ p, H1 p = none → Q (.ref p) (upd H1 p (.lst xs.reverse))) ∨ (SqT K H1 a xs ∧ ∀ p, H1 p = none → Q (.ref p) (upd H1 p (.tup xs.reverse))))
theorem pe_revA {e : Expr} {te : TE} {k : Nat} {p1 p2 p3 pos : Pos} (he : PE X e te) : PE X (.Subscript e (.Slice none none (some (.UnaryOp .USub (.Constant (.int 1) k p1) p2)) p3) pos) (tRevA X.K te) := by
  refine ⟨fun pins s σ H Q I h => ?_⟩
  refine Subscript_ (thn (he.run pins s σ H _ I h) fun v s1 ⟨x, H1, I1, r1, q1⟩ => ?_)
  obtain ⟨a, xs, ex, hq⟩ := q1
  subst ex
  cases r1
  have hst : PO X (some (.UnaryOp .USub (.Constant (.int 1) k p1) p2)) (tPart (tUn (rU fun i => .int (-i)) (tC (.int 1)))) := po_some (pe_un un_neg pe_int)
  refine wpAny_Slice (thn (po_none.run pins s1 σ H1 (fun o H2 => o = none ∧ H2 = H1) I1 ⟨rfl, rfl⟩) fun vl s2 ⟨l, H2, I2, pl, el, e2⟩ => ?_)
  subst el e2
  refine thn (po_none.run pins s2 σ H2 (fun o H3 => o = none ∧ H3 = H2) I2 ⟨rfl, rfl⟩) fun vu s3 ⟨u, H3, I3, pu, eu, e3⟩ => ?_
  subst eu e3
  refine thn (hst.run pins s3 σ H3 (fun o H4 => o = some (-1) ∧ H4 = H3) I3 ⟨1, rfl, -1, rfl, rfl, rfl⟩) fun vs s4 ⟨o, H4, I4, ps, eo, e4⟩ => ?_
  subst eo e4
  have I5 : Inv X pins σ H4 { s4 with heap := s4.heap.push { cls := .type "slice", data := .fields #[vl, vu, vs] } } := I4.kept (t' := s4.toks) fun b ob q => Heap.get?_push_of_some _ q
  show wpAny (model X.prog X.w) X.A (subscriptTail e (.Slice none none (some (.UnaryOp .USub (.Constant (.int 1) k p1) p2)) p3) (.ref a) (.ref s4.heap.objs.size)) (EP X pins σ Q) X.xe { s4 with heap := s4.heap.push { cls := .type "slice", data := .fields #[vl, vu, vs] } }
  rcases hq with ⟨hx, q⟩ | ⟨hx, q⟩
  · obtain ⟨its, r, ht, hz⟩ := I5.list hx
    have hlen := r.length
    refine tail_any (ops := [.ref a, .ref s4.heap.objs.size]) ht.isList.typeIs (PySem.slot_list_getitem.lookup) ?_ (by with_unfolding_all rfl)
    refine wpAny_getItem_list_slice ht.isList (Heap.IsSliceOf.new _ vl vu vs) pl pu ps (by decide) ?_ (by rw [List.size_toArray]; omega)
    rw [PySem.W.krv_pick]
    refine ⟨.ref _, _, I5.laid (t' := s4.toks) (o := .lst xs.reverse) (fun b ob q => Heap.get?_push_of_some _ q) (Nat.le_refl _) ?_, rfl, q _ (I5.hok.fresh (Nat.le_refl _))⟩
    exact ⟨by rw [List.length_reverse]; exact hz, _, 0, r.reverse, Heap.get?_push_size _ rfl⟩
  · obtain ⟨its, r, ht, hz⟩ := I5.tuple hx
    have hlen := r.length
    refine tail_any (ops := [.ref a, .ref s4.heap.objs.size]) ht.typeIs (PyProof.Rows.slot_tuple_getitem.lookup) ?_ (by with_unfolding_all rfl)
    refine getItem_tupRev ht (Heap.IsSliceOf.new _ vl vu vs) pl pu ps ?_ (by rw [List.size_toArray]; omega)
    refine ⟨.ref _, _, I5.laid (t' := s4.toks) (o := .tup xs.reverse) (fun b ob q => Heap.get?_push_of_some _ q) (Nat.le_refl _) ?_, rfl, q _ (I5.hok.fresh (Nat.le_refl _))⟩
    exact ⟨by rw [List.length_reverse]; exact hz, _, r.reverse, IsTup.new _ _⟩
end
end Z

set_option Elab.async false
set_option linter.all false
set_option maxRecDepth 100000
/-! Z2e: slices, methods, isinstance -/
namespace Z
open PySem PySem.Spec PyProof.Rows L2

section
variable {X : Cx} {a b c e o : Expr} {es : List Expr} {wa wb wc w wo : Ev} {was : Av} {pos p apos p2 cpos : Pos} {x : Str}
def tOpt (F : PySem.W.Frag) : Option Ev → TO
  | none => tNoPart
  | some w => tPart (tE F w)
theorem tOpt_of {F : PySem.W.Frag} {w : Option Ev} {σ : L2.St} {H : Hp} {Q : Option Int → Hp → Prop} {W : Vw} {ρ : Rho} {h : MH} {K : Option Int → MH → Prop} (E : RelE F W H ρ σ) (R : RelH F W h H) (k : oPart w ρ h K)
    (f : ∀ i h' W' H', K i h' → Pres W H W' H' → RelH F W' h' H' → Q i H') : tOpt F w σ H Q := by
  cases w with
  | none => exact f _ _ _ _ k (.refl W H) R
  | some w => exact tO_part E R k f
def PartZ (X : Cx) : Option Expr → Option Ev → Prop
  | none, none => True
  | some e, some w => PE X e (tE X.K w)
  | _, _ => False
theorem po_of {lo : Option Expr} {w : Option Ev} (h : PartZ X lo w) : PO X lo (tOpt X.K w) := by
  cases lo with
  | none =>
    cases w with
    | none => exact po_none
    | some w => exact h.elim
  | some e =>
    cases w with
    | none => exact h.elim
    | some w => exact po_some h
theorem z_sl (mu : Bool) {lo hi : Option Expr} {wl wh : Option Ev} (he : PE X e (tE X.K wa)) (hl : PartZ X lo wl) (hh : PartZ X hi wh) : PE X (.Subscript e (.Slice lo hi none p2) pos) (tE X.K (cSl mu wa wl wh)) := by
  refine (pe_slice (sl_wSl mu) he (po_of hl) (po_of hh)).imp fun σ H Q q => ?_
  obtain ⟨W, ρ, h, K0, E, R, w, f⟩ := q
  refine ⟨W, ρ, h, _, E, R, w, fun dx h1 W1 H1 vx k1 p1 R1 rx => ?_⟩
  refine tOpt_of (E.pres p1) R1 k1 fun i h2 W2 H2 k2 p2 R2 => ?_
  refine tOpt_of ((E.pres p1).pres p2) R2 k2 fun j h3 W3 H3 k3 p3 R3 => ?_
  exact ⟨W3, h3, dx, K0, R3, (rx.pres p2).pres p3, k3, Fo.step f ((p1.trans p2).trans p3)⟩
theorem z_rev (mu : Bool) {k : Nat} {p1 p3 : Pos} (he : PE X e (tE X.K wa)) : PE X (.Subscript e (.Slice none none (some (.UnaryOp .USub (.Constant (.int 1) k p1) p2)) p3) pos) (tE X.K (cRev mu wa)) := by
  refine (pe_revA he).imp fun σ H Q q => ?_
  obtain ⟨W, ρ, h, K0, E, R, w, f⟩ := q
  refine ⟨W, ρ, h, _, E, R, w, fun dx h1 W1 H1 vx k1 p1 R1 rx => ?_⟩
  have rest : (∃ xs, lstOf h1 dx = some xs ∧ mkL mu xs.reverse h1 K0) → ∃ a xs, vx = V.ref a ∧ ((SqL X.K H1 a xs ∧ ∀ p, H1 p = none → Q (.ref p) (upd H1 p (.lst xs.reverse))) ∨ (SqT X.K H1 a xs ∧ ∀ p, H1 p = none → Q (.ref p) (upd H1 p (.tup xs.reverse)))) := fun k1 => by
    obtain ⟨xs, e1, k⟩ := k1
    obtain ⟨a, vs, rfl, q, rs⟩ := lstOf_ok e1 R1 rx
    exact ⟨a, vs, rfl, .inl ⟨.inl (.inl q), fun p hp => Fo.lst (Fo.step f p1) R1 hp k rs.reverse⟩⟩
  cases dx with
  | tup xs =>
    obtain ⟨a, vs, rfl, q, rs⟩ := rx.tup_inv
    refine ⟨a, vs, rfl, .inr ⟨q.sq, fun p hp => ?_⟩⟩
    have n1 := R1.free hp
    exact (Fo.step f p1) _ h1 W1 _ _ k1 (Pres.new n1 hp (.tup vs.reverse)) (R1.new hp (.tup vs.reverse)) (Rep.tupNew n1 hp rs.reverse)
  | _ => exact rest k1

/-! methods of built-in types, by the receiver's type -/
def tyD (h : MH) : D → Option String
  | .str _ => some "str"
  | .lst _ => some "list"
  | .ref n => match h[n]? with
    | some (.lst _) => some "list"
    | some (.dic _) => some "dict"
    | _ => none
  | _ => none
theorem tyD_ok {F : PySem.W.Frag} {W : Vw} {H : Hp} {h : MH} {d : D} {v : V} {T : String} (e : tyD h d = some T) (R : RelH F W h H) (r : Rep F W H d v) : tyV F T v H := by
  cases d with
  | str z =>
    cases e
    cases r.str_inv
    rfl
  | lst xs =>
    cases e
    obtain ⟨a, vs, rfl, q, _⟩ := lstOf_ok (d := .lst xs) rfl R r
    exact .inl ⟨rfl, vs, .inl (.inl q)⟩
  | ref n =>
    rw [Rep] at r
    obtain ⟨a, rfl, q⟩ := r
    unfold tyD at e
    cases eo : h[n]? with
    | none => simp [eo] at e
    | some ob =>
      cases ob with
      | lst ys =>
        simp [eo] at e
        subst e
        obtain ⟨vs, q1, _⟩ := R.at_ n _ a eo q
        exact .inl ⟨rfl, vs, .inl (.inl q1)⟩
      | dic ys =>
        simp [eo] at e
        subst e
        obtain ⟨ks, q1, _⟩ := R.at_ n _ a eo q
        exact .inr (.inr (.inl ⟨rfl, .inl ⟨ks, q1⟩⟩))
      | lck _ => simp [eo] at e
  | _ => simp [tyD] at e
/-- a method's rule at a type -/
def MtZ (X : Cx) (name : Str) (T : String) (o : Wm) : Prop := ∃ id : String, PlainAttrs T ∧ Slot T name id ∧ typeOf (.builtin id) = pure (.type "method_descriptor") ∧ MtR X id (rmW X.K o)
def cMe (sup : List String) (o : String → Wm) (a : Ev) (as : Av) : Ev := fun ρ h Q => a ρ h fun x h1 => ∃ T, tyD h1 x = some T ∧ T ∈ sup ∧ as ρ h1 fun ds h2 => o T h2 x ds Q
def mFew (es : List Expr) : Bool := noStars es && decide (es.length < 20)
theorem few_ok (h : mFew es = true) : ((backTo cpos (starEach es X.env)).all (fun x => !x.1) && (backToKw cpos (keywordEach [] X.env)).all (fun x => x.1.isSome)
      && decide (es.length + ([] : List Keyword).length + (if ([] : List Keyword).isEmpty then 0 else 1) < 30)) = true := by
  simp only [mFew, Bool.and_eq_true, decide_eq_true_eq] at h
  have h1 : (backTo cpos (starEach es X.env)).any (·.1) = false := by
    rw [backTo_any, starEach_all, List.any_eq_false]
    intro y hy
    have := List.all_eq_true.mp h.1 y hy
    simpa using this
  have h2 : (backTo cpos (starEach es X.env)).all (fun x => !x.1) = true := by
    rw [List.all_eq_true]
    intro y hy
    have := List.any_eq_false.mp h1 y hy
    simpa using this
  rw [h2]
  have h3 : (backToKw cpos (keywordEach [] X.env)).all (fun x => x.1.isSome) = true := rfl
  rw [h3]
  simp
  omega
theorem z_meth {name : Str} {wm : String → Wm} {sup : List String} (hm : ∀ T ∈ sup, MtZ X name T (wm T)) (hbase : attributeBase o name X.env (eval o X.env) = eval o X.env) (hf : mFew (e :: es) = true) (hline : (apos.endLine == cpos.line) = true)
    (ho : PE X o (tE X.K wo)) (ha : PA X (e :: es) (tA X.K was)) : PE X (.Call (.Attribute o name apos) (e :: es) [] cpos) (tE X.K (cMe sup wm wo was)) := by
  have hs : isStar e = false := by
    simp only [mFew, noStars, List.all_cons, Bool.and_eq_true, Bool.not_eq_true'] at hf
    exact hf.1.1
  have hst : es.any isStar = false := by
    simp only [mFew, noStars, List.all_cons, Bool.and_eq_true, Bool.not_eq_true'] at hf
    rw [List.any_eq_false]
    intro y hy
    have := List.all_eq_true.mp hf.1.2 y hy
    simpa using this
  refine ⟨fun pins s σ H Q I hq => ?_⟩
  obtain ⟨W, ρ, h, K0, E, R, w, f⟩ := hq
  have hq' : tE X.K wo σ H (fun x H1 => ∃ T, T ∈ sup ∧ tyV X.K T x H1 ∧ tA X.K was σ H1 (fun xs H2 => rmW X.K (wm T) x xs H2 Q)) := by
    refine ⟨W, ρ, h, _, E, R, w, fun dx h1 W1 H1 vx k1 p1 R1 rx => ?_⟩
    obtain ⟨T, e1, hT, k1⟩ := k1
    refine ⟨T, hT, tyD_ok e1 R1 rx, W1, ρ, h1, _, E.pres p1, R1, k1, fun ds h2 W2 H2 vs k2 p2 R2 rs => ?_⟩
    exact ⟨W2, h2, dx, ds, K0, R2, rx.pres p2, rs, k2, Fo.step f (p1.trans p2)⟩
  refine wpAny_Call_method_late hbase (few_ok hf) hline rfl (thn (ho.run pins s σ H _ I hq') fun v s1 ⟨x, H1, I1, r1, T, hT, ty, q1⟩ => ?_)
  obtain ⟨id, pa, slot, hty, hmt⟩ := hm T hT
  obtain ⟨h1, h2⟩ := tyV_is I1 r1 ty
  refine ⟨T, id, pa, slot, hty, h1, h2, ?_⟩
  have hA := ha.run cpos pins s1 σ H1 _ I1 q1
  rw [starEach_plain hs] at hA ⊢
  refine Calls.callWith_builtin (by show (false || (backTo cpos (starEach es X.env)).any (·.1)) = false; rw [backTo_any, starEach_all, hst] <;> rfl) (Calls.evalArgs_plain ?_)
  exact thn hA fun us s2 ⟨vs, H2, I2, r2, q2⟩ => hmt pins s2 σ H2 x vs v us Q I2 r1 r2 q2
/-- o.m() -/
theorem z_meth0 {name : Str} {wm : String → Wm} {sup : List String} (hm : ∀ T ∈ sup, MtZ X name T (wm T)) (hbase : attributeBase o name X.env (eval o X.env) = eval o X.env) (hline : (apos.endLine == cpos.line) = true)
    (ho : PE X o (tE X.K wo)) : PE X (.Call (.Attribute o name apos) [] [] cpos) (tE X.K (cMe sup wm wo aNil)) := by
  refine ⟨fun pins s σ H Q I hq => ?_⟩
  obtain ⟨W, ρ, h, K0, E, R, w, f⟩ := hq
  have hq' : tE X.K wo σ H (fun x H1 => ∃ T, T ∈ sup ∧ tyV X.K T x H1 ∧ rmW X.K (wm T) x [] H1 Q) := by
    refine ⟨W, ρ, h, _, E, R, w, fun dx h1 W1 H1 vx k1 p1 R1 rx => ?_⟩
    obtain ⟨T, e1, hT, k1⟩ := k1
    exact ⟨T, hT, tyD_ok e1 R1 rx, W1, h1, dx, [], K0, R1, rx, .nil, k1, Fo.step f p1⟩
  refine wpAny_Call_method0_late hbase hline (thn (ho.run pins s σ H _ I hq') fun v s1 ⟨x, H1, I1, r1, T, hT, ty, q1⟩ => ?_)
  obtain ⟨id, pa, slot, hty, hmt⟩ := hm T hT
  obtain ⟨h1, h2⟩ := tyV_is I1 r1 ty
  exact ⟨T, id, pa, slot, hty, h1, h2, Calls.callWith_builtin rfl (PySem.evalArgs_none (hmt pins s1 σ H1 x [] v [] Q I1 r1 .nil q1))⟩

/-- xs.append(d) -/
def mAppend : Wm := fun h x ds K => ∃ n xs d, x = .ref n ∧ ds = [d] ∧ h[n]? = some (.lst xs) ∧ xs.length < sizeLine ∧ K .non (h.set n (.lst (xs ++ [d])))
theorem Fo.write {F : PySem.W.Frag} {W : Vw} {H : Hp} {K0 : D → MH → Prop} {Q : VK} {h : MH} (f : Fo F W H K0 Q) (R : RelH F W h H) {n : Nat} {a : Addr} (e : W.m[n]? = some a) {u : HO} {ob : O} (r : RepO F W (upd H a u) ob a)
    {d : D} {v : V} (rd : Rep F W (upd H a u) d v) (k : K0 d (h.set n ob)) (nf : ∀ o u, H a ≠ some (.frz o u)) : Q v (upd H a u) :=
  f _ _ W _ _ k (Pres.write a u (R.sub a (List.mem_of_getElem? e)) nf (List.mem_of_getElem? e)) (R.write e r) rd
theorem nf_of {H : Hp} {a : Addr} {u : HO} (h : H a = some u) (hu : ∀ o u', u ≠ .frz o u') : ∀ o u', H a ≠ some (.frz o u') := fun o u' e => by
  rw [h] at e
  exact hu o u' (Option.some.inj e)
theorem ref_inv {F : PySem.W.Frag} {W : Vw} {H : Hp} {n : Nat} {v : V} (r : Rep F W H (.ref n) v) : ∃ a, v = .ref a ∧ W.m[n]? = some a := by
  rw [Rep] at r
  exact r
theorem mtz_append : MtZ X "append" "list" mAppend := by
  refine ⟨"list.append", PySem.F.plainAttrs_list, PySem.F.slot_list_append, PySem.F.type_list_append, ?_⟩
  intro pins s σ H xv vs v us Q I rx rv hh
  obtain ⟨W, h, d, ds, K0, R, r1, rs, w, f⟩ := hh
  obtain ⟨n, xs, d1, rfl, rfl, e, hz, k⟩ := w
  obtain ⟨a, rfl, ea⟩ := ref_inv r1
  obtain ⟨ws, q1, q2⟩ := R.at_ n _ a e ea
  obtain ⟨y, rfl, ry⟩ := rs.one
  have P := R.sub a (List.mem_of_getElem? ea)
  have nf := nf_of q1 (fun o u' z => by cases z)
  exact mt_append pins s σ H _ _ v us Q I rx rv ⟨a, ws, y, rfl, rfl, q1, by rw [q2.length]; exact hz,
    f.write (ob := .lst (xs ++ [d1])) R ea ⟨_, upd_same, (q2.append (.cons ry .nil)).write P⟩ .non k nf⟩
/-- xs.pop(), xs.pop(i) -/
def mPopL : Wm := fun h x ds K => ∃ n xs, x = .ref n ∧ h[n]? = some (.lst xs) ∧
  ((∃ y, ds = [] ∧ xs[xs.length - 1]? = some y ∧ K y (h.set n (.lst xs.dropLast))) ∨
   (∃ i k y, ds = [.int i] ∧ -(2 ^ 63) ≤ i ∧ i < 2 ^ 63 ∧ seqIndex? i xs.length = some k ∧ xs[k]? = some y ∧ K y (h.set n (.lst (xs.eraseIdx k)))))
/-- d.pop(k) -/
def mPopD : Wm := fun h x ds K => ∃ n kvs kd k y, x = .ref n ∧ h[n]? = some (.dic kvs) ∧ ds = [kd] ∧ toKey kd = some k ∧ getKV kvs k = some y ∧ K y (h.set n (.dic (dropKV kvs k)))
theorem dropLast_reps {F : PySem.W.Frag} {W : Vw} {H : Hp} {xs : List D} {vs : List V} (r : Reps F W H xs vs) : Reps F W H xs.dropLast vs.dropLast := by
  rw [List.dropLast_eq_take, List.dropLast_eq_take, r.length]
  exact r.take _
theorem mtz_popL : MtZ X "pop" "list" mPopL := by
  refine ⟨"list.pop", PySem.F.plainAttrs_list, PySem.F.slot_list_pop, PySem.F.type_list_pop, ?_⟩
  intro pins s σ H xv vs v us Q I rx rv hh
  obtain ⟨W, h, d, ds, K0, R, r1, rs, w, f⟩ := hh
  obtain ⟨n, xs, rfl, e, w⟩ := w
  obtain ⟨a, rfl, ea⟩ := ref_inv r1
  obtain ⟨ws, q1, q2⟩ := R.at_ n _ a e ea
  rcases w with ⟨y, rfl, ey, k⟩ | ⟨i, j, y, rfl, b1, b2, ej, ey, k⟩
  · cases rs.nil_inv
    obtain ⟨z, ez, rz⟩ := q2.get ey
    have P := R.sub a (List.mem_of_getElem? ea)
    have nf := nf_of q1 (fun o u' z => by cases z)
    exact mt_pop pins s σ H _ _ v us Q I rx rv ⟨a, ws, z, rfl, rfl, q1, by rw [q2.length]; exact ez, f.write (ob := .lst xs.dropLast) R ea ⟨_, upd_same, (dropLast_reps q2).write P⟩ (rz.write P) k nf⟩
  · obtain ⟨vi, rfl, ri⟩ := rs.one
    cases ri.int_inv
    obtain ⟨z, ez, rz⟩ := q2.get ey
    have P := R.sub a (List.mem_of_getElem? ea)
    have nf := nf_of q1 (fun o u' z => by cases z)
    exact mt_popAt pins s σ H _ _ v us Q I rx rv ⟨a, ws, i, j, z, rfl, rfl, q1, b1, b2, by rw [q2.length]; exact ej, ez, f.write (ob := .lst (xs.eraseIdx j)) R ea ⟨_, upd_same, (q2.eraseIdx j).write P⟩ (rz.write P) k nf⟩
theorem mtz_popD : MtZ X "pop" "dict" mPopD := by
  refine ⟨"dict.pop", PySem.F.plainAttrs_dict, PySem.F.slot_dict_pop, PySem.F.type_dict_pop, ?_⟩
  intro pins s σ H xv vs v us Q I rx rv hh
  obtain ⟨W, h, d, ds, K0, R, r1, rs, w, f⟩ := hh
  obtain ⟨n, kvs, kd, j, y, rfl, e, rfl, ek, ey, k⟩ := w
  obtain ⟨a, rfl, ea⟩ := ref_inv r1
  obtain ⟨ks, q1, q2⟩ := R.at_ n _ a e ea
  obtain ⟨vi, rfl, ri⟩ := rs.one
  cases toKey_rep ek ri
  obtain ⟨u, rfl, ru⟩ := rv.one
  obtain ⟨z, ez, rz⟩ := (q2.get j).1 y ey
  have P := R.sub a (List.mem_of_getElem? ea)
  have nf := nf_of q1 (fun o u' z => by cases z)
  cases rx
  exact d_pop (more := []) I q1 ru ez (.inl rfl) fun w' s' I' rw' => ⟨z, _, I', rw', f.write (ob := .dic (dropKV kvs j)) R ea ⟨_, upd_same, ⟨(q2.drop j).1, (q2.drop j).2.write P⟩⟩ (rz.write P) k nf⟩
/-- d.get(k), d.get(k, x) -/
def mGet : Wm := fun h x ds K => ∃ kvs k, dicOf h x = some kvs ∧ ((∃ kd, ds = [kd] ∧ toKey kd = some k ∧ K ((getKV kvs k).getD .non) h) ∨ (∃ kd z, ds = [kd, z] ∧ toKey kd = some k ∧ K ((getKV kvs k).getD z) h))
theorem mtz_get (hu : X.A.units + 64 < cLine) : MtZ X "get" "dict" mGet := by
  refine ⟨"dict.get", PySem.F.plainAttrs_dict, PySem.F.slot_dict_get, PySem.F.type_dict_get, ?_⟩
  intro pins s σ H xv vs v us Q I rx rv hh
  obtain ⟨W, h, d, ds, K0, R, r1, rs, w, f⟩ := hh
  obtain ⟨kvs, k, e, w⟩ := w
  obtain ⟨a, ks, rfl, q1, q2⟩ := dicOf_ok e R r1
  cases rx
  have g : DGet H a (kV k) (valV ks k) := .inl ⟨ks, k, q1, rfl, rfl⟩
  have rep : ∀ {z : D} {vz : V}, Rep X.K W H z vz → Rep X.K W H ((getKV kvs k).getD z) ((valV ks k).getD vz) := fun {z vz} rz => by
    cases eg : getKV kvs k with
    | none =>
      rw [(q2.get k).2 eg]
      exact rz
    | some y =>
      obtain ⟨y', ey, ry⟩ := (q2.get k).1 y eg
      rw [ey]
      exact ry
  rcases w with ⟨kd, rfl, ek, w⟩ | ⟨kd, z, rfl, ek, w⟩
  · obtain ⟨vi, rfl, ri⟩ := rs.one
    cases toKey_rep ek ri
    obtain ⟨u, rfl, ru⟩ := rv.one
    exact d_get1 (by omega) I g ru fun w' s' I' rw' => ⟨_, H, I', rw', f.here R w (rep .non)⟩
  · obtain ⟨vi, vz, rfl, ri, rz⟩ := rs.two
    cases toKey_rep ek ri
    obtain ⟨u, u2, rfl, ru, ru2⟩ := rv.two
    exact d_get2 (by omega) I g ru ru2 fun w' s' I' rw' => ⟨_, H, I', rw', f.here R w (rep rz)⟩

/-! isinstance -/
/-- the type's name -/
def tyN (h : MH) : D → Option String
  | .non => some "NoneType"
  | .bl _ => some "bool"
  | .int _ => some "int"
  | .str _ => some "str"
  | .tup _ => some "tuple"
  | .lst _ => some "list"
  | .scr _ => none
  | .ref n => match h[n]? with
    | some (.lst _) => some "list"
    | some (.dic _) => some "dict"
    | _ => none
def isiT (n T : String) : Bool := n == T || (n == "bool" && T == "int")
theorem tyN_ok {F : PySem.W.Frag} {W : Vw} {H : Hp} {h : MH} {d : D} {v : V} {T : String} (e : tyN h d = some T) (R : RelH F W h H) (r : Rep F W H d v) : TyX F H v (.type T) := by
  cases d with
  | non =>
    cases e
    cases r.non_inv
    exact .base .non
  | bl b =>
    cases e
    cases r.bl_inv
    exact .base (.bl _)
  | int b =>
    cases e
    cases r.int_inv
    exact .base (.int _)
  | str b =>
    cases e
    cases r.str_inv
    exact .base (.str _)
  | tup xs =>
    cases e
    obtain ⟨a, vs, rfl, q, _⟩ := r.tup_inv
    rcases q with ⟨_, q | ⟨ob, q⟩⟩ | ⟨ob, its, n, hk, hc, _⟩
    · exact .base (.tup q)
    · exact .fTuple q
    · exact .kTuple hk hc
  | lst xs =>
    cases e
    obtain ⟨a, vs, rfl, q, _⟩ := lstOf_ok (d := .lst xs) rfl R r
    exact .base (.lst q)
  | scr _ => cases e
  | ref n =>
    obtain ⟨a, rfl, q⟩ := ref_inv r
    unfold tyN at e
    cases eo : h[n]? with
    | none => simp [eo] at e
    | some ob =>
      cases ob with
      | lst ys =>
        simp [eo] at e
        subst e
        obtain ⟨vs, q1, _⟩ := R.at_ n _ a eo q
        exact .base (.lst q1)
      | dic ys =>
        simp [eo] at e
        subst e
        obtain ⟨ks, q1, _⟩ := R.at_ n _ a eo q
        exact .base (.dK q1)
      | lck _ => simp [eo] at e
def tyNames : List String := ["NoneType", "bool", "int", "str", "tuple", "list", "dict"]
theorem tyN_mem {h : MH} {d : D} {T : String} (e : tyN h d = some T) : T ∈ tyNames := by
  cases d with
  | ref n =>
    unfold tyN at e
    cases eo : h[n]? with
    | none => simp [eo] at e
    | some ob =>
      cases ob with
      | lst _ => simp [eo] at e; subst e; simp [tyNames]
      | dic _ => simp [eo] at e; subst e; simp [tyNames]
      | lck _ => simp [eo] at e
  | scr _ => cases e
  | non => cases e; simp [tyNames]
  | bl _ => cases e; simp [tyNames]
  | int _ => cases e; simp [tyNames]
  | str _ => cases e; simp [tyNames]
  | tup _ => cases e; simp [tyNames]
  | lst _ => cases e; simp [tyNames]
def isiNames : List String := ["int", "str", "bool", "tuple", "list"]
theorem kit_all : (tyNames.all fun n => isiNames.all fun T => kitB n T == some (isiT n T)) = true := by decide +kernel
theorem kit_at {n T : String} (hn : n ∈ tyNames) (hT : T ∈ isiNames) : kitB n T = some (isiT n T) := by
  have := List.all_eq_true.mp (List.all_eq_true.mp kit_all n hn) T hT
  simpa using this
/-- isinstance(e, T), isinstance(e, (T, ..)) -/
def cIsi (Ts : List String) (a : Ev) : Ev := fun ρ h Q => a ρ h fun x h1 => ∃ n, tyN h1 x = some n ∧ Q (.bl (Ts.any (isiT n))) h1
theorem kitAny_at {K : PySem.W.Frag} {n : String} (hn : n ∈ tyNames) : ∀ {Ts : List String}, (∀ T ∈ Ts, T ∈ isiNames) → PySem.W.kitAny K (.type n) (Ts.map Value.type) = some (Ts.any (isiT n))
  | [], _ => rfl
  | T :: Ts, h => by
    rw [List.map_cons]
    have h1 := kit_at hn (h T (List.mem_cons_self ..))
    have ih := kitAny_at (K := K) hn (Ts := Ts) fun T' hT' => h T' (List.mem_cons_of_mem _ hT')
    refine kitAny_cons (b := isiT n T) (kit_ty h1) (fun e => ?_) fun e => ?_
    · rw [ih, List.any_cons, e, Bool.false_or]
    · rw [List.any_cons, e, Bool.true_or]
theorem z_isi1 {T : Str} {t : String} {pf pt : Pos} (hT : t ∈ isiNames) (hg : Gl X "isinstance") (hm : X.mg "isinstance" = none) (hg2 : Gl X T) (hm2 : X.mg T = none) (hv : bootBuiltins T = some (.type t)) (hn : T ≠ "__name__") (hd : T ≠ "__debug__") (h0 : isStar e = false)
    (he : PE X e (tE X.K wa)) : PE X (.Call (.Name "isinstance" pf) [e, .Name T pt] [] pos) (tE X.K (cIsi [t] wa)) := by
  have ht : PE X (.Name T pt) (tC (.ty t)) := pe_bltn hg2 hm2 hv rfl hn (by simpa using hd)
  refine (pe_callB call_isi hg hm (by decide +kernel) (pa_cons he (pa_cons ht pa_nil (starEach_plain rfl)) (starEach_plain h0)) (by decide) (by decide) (starEach_plain h0) (by rw [backTo_any, starEach_all]; rfl)).imp fun σ H Q q => ?_
  obtain ⟨W, ρ, h, K0, E, R, w, f⟩ := q
  refine ⟨W, ρ, h, _, E, R, w, fun dx h1 W1 H1 vx k1 p1 R1 rx => ?_⟩
  obtain ⟨n, en, k1⟩ := k1
  have e1 : ([t].any (isiT n)) = isiT n t := by simp
  rw [e1] at k1
  exact ⟨vx, .ty t, _, _, isiT n t, rfl, .ty t, tyN_ok en R1 rx, kit_ty (kit_at (tyN_mem en) hT), f _ _ _ _ _ k1 p1 R1 (.bl _)⟩
theorem z_isi2 {T T2 : Str} {t t2 : String} {pf pt pt2 ptt : Pos} {k : Nat} (hT : t ∈ isiNames) (hT2 : t2 ∈ isiNames) (hg : Gl X "isinstance") (hm : X.mg "isinstance" = none) (hg1 : Gl X T) (hm1 : X.mg T = none) (hv1 : bootBuiltins T = some (.type t)) (hn1 : T ≠ "__name__") (hd1 : T ≠ "__debug__")
    (hg2 : Gl X T2) (hm2 : X.mg T2 = none) (hv2 : bootBuiltins T2 = some (.type t2)) (hn2 : T2 ≠ "__name__") (hd2 : T2 ≠ "__debug__") (h0 : isStar e = false)
    (he : PE X e (tE X.K wa)) : PE X (.Call (.Name "isinstance" pf) [e, .Tuple [.Name T pt, .Name T2 pt2] k ptt] [] pos) (tE X.K (cIsi [t, t2] wa)) := by
  have ht : PE X (.Name T pt) (tC (.ty t)) := pe_bltn hg1 hm1 hv1 rfl hn1 (by simpa using hd1)
  have ht2 : PE X (.Name T2 pt2) (tC (.ty t2)) := pe_bltn hg2 hm2 hv2 rfl hn2 (by simpa using hd2)
  have htt : PE X (.Tuple [.Name T pt, .Name T2 pt2] k ptt) (tTup (tCons (tC (.ty t)) (tCons (tC (.ty t2)) tNil))) := pe_tup (pa_cons ht (pa_cons ht2 pa_nil (starEach_plain rfl)) (starEach_plain rfl))
  refine (pe_callB call_isiT hg hm (by decide +kernel) (pa_cons he (pa_cons htt pa_nil (starEach_plain rfl)) (starEach_plain h0)) (by decide) (by decide) (starEach_plain h0) (by rw [backTo_any, starEach_all]; rfl)).imp fun σ H Q q => ?_
  obtain ⟨W, ρ, h, K0, E, R, w, f⟩ := q
  refine ⟨W, ρ, h, _, E, R, w, fun dx h1 W1 H1 vx k1 p1 R1 rx => ?_⟩
  obtain ⟨n, en, k1⟩ := k1
  refine ⟨by show 2 ≤ sizeLine; decide, fun p hp => ?_⟩
  have P := Pres.new (R1.free hp) hp (.tup [V.ty t, V.ty t2])
  have R2 := R1.new hp (.tup [V.ty t, V.ty t2])
  exact ⟨vx, p, [.ty t, .ty t2], _, [.type t, .type t2], _, rfl, upd_same, .cons (.ty t) (.cons (.ty t2) .nil), tyN_ok en R2 (rx.pres P), kitAny_at (tyN_mem en) (Ts := [t, t2]) (by intro z hz; simp at hz; rcases hz with rfl | rfl <;> assumption),
    f _ _ _ _ _ k1 (p1.trans P) R2 (.bl _)⟩
end
end Z

set_option Elab.async false
set_option linter.all false
set_option maxRecDepth 100000
/-! Z2f: targets, statements, loops -/
namespace Z
open PySem PySem.Spec PyProof.Rows L2

abbrev Gv := D → Rho → MH → (Rho → MH → Prop) → Prop
def wipeR (ρ : Rho) : List Nat → Rho
  | [] => ρ
  | v :: vs => (wipeR ρ vs).set v none
theorem RelE.wipe {F : PySem.W.Frag} {W : Vw} {H : Hp} {ρ : Rho} {σ : L2.St} (h : RelE F W H ρ σ) : ∀ vs, RelE F W H (wipeR ρ vs) (L2.wipe σ vs)
  | [] => h
  | v :: vs => by
    have ih := h.wipe vs
    refine ⟨by simp only [wipeR, L2.wipe, List.length_set]; exact ih.1, fun j d e => ?_⟩
    simp only [wipeR] at e
    simp only [L2.wipe]
    by_cases hj : v = j
    · subst hj
      have hl : v < (wipeR ρ vs).length := by
        have := (List.getElem?_eq_some_iff.mp e).1
        rwa [List.length_set] at this
      rw [List.getElem?_set_self hl] at e
      cases e
    · rw [List.getElem?_set_ne hj] at e ⊢
      exact ih.2 j d e
/-- what a target's reading tells: the slots vs may have changed -/
def tG (F : PySem.W.Frag) (g : Gv) (vs : List Nat) : TG := fun v σ H Q => ∃ (W : Vw) (ρ : Rho) (h : MH) (d : D) (K0 : Rho → MH → Prop), RelE F W H ρ σ ∧ RelH F W h H ∧ Rep F W H d v ∧ g d ρ h K0 ∧
  ∀ ρ' h' W' σ' H', K0 ρ' h' → Pres W H W' H' → RelE F W' H' ρ' σ' → RelH F W' h' H' → L2.wipe σ' vs = L2.wipe σ vs → Q σ' H'
def tGs (F : PySem.W.Frag) (g : List D → Rho → MH → (Rho → MH → Prop) → Prop) (vs : List Nat) : TGs := fun us σ H Q => ∃ (W : Vw) (ρ : Rho) (h : MH) (ds : List D) (K0 : Rho → MH → Prop), RelE F W H ρ σ ∧ RelH F W h H ∧ Reps F W H ds us ∧ g ds ρ h K0 ∧
  ∀ ρ' h' W' σ' H', K0 ρ' h' → Pres W H W' H' → RelE F W' H' ρ' σ' → RelH F W' h' H' → L2.wipe σ' vs = L2.wipe σ vs → Q σ' H'
def gvName (i : Nat) : Gv := fun d ρ h K => K (ρ.set i (some d)) h
def gvNil (ds : List D) (ρ : Rho) (h : MH) (K : Rho → MH → Prop) : Prop := ds = [] ∧ K ρ h
def gvCons (g : Gv) (r : List D → Rho → MH → (Rho → MH → Prop) → Prop) (ds : List D) (ρ : Rho) (h : MH) (K : Rho → MH → Prop) : Prop := match ds with
  | [] => False
  | d :: ds => g d ρ h fun ρ' h' => r ds ρ' h' K
def gvTup (n : Nat) (g : List D → Rho → MH → (Rho → MH → Prop) → Prop) : Gv := fun d ρ h K => match d with
  | .tup xs => xs.length = n ∧ g xs ρ h K
  | _ => False
theorem wipe_set {σ : L2.St} {i : Nat} {x : Option V} : ∀ {vs : List Nat}, i ∈ vs → L2.wipe (σ.set i x) vs = L2.wipe σ vs
  | [], h => by simp at h
  | v :: vs, h => by
    simp only [L2.wipe]
    by_cases hi : i ∈ vs
    · rw [wipe_set hi]
    · have e : i = v := (List.mem_cons.mp h).resolve_right hi
      subst e
      have out : ∀ (vs : List Nat) (σ : L2.St), i ∉ vs → L2.wipe (σ.set i x) vs = (L2.wipe σ vs).set i x := by
        intro vs
        induction vs with
        | nil => intro σ _; rfl
        | cons w vs ih =>
          intro σ hn
          simp only [List.mem_cons, not_or] at hn
          simp only [L2.wipe]
          rw [ih σ hn.2, List.set_comm _ _ hn.1]
      rw [out vs σ hi, List.set_set]
section
variable {X : Cx} {e : Expr} {es : List Expr} {pos : Pos} {g : Gv} {vs : List Nat}
theorem z_gname {i : Nat} {x : Str} (hN : X.N.Nodup) (hi : X.N[i]? = some x) (hx : Loc X.env.scope x) (hf : X.fn x = true ∨ X.env.scope.names.lookup x = some .local) (hv : i ∈ vs) : PG X (.Name x pos) (tG X.K (gvName i) vs) := by
  have h := pg_name (pos := pos) hN hi hx hf
  refine ⟨fun pins s σ H v u Q I r q => h.run pins s σ H v u Q I r ?_⟩
  obtain ⟨W, ρ, h, d, K0, E, R, rd, k, f⟩ := q
  exact f _ _ _ _ _ k (.refl W H) (E.set rd) R (wipe_set hv)
theorem z_gnil : PGs X [] (tGs X.K gvNil vs) := by
  refine ⟨fun pins s σ H us ws Q I r q => pgs_nil.run pins s σ H us ws Q I r ?_⟩
  obtain ⟨W, ρ, h, ds, K0, E, R, rd, ⟨rfl, k⟩, f⟩ := q
  exact ⟨rd.nil_inv, f _ _ _ _ _ k (.refl W H) E R rfl⟩
theorem assign_plain {env : PySem.Env} (h : isStar e = false) : assignEach (e :: es) env = (false, assign e env) :: assignEach es env := by
  cases e <;> first | rfl | cases h
theorem z_gcons {r : List D → Rho → MH → (Rho → MH → Prop) → Prop} (h0 : isStar e = false) (h1 : PG X e (tG X.K g vs)) (h2 : PGs X es (tGs X.K r vs)) : PGs X (e :: es) (tGs X.K (gvCons g r) vs) := by
  have h := pgs_cons h1 h2 (by rw [assign_plain h0]; rfl)
  refine ⟨fun pins s σ H us ws Q I rr q => h.run pins s σ H us ws Q I rr ?_⟩
  obtain ⟨W, ρ, h, ds, K0, E, R, rd, k, f⟩ := q
  cases ds with
  | nil => exact k.elim
  | cons d ds =>
    obtain ⟨y, ys, rfl, r1, r2⟩ := rd.inv
    refine ⟨y, ys, rfl, W, ρ, h, d, _, E, R, r1, k, fun ρ' h' W' σ' H' k' p E' R' hw => ?_⟩
    exact ⟨W', ρ', h', ds, _, E', R', r2.pres p, k', fun ρ2 h2 W2 σ2 H2 k2 p2 E2 R2 hw2 => f _ _ _ _ _ k2 (p.trans p2) E2 R2 (hw2.trans hw)⟩
theorem assign_len {env : PySem.Env} : ∀ {es : List Expr}, (assignEach es env).length = es.length
  | [] => rfl
  | e :: es => by
    cases e <;> (show (_ :: assignEach es env).length = _; rw [List.length_cons, List.length_cons, assign_len])
theorem assign_star {env : PySem.Env} : ∀ {es : List Expr}, noStars es = true → (assignEach es env).findIdx? (·.1) = none
  | [], _ => rfl
  | e :: es, h => by
    simp only [noStars, List.all_cons, Bool.and_eq_true, Bool.not_eq_true'] at h
    rw [assign_plain h.1, List.findIdx?_cons]
    simp only [Bool.false_eq_true, if_false]
    rw [assign_star (es := es) h.2]
    rfl
theorem z_gtup {k n : Nat} {r : List D → Rho → MH → (Rho → MH → Prop) → Prop} (hc : X.calm = true) (hn : es.length = n) (hs : noStars es = true) (h : PGs X es (tGs X.K r vs)) : PG X (.Tuple es k pos) (tG X.K (gvTup n r) vs) := by
  have h' := pg_tup (k := k) (pos := pos) (n := n) hc h (by rw [assign_len]; exact hn) (assign_star hs)
  refine ⟨fun pins s σ H v u Q I rr q => h'.run pins s σ H v u Q I rr ?_⟩
  obtain ⟨W, ρ, h, d, K0, E, R, rd, k, f⟩ := q
  cases d with
  | tup xs =>
    obtain ⟨a, us, rfl, q, rs⟩ := rd.tup_inv
    exact ⟨a, us, rfl, q.sq, by rw [rs.length]; exact k.1, W, ρ, h, xs, K0, E, R, rs, k.2, f⟩
  | _ => exact k.elim
end

/-! statements -/
def sNil : Sv := fun K ρ h => K.nx ρ h
def sSeq (a b : Sv) : Sv := fun K ρ h => a { K with nx := fun ρ' h' => b K ρ' h' } ρ h
def sSet (i : Nat) (w : Ev) : Sv := fun K ρ h => w ρ h fun d h' => K.nx (ρ.set i (some d)) h'
def sAsg (g : Gv) (w : Ev) : Sv := fun K ρ h => w ρ h fun d h' => g d ρ h' K.nx
def sRet (w : Ev) : Sv := fun K ρ h => w ρ h K.rt
def sRetN : Sv := fun K ρ h => K.rt .non h
def sIf (t : Tv) (a b : Sv) : Sv := fun K ρ h => t ρ h fun c h' => match c with
  | true => a K ρ h'
  | false => b K ρ h'
def sDrop (w : Ev) : Sv := fun K ρ h => w ρ h fun _ h' => K.nx ρ h'
def sBrk : Sv := fun K ρ h => K.bk ρ h
def sCt : Sv := fun K ρ h => K.ct ρ h
/-- o[i] = v: value, object, index -/
def wSet (h : MH) (o i v : D) (K : MH → Prop) : Prop := ∃ n, o = .ref n ∧
  ((∃ xs k j, i = .int k ∧ h[n]? = some (.lst xs) ∧ ixN xs.length k = some j ∧ K (h.set n (.lst (xs.set j v)))) ∨
   (∃ kvs k, h[n]? = some (.dic kvs) ∧ toKey i = some k ∧ kvs.length < sizeLine ∧ K (h.set n (.dic (putKV kvs k v)))))
def sPut (o i w : Ev) : Sv := fun K ρ h => w ρ h fun v h1 => o ρ h1 fun ov h2 => i ρ h2 fun iv h3 => wSet h3 ov iv v fun h4 => K.nx ρ h4
/-- a, b = x, y with plain names -/
def sPar (is : List Nat) (as : Av) : Sv := fun K ρ h => as ρ h fun ds h1 => ds.length = is.length ∧ K.nx ((is.zip ds).foldl (fun r p => r.set p.1 (some p.2)) ρ) h1
abbrev Iv := Rho → MH → (List D → (MH → Prop) → MH → Prop) → Prop
def forL (g : Gv) (b : Sv) (chk : MH → Prop) : List D → Kx → Rho → MH → Prop
  | [], K, ρ, h => chk h ∧ K.nx ρ h
  | x :: xs, K, ρ, h => chk h ∧ g x ρ h fun ρ1 h1 => b { nx := fun ρ2 h2 => forL g b chk xs K ρ2 h2, rt := K.rt, bk := K.nx, ct := fun ρ2 h2 => forL g b chk xs K ρ2 h2 } ρ1 h1
def sFor (iv : Iv) (g : Gv) (b : Sv) : Sv := fun K ρ h => iv ρ h fun xs chk h1 => forL g b chk xs K ρ h1
def sWhile (t : Tv) (b : Sv) : Sv := fun K ρ h => ∃ I : Nat → Rho → MH → Prop, (∃ n, I n ρ h) ∧ ∀ n ρ h, I n ρ h → t ρ h fun c h1 => match c with
  | true => b { nx := fun ρ' h' => ∃ n', n' < n ∧ I n' ρ' h', rt := K.rt, bk := K.nx, ct := fun ρ' h' => ∃ n', n' < n ∧ I n' ρ' h' } ρ h1
  | false => K.nx ρ h1

/-- kept but for hidden objects -/
structure Pw (W : Vw) (H : Hp) (W' : Vw) (H' : Hp) : Prop where
  ext : ∃ t, W'.m = W.m ++ t ∧ ∀ a ∈ t, ¬ W.A a
  sub : ∀ a, W.A a → W'.A a
  keep : ∀ a o, ¬ W.A a → H a = some o → H' a = some o ∧ ¬ W'.A a
  frz : ∀ a o u, H a = some (.frz o u) → H' a = some (.frz o u)
theorem Pres.w {W W' : Vw} {H H' : Hp} (p : Pres W H W' H') : Pw W H W' H' := ⟨p.ext, p.sub, p.keep, p.frz⟩
theorem Pw.trans {W W1 W2 : Vw} {H H1 H2 : Hp} (p : Pw W H W1 H1) (q : Pw W1 H1 W2 H2) : Pw W H W2 H2 := by
  obtain ⟨t, e, n⟩ := p.ext
  obtain ⟨t2, e2, n2⟩ := q.ext
  refine ⟨⟨t ++ t2, by rw [e2, e, List.append_assoc], fun a h => ?_⟩, fun a h => q.sub a (p.sub a h), fun a o na h => ?_, fun a o u h => q.frz a o u (p.frz a o u h)⟩
  · rcases List.mem_append.mp h with h | h
    · exact n a h
    · exact fun z => n2 a h (p.sub a z)
  · obtain ⟨h1, n1⟩ := p.keep a o na h
    exact q.keep a o n1 h1
/-- what an iterator gives: the items, as long as chk holds -/
def Itm (F : PySem.W.Frag) (J : It) (W0 : Vw) (H0 : Hp) (xs : List D) (chk : MH → Prop) : Prop :=
  ∀ W h H, Pw W0 H0 W H → RelH F W h H → chk h → J.stop xs.length H ∧ ∀ i x, xs[i]? = some x → J.go i H ∧ ∀ v H', J.yld i H v H' → Pres W H W H' ∧ RelH F W h H' ∧ Rep F W H' x v
def tI (F : PySem.W.Frag) (iv : Iv) : TI := fun σ H R => ∃ (W : Vw) (ρ : Rho) (h : MH) (K0 : List D → (MH → Prop) → MH → Prop), RelE F W H ρ σ ∧ RelH F W h H ∧ iv ρ h K0 ∧
  ∀ xs chk h' W' H' J, K0 xs chk h' → Pres W H W' H' → RelH F W' h' H' → Itm F J W' H' xs chk → R J H'

section
variable {X : Cx} {st : Stmt} {sts : List Stmt} {e c o i tg iter : Expr} {wa wb wc w : Ev} {a b : Sv} {t : Tv} {pos pos' : Pos} {g : Gv} {vs : List Nat}
theorem z_snil : PSs X [] (tS X.K sNil) := pss_nil.imp fun D σ H ⟨W, ρ, h, K0, E, R, w, f1, f2, f3, f4⟩ => f1 _ _ _ _ _ w (.refl W H) E R
theorem z_scons (h1 : PS X st (tS X.K a)) (h2 : PSs X sts (tS X.K b)) : PSs X (st :: sts) (tS X.K (sSeq a b)) := by
  refine (pss_cons h1 h2).imp fun D σ H ⟨W, ρ, h, K0, E, R, w, f1, f2, f3, f4⟩ => ?_
  refine ⟨W, ρ, h, _, E, R, w, fun ρ' h' W' σ' H' k p E' R' => ?_, f2, f3, f4⟩
  exact ⟨W', ρ', h', K0, E', R', k, fun ρ2 h2 W2 σ2 H2 k2 p2 => f1 _ _ _ _ _ k2 (p.trans p2), fun d h2 W2 H2 v k2 p2 => f2 _ _ _ _ _ k2 (p.trans p2), fun ρ2 h2 W2 σ2 H2 k2 p2 => f3 _ _ _ _ _ k2 (p.trans p2), fun ρ2 h2 W2 σ2 H2 k2 p2 => f4 _ _ _ _ _ k2 (p.trans p2)⟩
theorem z_sone (h1 : PS X st (tS X.K a)) : PSs X [st] (tS X.K a) := pss_one h1
theorem z_ret (he : PE X e (tE X.K w)) : PS X (.Return (some e) pos) (tS X.K (sRet w)) := by
  refine (ps_ret he).imp fun D σ H ⟨W, ρ, h, K0, E, R, w, f1, f2, f3, f4⟩ => ?_
  exact ⟨W, ρ, h, _, E, R, w, f2⟩
theorem z_retN : PS X (.Return none pos) (tS X.K sRetN) := by
  refine ps_retN.imp fun D σ H ⟨W, ρ, h, K0, E, R, w, f1, f2, f3, f4⟩ => ?_
  exact f2 _ _ _ _ _ w (.refl W H) R .non
theorem z_if (hc : PT X c (tT X.K t)) {as bs : List Stmt} (ha : PSs X as (tS X.K a)) (hb : PSs X bs (tS X.K b)) : PS X (.If c as bs pos) (tS X.K (sIf t a b)) := by
  refine (ps_if hc ha hb).imp fun D σ H ⟨W, ρ, h, K0, E, R, w, f1, f2, f3, f4⟩ => ?_
  refine ⟨W, ρ, h, _, E, R, w, fun c h1 W1 H1 k p R1 => ?_⟩
  cases c with
  | true =>
    rw [if_pos rfl]
    exact ⟨W1, ρ, h1, K0, E.pres p, R1, k, fun ρ2 h2 W2 σ2 H2 k2 p2 => f1 _ _ _ _ _ k2 (p.trans p2), fun d h2 W2 H2 v k2 p2 => f2 _ _ _ _ _ k2 (p.trans p2), fun ρ2 h2 W2 σ2 H2 k2 p2 => f3 _ _ _ _ _ k2 (p.trans p2), fun ρ2 h2 W2 σ2 H2 k2 p2 => f4 _ _ _ _ _ k2 (p.trans p2)⟩
  | false =>
    rw [if_neg Bool.false_ne_true]
    exact ⟨W1, ρ, h1, K0, E.pres p, R1, k, fun ρ2 h2 W2 σ2 H2 k2 p2 => f1 _ _ _ _ _ k2 (p.trans p2), fun d h2 W2 H2 v k2 p2 => f2 _ _ _ _ _ k2 (p.trans p2), fun ρ2 h2 W2 σ2 H2 k2 p2 => f3 _ _ _ _ _ k2 (p.trans p2), fun ρ2 h2 W2 σ2 H2 k2 p2 => f4 _ _ _ _ _ k2 (p.trans p2)⟩
theorem z_brk : PS X (.Break pos) (tS X.K sBrk) := ps_break.imp fun D σ H ⟨W, ρ, h, K0, E, R, w, f1, f2, f3, f4⟩ => f3 _ _ _ _ _ w (.refl W H) E R
theorem z_ct : PS X (.Continue pos) (tS X.K sCt) := ps_continue.imp fun D σ H ⟨W, ρ, h, K0, E, R, w, f1, f2, f3, f4⟩ => f4 _ _ _ _ _ w (.refl W H) E R
theorem z_pass : PS X (.Pass pos) (tS X.K sNil) := ps_pass.imp fun D σ H ⟨W, ρ, h, K0, E, R, w, f1, f2, f3, f4⟩ => f1 _ _ _ _ _ w (.refl W H) E R
def isComp : Expr → Bool
  | .ListComp _ _ _ _ => true
  | .SetComp _ _ _ _ => true
  | .DictComp _ _ _ _ _ => true
  | _ => false
theorem swaps_no {env : PySem.Env} {t : Option Expr} {l : Nat} (h : isComp e = false) : swapsWith e t l env = pure false := by
  cases e <;> first | rfl | cases h
theorem z_drop (h0 : isComp e = false) (he : PE X e (tE X.K w)) : PS X (.Expr e pos) (tS X.K (sDrop w)) := by
  refine (ps_expr he (swaps_no h0)).imp fun D σ H ⟨W, ρ, h, K0, E, R, w, f1, f2, f3, f4⟩ => ?_
  exact ⟨W, ρ, h, _, E, R, w, fun d h1 W1 H1 v k p R1 r => f1 _ _ _ _ _ k p (E.pres p) R1⟩
theorem tS_set {F : PySem.W.Frag} {i : Nat} {te : TE} (ht : ∀ σ H Q, tE F w σ H Q → te σ H Q) : ∀ D σ H, tS F (sSet i w) D σ H → tAsg te (gName i) D σ H := by
  intro D σ H ⟨W, ρ, h, K0, E, R, w, f1, f2, f3, f4⟩
  exact ht _ _ _ ⟨W, ρ, h, _, E, R, w, fun d h1 W1 H1 v k p R1 r => f1 _ _ _ _ _ k p ((E.pres p).set r) R1⟩
theorem z_set {i : Nat} {x : Str} (h0 : isComp e = false) (hN : X.N.Nodup) (hi : X.N[i]? = some x) (hx : Loc X.env.scope x) (hf : X.fn x = true ∨ X.env.scope.names.lookup x = some .local) (he : PE X e (tE X.K w)) :
    PS X (.Assign [.Name x pos'] e pos) (tS X.K (sSet i w)) := (ps_set hN hi hx he (swaps_no h0) hf).imp (tS_set fun _ _ _ h => h)
def isTupE : Expr → Bool
  | .Tuple _ _ _ => true
  | _ => false
theorem swapped_no {env : PySem.Env} {ts : List Expr} (h : isTupE e = false) : swappedStores ts e env = pure none := by
  cases e <;> first
    | (unfold swappedStores
       rcases ts with _ | ⟨t, _ | ⟨t2, ts⟩⟩ <;> first | rfl | (cases t <;> rfl))
    | cases h
def isLstE : Expr → Bool
  | .List _ _ => true
  | _ => false
theorem swapped_no2 {env : PySem.Env} {t : Expr} {k : Nat} {p : Pos} {es : List Expr} (h : isTupE t = false) (h2 : isLstE t = false) : swappedStores [t] (.Tuple es k p) env = pure none := by
  cases t <;> first
    | rfl
    | (cases h; done)
    | (cases h2; done)
theorem z_asg (h0 : isComp e = false) (hw : swappedStores [tg] e X.env = pure none) (h1 : isStar tg = false) (he : PE X e (tE X.K w)) (hg : PG X tg (tG X.K g vs)) : PS X (.Assign [tg] e pos) (tS X.K (sAsg g w)) := by
  refine (ps_asg he hg (swaps_no h0) hw (by rw [assign_plain h1]; rfl)).imp fun D σ H ⟨W, ρ, h, K0, E, R, w, f1, f2, f3, f4⟩ => ?_
  refine ⟨W, ρ, h, _, E, R, w, fun d h1 W1 H1 v k p R1 r => ?_⟩
  exact ⟨W1, ρ, h1, d, _, E.pres p, R1, r, k, fun ρ' h' W' σ' H' k' p' E' R' _ => f1 _ _ _ _ _ k' (p.trans p') E' R'⟩
theorem pset_w (hu : X.A.units + 64 < cLine) : PSet X (fun o i v H Q => ∃ (W : Vw) (h : MH) (od id vd : D) (K0 : MH → Prop), RelH X.K W h H ∧ Rep X.K W H od o ∧ Rep X.K W H id i ∧ Rep X.K W H vd v ∧ wSet h od id vd K0 ∧
    ∀ h' W' H', K0 h' → Pres W H W' H' → RelH X.K W' h' H' → Q H') := by
  intro pins s σ H o i v ov iv u Q I ro ri rv hh
  obtain ⟨W, h, od, id, vd, K0, R, r1, r2, r3, ⟨n, rfl, w⟩, f⟩ := hh
  obtain ⟨a, rfl, ea⟩ := ref_inv r1
  rcases w with ⟨xs, k, j, rfl, e, ej, kk⟩ | ⟨kvs, k, e, ek, hz, kk⟩
  · obtain ⟨ws, q1, q2⟩ := R.at_ n _ a e ea
    cases r2.int_inv
    have P := R.sub a (List.mem_of_getElem? ea)
    have nf := nf_of q1 (fun o u' z => by cases z)
    refine set_list pins s σ H _ _ v ov iv u Q I ro ri rv ⟨a, ws, k, j, rfl, rfl, q1, by rw [q2.length]; exact ej, f _ W _ kk (Pres.write a _ P nf (List.mem_of_getElem? ea)) (R.write (ob := .lst (xs.set j vd)) ea ⟨_, upd_same, ?_⟩)⟩
    exact (q2.set j r3).write P
  · obtain ⟨ks, q1, q2⟩ := R.at_ n _ a e ea
    cases toKey_rep ek r2
    have P := R.sub a (List.mem_of_getElem? ea)
    have nf := nf_of q1 (fun o u' z => by cases z)
    cases ro
    refine d_setItem (by omega) I (DPut.k q1 (by rw [q2.length]; exact hz)) ri rv fun s' I' => ⟨_, I', f _ W _ kk (Pres.write a _ P nf (List.mem_of_getElem? ea)) (R.write (ob := .dic (putKV kvs k vd)) ea ⟨_, upd_same, ?_⟩)⟩
    have q3 := q2.put k r3
    exact ⟨q3.1, q3.2.write P⟩
theorem swaps_sub {env : PySem.Env} {l : Nat} : swapsWithSole [.Subscript o i pos'] e l env = pure false := by
  cases e <;> rfl
theorem swapped_sub {env : PySem.Env} : swappedStores [.Subscript o i pos'] e env = pure none := by
  cases e <;> rfl
theorem z_put (hu : X.A.units + 64 < cLine) (hsl : isSl i = false) (he : PE X e (tE X.K w)) (ho : PE X o (tE X.K wa)) (hi : PE X i (tE X.K wb)) : PS X (.Assign [.Subscript o i pos'] e pos) (tS X.K (sPut wa wb w)) := by
  have hg := pg_sub (pos := pos') ho hi (pset_w hu) (by intro v; cases i <;> first | rfl | cases hsl)
  refine (ps_asg he hg swaps_sub swapped_sub rfl).imp fun D σ H ⟨W, ρ, h, K0, E, R, w, f1, f2, f3, f4⟩ => ?_
  refine ⟨W, ρ, h, _, E, R, w, fun vd h1 W1 H1 v k1 p1 R1 rv => ?_⟩
  refine ⟨W1, ρ, h1, _, E.pres p1, R1, k1, fun od h2 W2 H2 vo k2 p2 R2 ro => ?_⟩
  refine ⟨W2, ρ, h2, _, (E.pres p1).pres p2, R2, k2, fun id h3 W3 H3 vi k3 p3 R3 ri => ?_⟩
  exact ⟨W3, h3, od, id, vd, _, R3, ro.pres p3, ri, (rv.pres p2).pres p3, k3, fun h' W' H' k' p' R' => f1 _ _ _ _ _ k' (((p1.trans p2).trans p3).trans p') (E.pres (((p1.trans p2).trans p3).trans p')) R'⟩
theorem z_par2 {i j : Nat} {x y : Str} {a b : Expr} {was : Av} {px py pt : Pos} {kt k2 : Nat} {pt2 : Pos} (hc : X.calm = true) (hN : X.N.Nodup) (hi : X.N[i]? = some x) (hj : X.N[j]? = some y) (hij : i ≠ j)
    (hx : X.env.scope.names.lookup x = some .local) (hy : X.env.scope.names.lookup y = some .local) (ha : PA X [a, b] (tA X.K was)) (hw : swappedStores [.Tuple [.Name x px, .Name y py] kt pt] (.Tuple [a, b] k2 pt2) X.env = pure (some [x, y])) :
    PS X (.Assign [.Tuple [.Name x px, .Name y py] kt pt] (.Tuple [a, b] k2 pt2) pos) (tS X.K (sPar [i, j] was)) := by
  refine (ps_par hc hN hi hj hij hx hy ha hw (by rfl)).imp fun D σ H ⟨W, ρ, h, K0, E, R, w, f1, f2, f3, f4⟩ => ?_
  refine ⟨W, ρ, h, _, E, R, w, fun ds h1 W1 H1 us k p R1 rs => ?_⟩
  obtain ⟨hl, k⟩ := k
  match ds, hl, k, rs with
  | [d1, d2], _, k, rs =>
    obtain ⟨v1, v2, rfl, r1, r2⟩ := rs.two
    exact ⟨v1, v2, rfl, f1 _ _ _ _ _ k p (((E.pres p).set r1).set r2) R1⟩
theorem z_par3 {i j l : Nat} {x y z : Str} {a b c : Expr} {was : Av} {px py pz pt : Pos} {kt k2 : Nat} {pt2 : Pos} (hc : X.calm = true) (hN : X.N.Nodup) (hi : X.N[i]? = some x) (hj : X.N[j]? = some y) (hl : X.N[l]? = some z) (hij : i ≠ j) (hil : i ≠ l) (hjl : j ≠ l)
    (hx : X.env.scope.names.lookup x = some .local) (hy : X.env.scope.names.lookup y = some .local) (hz : X.env.scope.names.lookup z = some .local) (ha : PA X [a, b, c] (tA X.K was)) (hw : swappedStores [.Tuple [.Name x px, .Name y py, .Name z pz] kt pt] (.Tuple [a, b, c] k2 pt2) X.env = pure (some [x, y, z])) :
    PS X (.Assign [.Tuple [.Name x px, .Name y py, .Name z pz] kt pt] (.Tuple [a, b, c] k2 pt2) pos) (tS X.K (sPar [i, j, l] was)) := by
  refine (ps_par3 hc hN hi hj hl hij hil hjl hx hy hz ha hw (by rfl)).imp fun D σ H ⟨W, ρ, h, K0, E, R, w, f1, f2, f3, f4⟩ => ?_
  refine ⟨W, ρ, h, _, E, R, w, fun ds h1 W1 H1 us k p R1 rs => ?_⟩
  obtain ⟨hl, k⟩ := k
  match ds, hl, k, rs with
  | [d1, d2, d3], _, k, rs =>
    obtain ⟨v1, vr, rfl, r1, rr⟩ := rs.inv
    obtain ⟨v2, v3, rfl, r2, r3⟩ := rr.two
    exact ⟨v1, v2, v3, rfl, f1 _ _ _ _ _ k p ((((E.pres p).set r1).set r2).set r3) R1⟩
theorem z_while {body : List Stmt} (hp : PassesOwn (model X.prog X.w) X.A X.env X.xe) (hc : PT X c (tT X.K t)) (hb : PSs X body (tS X.K b)) : PS X (.While c body [] pos) (tS X.K (sWhile t b)) := by
  refine (ps_while hp hc hb).imp fun D σ H ⟨W, ρ, h, K0, E, R, ⟨I, ⟨n0, i0⟩, turn⟩, f1, f2, f3, f4⟩ => ?_
  refine ⟨fun n σ1 H1 => ∃ W1 ρ1 h1, Pres W H W1 H1 ∧ RelE X.K W1 H1 ρ1 σ1 ∧ RelH X.K W1 h1 H1 ∧ I n ρ1 h1, ⟨n0, W, ρ, h, .refl W H, E, R, i0⟩, ?_⟩
  rintro n σ1 H1 ⟨W1, ρ1, h1, p1, E1, R1, i1⟩
  refine ⟨W1, ρ1, h1, _, E1, R1, turn n ρ1 h1 i1, fun c h2 W2 H2 k p2 R2 => ?_⟩
  cases c with
  | false =>
    rw [if_neg Bool.false_ne_true]
    exact f1 _ _ _ _ _ k (p1.trans p2) (E1.pres p2) R2
  | true =>
    rw [if_pos rfl]
    refine ⟨fun σ' H' => ∃ n' W' ρ' h', n' < n ∧ Pres W H W' H' ∧ RelE X.K W' H' ρ' σ' ∧ RelH X.K W' h' H' ∧ I n' ρ' h', fun σ' H' ⟨n', W', ρ', h', hl, p', E', R', i'⟩ => ⟨n', hl, W', ρ', h', p', E', R', i'⟩, ?_⟩
    have p12 := p1.trans p2
    refine ⟨W2, ρ1, h2, _, E1.pres p2, R2, k, ?_, ?_, ?_, ?_⟩
    · rintro ρ3 h3 W3 σ3 H3 ⟨n', hl, i3⟩ p3 E3 R3
      exact ⟨n', W3, ρ3, h3, hl, p12.trans p3, E3, R3, i3⟩
    · exact fun d h3 W3 H3 v k3 p3 R3 r3 => f2 _ _ _ _ _ k3 (p12.trans p3) R3 r3
    · exact fun ρ3 h3 W3 σ3 H3 k3 p3 E3 R3 => f1 _ _ _ _ _ k3 (p12.trans p3) E3 R3
    · rintro ρ3 h3 W3 σ3 H3 ⟨n', hl, i3⟩ p3 E3 R3
      exact ⟨n', W3, ρ3, h3, hl, p12.trans p3, E3, R3, i3⟩
theorem z_for {body : List Stmt} {iv : Iv} (hp : PassesOwn (model X.prog X.w) X.A X.env X.xe) (hc : X.calm = true) (hi : PI X tg iter (tI X.K iv)) (hg : PG X tg (tG X.K g vs)) (hb : PSs X body (tS X.K b)) (hs : ∀ x, foldedSetIterable iter X.env x = pure x) :
    PS X (.For tg iter body [] pos) (tS X.K (sFor iv g b)) := by
  refine (ps_for hp hc hi hg hb hs).imp fun D σ H ⟨W, ρ, h, K0, E, R, w, f1, f2, f3, f4⟩ => ?_
  refine ⟨W, ρ, h, _, E, R, w, fun xs chk h1 W1 H1 J k1 p1 R1 it => ?_⟩
  refine ⟨fun i m σ2 H2 => m = xs.length - i ∧ i ≤ xs.length ∧ ∃ W2 ρ2 h2, Pres W1 H1 W2 H2 ∧ RelE X.K W2 H2 ρ2 σ2 ∧ RelH X.K W2 h2 H2 ∧ forL g b chk (xs.drop i) K0 ρ2 h2, ⟨xs.length, by simp, Nat.zero_le _, W1, ρ, h1, .refl W1 H1, E.pres p1, R1, k1⟩, ?_⟩
  rintro i m σ2 H2 ⟨rfl, hi, W2, ρ2, h2, p2, E2, R2, k2⟩
  by_cases hlt : i < xs.length
  · rw [List.drop_eq_getElem_cons hlt] at k2
    obtain ⟨ck, k2⟩ := k2
    obtain ⟨_, q⟩ := it W2 h2 H2 p2.w R2 ck
    obtain ⟨go, yl⟩ := q i _ (List.getElem?_eq_getElem hlt)
    refine .inr ⟨go, fun σ' H' => ∃ W3 ρ3 h3, Pres W1 H1 W3 H' ∧ RelE X.K W3 H' ρ3 σ' ∧ RelH X.K W3 h3 H' ∧ forL g b chk (xs.drop (i + 1)) K0 ρ3 h3, fun σ' H' q => ⟨xs.length - (i + 1), by omega, rfl, hlt, q⟩, fun v H' y => ?_⟩
    obtain ⟨p3, R3, rv⟩ := yl v H' y
    refine ⟨W2, ρ2, h2, xs[i], _, E2.pres p3, R3, rv, k2, fun ρ4 h4 W4 σ4 H4 k4 p4 E4 R4 _ => ?_⟩
    have p24 := (p2.trans p3).trans p4
    refine ⟨W4, ρ4, h4, _, E4, R4, k4, ?_, ?_, ?_, ?_⟩
    · exact fun ρ5 h5 W5 σ5 H5 k5 p5 E5 R5 => ⟨W5, ρ5, h5, p24.trans p5, E5, R5, k5⟩
    · exact fun d h5 W5 H5 v5 k5 p5 R5 r5 => f2 _ _ _ _ _ k5 ((p1.trans p24).trans p5) R5 r5
    · exact fun ρ5 h5 W5 σ5 H5 k5 p5 E5 R5 => f1 _ _ _ _ _ k5 ((p1.trans p24).trans p5) E5 R5
    · exact fun ρ5 h5 W5 σ5 H5 k5 p5 E5 R5 => ⟨W5, ρ5, h5, p24.trans p5, E5, R5, k5⟩
  · have e : i = xs.length := by omega
    subst e
    rw [List.drop_length] at k2
    obtain ⟨ck, k2⟩ := k2
    exact .inl ⟨(it W2 h2 H2 p2.w R2 ck).1, f1 _ _ _ _ _ k2 (p1.trans p2) E2 R2⟩
end
end Z

set_option Elab.async false
set_option linter.all false
set_option maxRecDepth 100000
/-! Z2g: list comprehensions -/
namespace Z
open PySem PySem.Spec PyProof.Rows L2

/-- the turns of a clause: B the clause's inner part -/
def turns (g : Gv) (ts : Tv) (B : List D → Rho → MH → (List D → MH → Prop) → Prop) (chk : MH → Prop) : List D → List D → Rho → MH → (List D → MH → Prop) → Prop
  | [], acc, _, h, K => chk h ∧ K acc h
  | x :: xs, acc, ρ, h, K => chk h ∧ g x ρ h fun ρ1 h1 => ts ρ1 h1 fun b h2 => match b with
    | true => B acc ρ1 h2 fun acc' h3 => turns g ts B chk xs acc' ρ h3 K
    | false => turns g ts B chk xs acc ρ h2 K
def bOne (e : Ev) (acc : List D) (ρ : Rho) (h : MH) (K : List D → MH → Prop) : Prop := e ρ h fun y h' => acc.length < sizeLine ∧ K (acc ++ [y]) h'
def bIn (iv : Iv) (g : Gv) (ts : Tv) (vs : List Nat) (e : Ev) (acc : List D) (ρ : Rho) (h : MH) (K : List D → MH → Prop) : Prop :=
  iv ρ h fun xs chk h' => turns g ts (bOne e) chk xs acc (wipeR ρ vs) h' K
def tvYes : Tv := fun _ h Q => Q true h
def cComp (mu : Bool) (iv : Iv) (g : Gv) (ts : Tv) (B : List D → Rho → MH → (List D → MH → Prop) → Prop) (vs : List Nat) : Ev := fun ρ h Q =>
  iv ρ h fun xs chk h' => turns g ts B chk xs [] (wipeR ρ vs) h' fun acc h2 => mkL mu acc h2 Q

/-! a hidden list -/
def Vw.hide (W : Vw) (a : Addr) : Vw := ⟨W.m, fun b => W.A b ∨ b = a⟩
def Vw.un (W : Vw) (a : Addr) : Vw := ⟨W.m, fun b => W.A b ∧ b ≠ a⟩
structure HidS (F : PySem.W.Frag) (W1 : Vw) (H1 : Hp) (a : Addr) (W : Vw) (h : MH) (H : Hp) (acc : List D) : Prop where
  pr : Pres W1 H1 (W.un a) H
  rel : RelH F W h H
  own : W.A a
  out : a ∉ W.m
  lst : ∃ vs, H a = some (.lst vs) ∧ Reps F W H acc vs
section
variable {F : PySem.W.Frag} {W1 W W' : Vw} {H1 H H' : Hp} {a : Addr} {h h' : MH} {acc : List D} {ρ : Rho} {σ : L2.St}
theorem HidS.start (R : RelH F W1 h H1) (n : H1 a = none) : HidS F W1 H1 a (W1.hide a) h (upd H1 a (.lst [])) [] ∧ (∀ ρ σ, RelE F W1 H1 ρ σ → RelE F (W1.hide a) (upd H1 a (.lst [])) ρ σ) ∧ Pres W1 H1 (W1.hide a) (upd H1 a (.lst [])) := by
  have na := R.free n
  have P : Pres W1 H1 (W1.hide a) (upd H1 a (.lst [])) :=
    ⟨⟨[], by simp [Vw.hide], by simp⟩, fun _ z => .inl z, fun b o nb e => ⟨by rw [upd_ne (ne_of_none e n)]; exact e, fun z => z.elim nb (ne_of_none e n)⟩, fun b o u e => by rw [upd_ne (ne_of_none e n)]; exact e, fun b z _ => upd_ne (fun q => na (by rw [← q]; exact z))⟩
  have out : a ∉ W1.m := fun z => na (R.sub a z)
  refine ⟨⟨⟨⟨[], by simp [Vw.un, Vw.hide], by simp⟩, fun b z => ⟨.inl z, fun e => na (by rw [← e]; exact z)⟩, fun b o nb e => ⟨(P.keep b o nb e).1, fun z => (P.keep b o nb e).2 z.1⟩, P.frz, P.hid⟩, ?_, .inr rfl, out, ⟨[], upd_same, .nil⟩⟩, fun ρ σ E => E.pres P, P⟩
  refine ⟨R.len, R.nd, fun b z => .inl (R.sub b z), fun b z => ?_, fun k o b e1 e2 => ?_⟩
  · by_cases hb : b = a
    · subst hb
      exact ⟨_, upd_same⟩
    · rw [upd_ne hb]
      exact R.trk b (z.resolve_right hb)
  · have hb : b ≠ a := fun q => out (by rw [← q]; exact List.mem_of_getElem? e2)
    exact (R.at_ k o b e1 e2).pres P (upd_ne hb)
/-- a step from the hidden view -/
theorem HidS.step (S : HidS F W1 H1 a W h H acc) (n1 : H1 a = none) (p : Pres W H W' H') (R : RelH F W' h' H') : HidS F W1 H1 a W' h' H' acc := by
  obtain ⟨t, e, nt⟩ := S.pr.ext
  obtain ⟨t2, e2, nt2⟩ := p.ext
  obtain ⟨vs, q, rs⟩ := S.lst
  have e : W.m = W1.m ++ t := e
  refine ⟨⟨⟨t ++ t2, by show W'.m = _; rw [e2, e, List.append_assoc], fun b hb z => ?_⟩, fun b z => ⟨p.sub b (S.pr.sub b z).1, (S.pr.sub b z).2⟩, fun b o nb e => ?_, fun b o u e => p.frz b o u (S.pr.frz b o u e), fun b z nz => ?_⟩, R, p.sub a S.own, p.out S.own S.out, ⟨vs, (p.hid a S.own S.out).trans q, rs.pres p⟩⟩
  · rcases List.mem_append.mp hb with hb | hb
    · exact nt b hb z
    · exact nt2 b hb (S.pr.sub b z).1
  · have hne : b ≠ a := ne_of_none e n1
    obtain ⟨e', n'⟩ := S.pr.keep b o nb e
    have nA : ¬ W.A b := fun z => n' ⟨z, hne⟩
    obtain ⟨e3, n3⟩ := p.keep b o nA e'
    exact ⟨e3, fun z => n3 z.1⟩
  · have hm : b ∉ W.m := S.pr.out z nz
    exact (p.hid b (S.pr.sub b z).1 hm).trans (S.pr.hid b z nz)
/-- one item more -/
theorem HidS.push (S : HidS F W1 H1 a W h H acc) (n1 : H1 a = none) (na : ¬ W1.A a) {vs : List V} (q : H a = some (.lst vs)) (rs : Reps F W H acc vs) {y : D} {v : V} (r : Rep F W H y v) :
    HidS F W1 H1 a W h (upd H a (.lst (vs ++ [v]))) (acc ++ [y]) := by
  refine ⟨⟨S.pr.ext, S.pr.sub, fun b o nb e => ?_, fun b o u e => ?_, fun b z nz => ?_⟩, ?_, S.own, S.out, ⟨_, upd_same, (rs.append (.cons r .nil)).write S.own⟩⟩
  · have hne : b ≠ a := ne_of_none e n1
    rw [upd_ne hne]
    exact S.pr.keep b o nb e
  · have hne : b ≠ a := ne_of_none e n1
    rw [upd_ne hne]
    exact S.pr.frz b o u e
  · have hne : b ≠ a := fun q => na (by rw [← q]; exact z)
    rw [upd_ne hne]
    exact S.pr.hid b z nz
  · refine ⟨S.rel.len, S.rel.nd, S.rel.sub, fun b z => ?_, fun k o b e1 e2 => ?_⟩
    · by_cases hb : b = a
      · subst hb
        exact ⟨_, upd_same⟩
      · rw [upd_ne hb]
        exact S.rel.trk b z
    · exact (S.rel.at_ k o b e1 e2).write S.own fun q => S.out (by rw [← q]; exact List.mem_of_getElem? e2)
theorem RelE.write {u : HO} (E : RelE F W H ρ σ) (z : W.A a) : RelE F W (upd H a u) ρ σ := ⟨E.1, fun i d e => by
  obtain ⟨v, q, r⟩ := E.2 i d e
  exact ⟨v, q, r.write z⟩⟩
/-- the list at the end -/
theorem HidS.fin (S : HidS F W1 H1 a W h H acc) (n1 : H1 a = none) (na : ¬ W1.A a) {mu : Bool} {K0 : D → MH → Prop} {Q : VK} (f : Fo F W1 H1 K0 Q) (k : mkL mu acc h K0) : Q (.ref a) H := by
  obtain ⟨vs, q, rs⟩ := S.lst
  cases mu with
  | false =>
    have V1 : ∀ b, (W.un a).A b → W.A b := fun b z => z.1
    have V2 : ∃ t, (W.un a).m = W.m ++ t := ⟨[], by simp [Vw.un]⟩
    refine f _ h (W.un a) _ _ k S.pr ⟨S.rel.len, S.rel.nd, fun b z => ⟨S.rel.sub b z, fun e => S.out (by rw [← e]; exact z)⟩, fun b z => S.rel.trk b z.1, fun k o b e1 e2 => (S.rel.at_ k o b e1 e2).view V1 V2⟩ ?_
    rw [Rep]
    exact ⟨a, vs, rfl, ⟨fun z => z.2 rfl, q⟩, rs.view V1 V2⟩
  | true =>
    have V1 : ∀ b, (⟨W.m ++ [a], W.A⟩ : Vw).A b → W.A b := fun b z => z
    have V2 : ∃ t, (⟨W.m ++ [a], W.A⟩ : Vw).m = W.m ++ t := ⟨[a], rfl⟩
    obtain ⟨t, et, nt⟩ := S.pr.ext
    have et : W.m = W1.m ++ t := et
    refine f _ _ ⟨W.m ++ [a], W.A⟩ _ _ k ⟨⟨t ++ [a], by show W.m ++ [a] = _; rw [et, List.append_assoc], fun b hb z => ?_⟩, fun b z => (S.pr.sub b z).1, fun b o nb e => ?_, S.pr.frz, S.pr.hid⟩ ?_ ?_
    · rcases List.mem_append.mp hb with hb | hb
      · exact nt b hb z
      · simp at hb
        subst hb
        exact na z
    · obtain ⟨e', n'⟩ := S.pr.keep b o nb e
      exact ⟨e', fun z => n' ⟨z, ne_of_none e n1⟩⟩
    · refine ⟨by simp [S.rel.len], ?_, fun b z => ?_, S.rel.trk, fun k o b e1 e2 => ?_⟩
      · rw [List.nodup_append]
        exact ⟨S.rel.nd, by simp, fun b hb c hc e => S.out (by simp at hc; rw [← hc, ← e]; exact hb)⟩
      · rcases List.mem_append.mp z with z | z
        · exact S.rel.sub b z
        · simp at z
          subst z
          exact S.own
      · have e2 : (W.m ++ [a])[k]? = some b := e2
        by_cases hk : k < W.m.length
        · rw [List.getElem?_append_left hk] at e2
          rw [List.getElem?_append_left (by rw [← S.rel.len]; exact hk)] at e1
          exact (S.rel.at_ k o b e1 e2).view V1 V2
        · rw [List.getElem?_append_right (by omega)] at e2
          rw [List.getElem?_append_right (by rw [← S.rel.len]; omega)] at e1
          have hk0 : k - W.m.length = 0 := by
            obtain ⟨q, _⟩ := List.getElem?_eq_some_iff.mp e2
            simp at q
            omega
          have hk1 : k - h.length = 0 := by rw [← S.rel.len]; exact hk0
          rw [hk0] at e2
          rw [hk1] at e1
          cases Option.some.inj e2
          cases Option.some.inj e1
          exact ⟨vs, q, rs.view V1 V2⟩
    · rw [Rep]
      refine ⟨a, rfl, ?_⟩
      show (W.m ++ [a])[h.length]? = some a
      rw [← S.rel.len, List.getElem?_append_right (Nat.le_refl _)]
      simp
end
theorem wipe_mem {σ : L2.St} : ∀ {vs : List Nat} {i : Nat}, i ∈ vs → (L2.wipe σ vs).set i none = L2.wipe σ vs
  | v :: vs, i, h => by
    simp only [L2.wipe]
    by_cases e : v = i
    · subst e
      rw [List.set_set]
    · rw [List.set_comm _ _ e, wipe_mem ((List.mem_cons.mp h).resolve_left fun q => e q.symm)]
theorem wipe_wipe' {σ : L2.St} {us : List Nat} : ∀ {vs : List Nat}, (∀ i ∈ vs, i ∈ us) → L2.wipe (L2.wipe σ us) vs = L2.wipe σ us
  | [], _ => rfl
  | v :: vs, h => by
    show (L2.wipe (L2.wipe σ us) vs).set v none = _
    rw [wipe_wipe' fun i hi => h i (List.mem_cons_of_mem _ hi), wipe_mem (h v (List.mem_cons_self ..))]
theorem wipe_wipe {σ : L2.St} {vs : List Nat} : L2.wipe (L2.wipe σ vs) vs = L2.wipe σ vs := wipe_wipe' fun _ h => h

section
variable {X : Cx} {e elt tg iter tg1 iter1 : Expr} {we : Ev} {t t1 : Tv} {g g1 : Gv} {iv iv1 : Iv} {pos spos py : Pos} {ifs ifs1 : List Expr} {scope : Scope} {own : List (Str × Nat)}
theorem z_tnil : PTs X [] (tT X.K tvYes) := by
  refine ⟨fun pins s σ H Q I h => pts_nil.run pins s σ H Q I ?_⟩
  obtain ⟨W, ρ, h, K0, E, R, w, f⟩ := h
  exact f _ _ _ _ w (.refl W H) R
theorem z_tone {c : Expr} (h : PT X c (tT X.K t)) : PTs X [c] (tT X.K t) := pts_one h
theorem HidS.pw {F : PySem.W.Frag} {W1 W : Vw} {H1 H : Hp} {a : Addr} {h : MH} {acc : List D} (S : HidS F W1 H1 a W h H acc) (n1 : H1 a = none) : Pw W1 H1 W H :=
  ⟨S.pr.ext, fun b z => (S.pr.sub b z).1, fun b o nb e => ⟨(S.pr.keep b o nb e).1, fun z => (S.pr.keep b o nb e).2 ⟨z, ne_of_none e n1⟩⟩, S.pr.frz⟩
theorem Pw.push {W : Vw} {H : Hp} {a : Addr} {vs : List V} {u : HO} (z : W.A a) (q : H a = some (.lst vs)) : Pw W H W (upd H a u) :=
  ⟨⟨[], by simp, by simp⟩, fun _ h => h, fun b o nb e => ⟨by rw [upd_ne (fun q => nb (by rw [q]; exact z))]; exact e, nb⟩, fun b o u e => by
    by_cases hb : b = a
    · subst hb
      rw [q] at e
      cases e
    · rw [upd_ne hb]
      exact e⟩
theorem Pw.refl (W : Vw) (H : Hp) : Pw W H W H := (Pres.refl W H).w
theorem tE_comp {F : PySem.W.Frag} {mu : Bool} {vs : List Nat} : ∀ σ H Q, tE F (cComp mu iv g t (bOne we) vs) σ H Q → tLc (tI F iv) (tG F g vs) (tT F t) (tE F we) vs σ H Q := by
  intro σ H Q ⟨W0, ρ, h0, K0, E, R, w, f⟩
  refine ⟨W0, ρ, h0, _, E, R, w, fun xs chk h1 W1 H1 J k1 p1 R1 it a na => ?_⟩
  have nA := R1.free na
  have f1 : Fo F W1 H1 K0 Q := Fo.step f p1
  obtain ⟨S0, E0, P0⟩ := HidS.start R1 na
  refine ⟨fun i m H2 => m = xs.length - i ∧ i ≤ xs.length ∧ ∃ W2 h2 acc, HidS F W1 H1 a W2 h2 H2 acc ∧ RelE F W2 H2 (wipeR ρ vs) (L2.wipe σ vs) ∧ turns g t (bOne we) chk (xs.drop i) acc (wipeR ρ vs) h2 (fun acc h2 => mkL mu acc h2 K0),
    ⟨xs.length, by simp, Nat.zero_le _, _, _, _, S0, (E0 _ _ (E.pres p1)).wipe vs, k1⟩, ?_⟩
  rintro i m H2 ⟨rfl, hi, W2, h2, acc, S2, E2, k2⟩
  by_cases hlt : i < xs.length
  · rw [List.drop_eq_getElem_cons hlt] at k2
    obtain ⟨ck, k2⟩ := k2
    obtain ⟨go, yl⟩ := (it W2 h2 H2 (S2.pw na) S2.rel ck).2 i _ (List.getElem?_eq_getElem hlt)
    refine .inr ⟨go, fun H' => ∃ W3 h3 acc, HidS F W1 H1 a W3 h3 H' acc ∧ RelE F W3 H' (wipeR ρ vs) (L2.wipe σ vs) ∧ turns g t (bOne we) chk (xs.drop (i + 1)) acc (wipeR ρ vs) h3 (fun acc h2 => mkL mu acc h2 K0), fun H' q => ⟨xs.length - (i + 1), by omega, rfl, hlt, q⟩, fun v H' y => ?_⟩
    obtain ⟨p3, R3, rv⟩ := yl v H' y
    refine ⟨W2, wipeR ρ vs, h2, xs[i], _, E2.pres p3, R3, rv, k2, fun ρ4 h4 W4 σ4 H4 k4 p4 E4 R4 hw4 => ⟨hw4.trans wipe_wipe, ?_⟩⟩
    refine ⟨W4, ρ4, h4, _, E4, R4, k4, fun b h5 W5 H5 k5 p5 R5 => ?_⟩
    have p25 := (p3.trans p4).trans p5
    cases b with
    | false =>
      try dsimp only
      rw [if_neg Bool.false_ne_true]
      exact ⟨W5, h5, acc, S2.step na p25 R5, E2.pres p25, k5⟩
    | true =>
      try dsimp only
      rw [if_pos rfl]
      refine ⟨W5, ρ4, h5, _, E4.pres p5, R5, k5, fun y h6 W6 H6 v6 k6 p6 R6 r6 => ?_⟩
      have S6 := S2.step na (p25.trans p6) R6
      obtain ⟨vs6, q6, rs6⟩ := S6.lst
      exact ⟨vs6, q6, by rw [rs6.length]; exact k6.1, W6, h6, acc ++ [y], S6.push na nA q6 rs6 r6, (E2.pres (p25.trans p6)).write S6.own, k6.2⟩
  · have e : i = xs.length := by omega
    subst e
    rw [List.drop_length] at k2
    obtain ⟨ck, k2⟩ := k2
    exact .inl ⟨(it W2 h2 H2 (S2.pw na) S2.rel ck).1, S2.fin na nA f1 k2⟩
theorem tE_comp2 {F : PySem.W.Frag} {mu : Bool} {vs vs1 : List Nat} : ∀ σ H Q, tE F (cComp mu iv g t (bIn iv1 g1 t1 vs1 we) vs) σ H Q → tLc2 (tI F iv) (tG F g vs) (tT F t) (tI F iv1) (tG F g1 vs1) (tT F t1) (tE F we) vs vs1 σ H Q := by
  intro σ H Q ⟨W0, ρ, h0, K0, E, R, w, f⟩
  refine ⟨W0, ρ, h0, _, E, R, w, fun xs chk h1 W1 H1 J k1 p1 R1 it a na => ?_⟩
  have nA := R1.free na
  have f1 : Fo F W1 H1 K0 Q := Fo.step f p1
  obtain ⟨S0, E0, P0⟩ := HidS.start R1 na
  refine ⟨fun i m H2 => m = xs.length - i ∧ i ≤ xs.length ∧ ∃ W2 h2 acc, HidS F W1 H1 a W2 h2 H2 acc ∧ RelE F W2 H2 (wipeR ρ vs) (L2.wipe σ vs) ∧ turns g t (bIn iv1 g1 t1 vs1 we) chk (xs.drop i) acc (wipeR ρ vs) h2 (fun acc h2 => mkL mu acc h2 K0),
    ⟨xs.length, by simp, Nat.zero_le _, _, _, _, S0, (E0 _ _ (E.pres p1)).wipe vs, k1⟩, ?_⟩
  rintro i m H2 ⟨rfl, hi, W2, h2, acc, S2, E2, k2⟩
  by_cases hlt : i < xs.length
  · rw [List.drop_eq_getElem_cons hlt] at k2
    obtain ⟨ck, k2⟩ := k2
    obtain ⟨go, yl⟩ := (it W2 h2 H2 (S2.pw na) S2.rel ck).2 i _ (List.getElem?_eq_getElem hlt)
    refine .inr ⟨go, fun H' => ∃ W3 h3 acc, HidS F W1 H1 a W3 h3 H' acc ∧ RelE F W3 H' (wipeR ρ vs) (L2.wipe σ vs) ∧ turns g t (bIn iv1 g1 t1 vs1 we) chk (xs.drop (i + 1)) acc (wipeR ρ vs) h3 (fun acc h2 => mkL mu acc h2 K0), fun H' q => ⟨xs.length - (i + 1), by omega, rfl, hlt, q⟩, fun v H' y => ?_⟩
    obtain ⟨p3, R3, rv⟩ := yl v H' y
    refine ⟨W2, wipeR ρ vs, h2, xs[i], _, E2.pres p3, R3, rv, k2, fun ρ4 h4 W4 σ4 H4 k4 p4 E4 R4 hw4 => ⟨hw4.trans wipe_wipe, ?_⟩⟩
    refine ⟨W4, ρ4, h4, _, E4, R4, k4, fun b h5 W5 H5 k5 p5 R5 => ?_⟩
    have p25 := (p3.trans p4).trans p5
    cases b with
    | false =>
      try dsimp only
      rw [if_neg Bool.false_ne_true]
      exact ⟨W5, h5, acc, S2.step na p25 R5, E2.pres p25, k5⟩
    | true =>
      try dsimp only
      rw [if_pos rfl]
      refine ⟨W5, ρ4, h5, _, E4.pres p5, R5, k5, fun ys chk1 h6 W6 H6 J1 k6 p6 R6 it1 => ?_⟩
      have S6 := S2.step na (p25.trans p6) R6
      have E6 := E2.pres (p25.trans p6)
      have F6 := E4.pres (p5.trans p6)
      refine ⟨fun j m1 H7 => m1 = ys.length - j ∧ j ≤ ys.length ∧ ∃ W7 h7 acc, HidS F W1 H1 a W7 h7 H7 acc ∧ Pw W6 H6 W7 H7 ∧ RelE F W7 H7 (wipeR ρ vs) (L2.wipe σ vs) ∧ RelE F W7 H7 (wipeR ρ4 vs1) (L2.wipe σ4 vs1) ∧ turns g1 t1 (bOne we) chk1 (ys.drop j) acc (wipeR ρ4 vs1) h7
          (fun acc h2 => turns g t (bIn iv1 g1 t1 vs1 we) chk (xs.drop (i + 1)) acc (wipeR ρ vs) h2 (fun acc h2 => mkL mu acc h2 K0)),
        ⟨ys.length, by simp, Nat.zero_le _, _, _, _, S6, .refl _ _, E6, F6.wipe vs1, k6⟩, ?_⟩
      rintro j m1 H7 ⟨rfl, hj, W7, h7, acc7, S7, p7, E7, F7, k7⟩
      by_cases hlt1 : j < ys.length
      · rw [List.drop_eq_getElem_cons hlt1] at k7
        obtain ⟨ck1, k7⟩ := k7
        obtain ⟨go1, yl1⟩ := (it1 W7 h7 H7 p7 S7.rel ck1).2 j _ (List.getElem?_eq_getElem hlt1)
        refine .inr ⟨go1, fun H' => ∃ W7 h7 acc, HidS F W1 H1 a W7 h7 H' acc ∧ Pw W6 H6 W7 H' ∧ RelE F W7 H' (wipeR ρ vs) (L2.wipe σ vs) ∧ RelE F W7 H' (wipeR ρ4 vs1) (L2.wipe σ4 vs1) ∧ turns g1 t1 (bOne we) chk1 (ys.drop (j + 1)) acc (wipeR ρ4 vs1) h7
          (fun acc h2 => turns g t (bIn iv1 g1 t1 vs1 we) chk (xs.drop (i + 1)) acc (wipeR ρ vs) h2 (fun acc h2 => mkL mu acc h2 K0)), fun H' q => ⟨ys.length - (j + 1), by omega, rfl, hlt1, q⟩, fun v8 H8 y8 => ?_⟩
        obtain ⟨p8, R8, rv8⟩ := yl1 v8 H8 y8
        refine ⟨W7, wipeR ρ4 vs1, h7, ys[j], _, F7.pres p8, R8, rv8, k7, fun ρ9 h9 W9 σ9 H9 k9 p9 E9 R9 hw9 => ⟨hw9.trans wipe_wipe, ?_⟩⟩
        refine ⟨W9, ρ9, h9, _, E9, R9, k9, fun b1 hA WA HA kA pA RA => ?_⟩
        have pB := (p8.trans p9).trans pA
        cases b1 with
        | false =>
          try dsimp only
          rw [if_neg Bool.false_ne_true]
          exact ⟨WA, hA, acc7, S7.step na pB RA, p7.trans pB.w, E7.pres pB, F7.pres pB, kA⟩
        | true =>
          try dsimp only
          rw [if_pos rfl]
          refine ⟨WA, ρ9, hA, _, E9.pres pA, RA, kA, fun y hC WC HC vC kC pC RC rC => ?_⟩
          have pD := pB.trans pC
          have SC := S7.step na pD RC
          obtain ⟨vsC, qC, rsC⟩ := SC.lst
          exact ⟨vsC, qC, by rw [rsC.length]; exact kC.1, WC, hC, acc7 ++ [y], SC.push na nA qC rsC rC, (p7.trans pD.w).trans (Pw.push SC.own qC), (E7.pres pD).write SC.own, (F7.pres pD).write SC.own, kC.2⟩
      · have e : j = ys.length := by omega
        subst e
        rw [List.drop_length] at k7
        obtain ⟨ck1, k7⟩ := k7
        exact .inl ⟨(it1 W7 h7 H7 p7 S7.rel ck1).1, W7, h7, acc7, S7, E7, k7⟩
  · have e : i = xs.length := by omega
    subst e
    rw [List.drop_length] at k2
    obtain ⟨ck, k2⟩ := k2
    exact .inl ⟨(it W2 h2 H2 (S2.pw na) S2.rel ck).1, S2.fin na nA f1 k2⟩
/-- under the block's contexts -/
abbrev Blk (X : Cx) (scope : Scope) (P : Cx → Prop) : Prop := ∀ (s : Shared) (H : Hp) (C : Addr) (cl : List (Str × Addr)) (fp : List Addr), P (X.blk s H scope (compEnvC scope cl C X.env) fp)
theorem z_lc (mu : Bool) (hc : X.calm = true) (hN : X.N.Nodup) (hi : PI X tg iter (tI X.K iv)) (ok : BlkOk X.N X.env.scope scope own)
    (hg : Blk X scope fun Y => PG Y tg (tG X.K g (own.map (·.2)))) (ht : Blk X scope fun Y => PTs Y ifs (tT X.K t)) (he : Blk X scope fun Y => PE Y elt (tE X.K we)) (hs : ∀ x, foldedSetIterable iter X.env x = pure x) :
    PE X (.ListComp elt [⟨tg, iter, ifs, 0⟩] scope pos) (tE X.K (cComp mu iv g t (bOne we) (own.map (·.2)))) :=
  (pe_lc hc hN hi ok hg ht he hs).imp tE_comp
theorem z_setLc {i : Nat} {y : Str} (mu : Bool) (hc : X.calm = true) (hN : X.N.Nodup) (hy : X.N[i]? = some y) (hyl : X.env.scope.names.lookup y = some .local)
    (hsw : swapsWith (.ListComp elt [⟨tg, iter, ifs, 0⟩] scope pos) (some (.Name y py)) spos.line X.env = pure true) (hi : PI X tg iter (tI X.K iv)) (ok : BlkOk X.N X.env.scope scope own)
    (hg : Blk X scope fun Y => PG Y tg (tG X.K g (own.map (·.2)))) (ht : Blk X scope fun Y => PTs Y ifs (tT X.K t)) (he : Blk X scope fun Y => PE Y elt (tE X.K we)) (hs : ∀ x, foldedSetIterable iter X.env x = pure x) :
    PS X (.Assign [.Name y py] (.ListComp elt [⟨tg, iter, ifs, 0⟩] scope pos) spos) (tS X.K (sSet i (cComp mu iv g t (bOne we) (own.map (·.2))))) :=
  (ps_setLc hc hN hy hyl hsw hi ok hg ht he hs).imp (tS_set tE_comp)
theorem z_lc2 {vs1 : List Nat} (mu : Bool) (hc : X.calm = true) (hN : X.N.Nodup) (hi : PI X tg iter (tI X.K iv)) (ok : BlkOk X.N X.env.scope scope own) (hv : ∀ i ∈ vs1, i ∈ own.map (·.2))
    (hg : Blk X scope fun Y => PG Y tg (tG X.K g (own.map (·.2)))) (ht : Blk X scope fun Y => PTs Y ifs (tT X.K t)) (hi1 : Blk X scope fun Y => PI Y tg1 iter1 (tI X.K iv1)) (hg1 : Blk X scope fun Y => PG Y tg1 (tG X.K g1 vs1)) (ht1 : Blk X scope fun Y => PTs Y ifs1 (tT X.K t1))
    (he : Blk X scope fun Y => PE Y elt (tE X.K we)) (hs : ∀ x, foldedSetIterable iter X.env x = pure x) (hs1 : ∀ env x, foldedSetIterable iter1 env x = pure x) :
    PE X (.ListComp elt [⟨tg, iter, ifs, 0⟩, ⟨tg1, iter1, ifs1, 0⟩] scope pos) (tE X.K (cComp mu iv g t (bIn iv1 g1 t1 vs1 we) (own.map (·.2)))) :=
  (pe_lc2 hc hN hi ok hv hg ht hi1 hg1 ht1 he hs hs1).imp tE_comp2
theorem z_setLc2 {i : Nat} {y : Str} {vs1 : List Nat} (mu : Bool) (hc : X.calm = true) (hN : X.N.Nodup) (hy : X.N[i]? = some y) (hyl : X.env.scope.names.lookup y = some .local)
    (hsw : swapsWith (.ListComp elt [⟨tg, iter, ifs, 0⟩, ⟨tg1, iter1, ifs1, 0⟩] scope pos) (some (.Name y py)) spos.line X.env = pure true) (hi : PI X tg iter (tI X.K iv)) (ok : BlkOk X.N X.env.scope scope own) (hv : ∀ i ∈ vs1, i ∈ own.map (·.2))
    (hg : Blk X scope fun Y => PG Y tg (tG X.K g (own.map (·.2)))) (ht : Blk X scope fun Y => PTs Y ifs (tT X.K t)) (hi1 : Blk X scope fun Y => PI Y tg1 iter1 (tI X.K iv1)) (hg1 : Blk X scope fun Y => PG Y tg1 (tG X.K g1 vs1)) (ht1 : Blk X scope fun Y => PTs Y ifs1 (tT X.K t1))
    (he : Blk X scope fun Y => PE Y elt (tE X.K we)) (hs : ∀ x, foldedSetIterable iter X.env x = pure x) (hs1 : ∀ env x, foldedSetIterable iter1 env x = pure x) :
    PS X (.Assign [.Name y py] (.ListComp elt [⟨tg, iter, ifs, 0⟩, ⟨tg1, iter1, ifs1, 0⟩] scope pos) spos) (tS X.K (sSet i (cComp mu iv g t (bIn iv1 g1 t1 vs1 we) (own.map (·.2))))) :=
  (ps_setLc2 hc hN hy hyl hsw hi ok hv hg ht hi1 hg1 ht1 he hs hs1).imp (tS_set tE_comp2)
end
end Z

set_option Elab.async false
set_option linter.all false
set_option maxRecDepth 100000
set_option maxHeartbeats 1000000
/-! ZE: enumerate of a tuple -/
namespace Z
open PySem PySem.Spec PyProof.Rows L2
open AutoSeq1 (wpAny_loadPart')

theorem meets_enumT (l : Addr) (items : Array Value) (n : Nat) (dct : Option Addr) (sl : Array (Option Value)) :
    Meets (Builtin.«enumerate.__new__» ⟨[.type "enumerate", .ref l], []⟩) (fun _ R s => s.heap.get? l = some { cls := .type "tuple", dict := dct, data := .seq items n, slots := sl } ∧
      R (.ok (.ret (.ref (s.heap.push { cls := .type "tuple_iterator", data := .fields #[.ref l, .int 0 0] }).objs.size)))
        { s with heap := (s.heap.push { cls := .type "tuple_iterator", data := .fields #[.ref l, .int 0 0] }).push { cls := .type "enumerate", data := .fields #[.none, .bool false, .ref s.heap.objs.size, rawInt 0, .none, .none] } }) :=
  .of_wp fun prog w A R s h => by
    obtain ⟨hp, g, d, tk, os⟩ := s; obtain ⟨hl, h⟩ := h
    have hsub := sub_enumerate
    have hL : Heap.IsTuple (Shared.heap ⟨hp, g, d, tk, os⟩) l items := ⟨_, hl, rfl, n, rfl⟩
    wp_walk using wpAny_loadPart' hl
    refine wpAny_stack_any fun st => wpAny_pure ?_
    split
    · rename_i c _ _ _ _ _
      cases (c == Value.type "enumerate")
      · wp_walk using wpAny_loadPart' hl, wpAny_pyIter_tuple hL
        exact ⟨_, rfl, h⟩
      · wp_walk using wpAny_loadPart' hl, wpAny_pyIter_tuple hL
        exact ⟨_, rfl, h⟩
    · wp_walk using wpAny_loadPart' hl, wpAny_pyIter_tuple hL
      exact ⟨_, rfl, h⟩
section
variable {prog : Program} {w : World} {A : Around} {E : Value → Shared → Prop} {s : Shared}
theorem call_enumT {l : Addr} {items : Array Value} {Q : Value → Shared → Prop} (hL : s.heap.IsTuple l items)
    (h : ∀ h', IsEnum h' (s.heap.objs.size + 1) s.heap.objs.size 0 .none → h'.IsTupleIter s.heap.objs.size l 0 → h'.objs.size = s.heap.objs.size + 2 →
      (∀ b o, s.heap.get? b = some o → h'.get? b = some o) → Q (.ref (s.heap.objs.size + 1)) { s with heap := h' }) :
    wpAny (model prog w) A (call (.type "enumerate") [.ref l]) Q E s := by
  obtain ⟨⟨c, dct, dt, sl⟩, hl, hc, n, hd⟩ := hL
  replace hc : c = .type "tuple" := hc
  replace hd : dt = .seq items n := hd
  subst hc hd
  refine callType_new F.called_enumerate (by decide) (F.typeCall_enumerate_1 _) (F.newCall_enumerate_1 _) (fun obj => F.args_object_init_2 obj _) F.entry_enumerate_new
    (meets_enumT l items n dct sl) ⟨hl, ?_⟩
  have hz : (s.heap.push { cls := .type "tuple_iterator", data := .fields #[.ref l, .int 0 0] }).objs.size = s.heap.objs.size + 1 := Heap.size_push ..
  show _ ∧ _
  rw [hz]
  have he : IsEnum ((s.heap.push { cls := .type "tuple_iterator", data := .fields #[.ref l, .int 0 0] }).push
      { cls := .type "enumerate", data := .fields #[.none, .bool false, .ref s.heap.objs.size, rawInt 0, .none, .none] }) (s.heap.objs.size + 1) s.heap.objs.size 0 .none := by
    have := Heap.get?_push_size (s.heap.push { cls := .type "tuple_iterator", data := .fields #[.ref l, .int 0 0] })
      (o := { cls := .type "enumerate", data := .fields #[.none, .bool false, .ref s.heap.objs.size, rawInt 0, .none, .none] }) rfl
    rw [hz] at this; exact this
  refine ⟨⟨_, he, rfl⟩, h _ he ⟨_, Heap.get?_push_of_some _ (Heap.get?_push_size _ rfl), rfl, rfl⟩ (by rw [Heap.size_push, hz]) fun b o x => Heap.get?_push_of_some _ (Heap.get?_push_of_some _ x)⟩

theorem apart_of {a it : Addr} {i : Nat} {items : Array Value} (hl : s.heap.IsTuple a items) (hit : s.heap.IsTupleIter it a i) : a ≠ it := fun e => by
  obtain ⟨o, ho, hc, _⟩ := hl
  obtain ⟨o', ho', hc', _⟩ := hit
  rw [← e, ho] at ho'
  cases ho'
  rw [hc] at hc'
  exact absurd (Value.type.inj hc') (by decide)
theorem apart_en {e a it : Addr} {i : Int} {old : Value} {items : Array Value} (hl : s.heap.IsTuple a items) (he : IsEnum s.heap e it i old) : e ≠ a := fun q => by
  obtain ⟨o, ho, hc, _⟩ := hl
  rw [← q] at ho
  rw [show s.heap.get? e = some _ from he] at ho
  cases ho
  exact absurd (Value.type.inj hc) (by decide)
theorem pyNext_enumT_item {e it l : Addr} {i : Nat} {items : Array Value} {x old : Value} {Q : Option Value → Shared → Prop} (hh : A.handled = none)
    (he : IsEnum s.heap e it i old) (hit : s.heap.IsTupleIter it l i) (hl : s.heap.IsTuple l items) (hx : items[i]? = some x) (hne : e ≠ it)
    (hQ : ∀ h' tk, IsEnumOut h' e it ((i : Int) + 1) x s.heap.objs.size → h'.IsTupleIter it l (i + 1) →
      h'.get? s.heap.objs.size = some { cls := .type "tuple", data := .seq #[.int i tk, x] } → h'.objs.size = s.heap.objs.size + 1 →
      (∀ b o, b ≠ e → b ≠ it → s.heap.get? b = some o → h'.get? b = some o) → Q (some (.ref s.heap.objs.size)) { s with heap := h', toks := tk + 1 }) :
    wpAny (model prog w) A (pyNext (.ref e)) Q E s := by
  have D := Draws.tuple (prog := prog) (w := w) (A := A.in1) hh it l (apart_of hl hit) items
  have hnl := apart_en hl he
  refine wpAny_pyNext_enum_itemD D he ⟨hit, hl⟩ (Array.getElem?_eq_some_iff.mp hx).1 hne (by simp [hne, hnl]) fun y h' tk hy a st b d k => ?_
  have e1 : y = x := Option.some.inj (hy.symm.trans hx)
  subst e1
  exact hQ h' tk a st.1 b d k
theorem pyNext_enumT_end {e it l : Addr} {i : Nat} {items : Array Value} {old : Value} {Q : Option Value → Shared → Prop} (hh : A.handled = none)
    (he : IsEnum s.heap e it i old) (hit : s.heap.IsTupleIter it l i) (hl : s.heap.IsTuple l items) (hi : i = items.size)
    (hQ : ∀ h', Heap.ExtBut it s.heap h' → Q none { s with heap := h' }) : wpAny (model prog w) A (pyNext (.ref e)) Q E s := by
  have D := Draws.tuple (prog := prog) (w := w) (A := A.in1) hh it l (apart_of hl hit) items
  subst hi
  exact wpAny_pyNext_enum_endD D he ⟨hit, hl⟩ hQ
end
/-- the tuple at a, each item in a new pair -/
def IteT (K : PySem.W.Frag) (a : Addr) : It :=
  ⟨fun i H => ∃ (xs : List V) (x : V), SqT K H a xs ∧ xs[i]? = some x, fun i H v H' => ∃ T x, v = .ref T ∧ H T = none ∧ H' = upd H T (.tup [.int (i : Nat), x]) ∧ ∀ xs, SqT K H a xs → xs[i]? = some x, fun i H => ∃ xs : List V, SqT K H a xs ∧ xs.length = i⟩
theorem turn_enumT {P : Program} {w : World} {K : PySem.W.Frag} {elts : List Expr} {kk : Nat} {tpos : Pos} (a e it : Addr) :
    Turn P w K (.Tuple elts kk tpos) (IteT K a) [e, it] e (fun i h => (∃ old, IsEnum h e it ((i : Nat) : Int) old) ∧ h.IsTupleIter it a i ∧ e ≠ it) where
  mem := by simp
  obj := fun i h st b hb => by
    obtain ⟨⟨old, he⟩, ⟨o, ho, hc, hd⟩, _⟩ := st
    have e' : b = e ∨ b = it := by simpa using hb
    rcases e' with z | z
    · rw [z]; exact ⟨_, he, fun v q => nomatch q⟩
    · rw [z]; exact ⟨o, ho, fun v q => by rw [hd] at q; cases q⟩
  keep := fun i h h' st k => let ⟨⟨old, he⟩, hi, hne⟩ := st; ⟨⟨old, k e (by simp) _ he⟩, hi.at fun o q => k it (by simp) o q, hne⟩
  item := by
    intro X hP hw hK hc i pins s σ H E I hf st hg
    subst hP hw hK
    obtain ⟨⟨old, he⟩, hit, hne⟩ := st
    obtain ⟨xs, x, hq, hx⟩ := hg
    obtain ⟨its, rv, p, hz⟩ := I.tuple hq
    obtain ⟨u, hu, ru⟩ := rv.get hx
    have hel : e < s.heap.objs.size := Heap.lt_size he
    have hil : it < s.heap.objs.size := by obtain ⟨_, q, _⟩ := hit; exact Heap.lt_size q
    refine pyNext_enumT_item (I.ok.hd hc) he hit (show s.heap.IsTuple a its.toArray from p) (x := u) (by simpa using hu) hne fun h' tk ho hit' hT hsz hk => ?_
    refine ⟨_, rfl, wpAny_letOwnedTupleGo_enum (s := { s with heap := h', toks := tk + 1 }) ho fun h'' he' sb => ?_⟩
    have hT2 : h''.get? s.heap.objs.size = some { cls := .type "tuple", data := .seq #[.int i tk, u] } := (sb.2 _ (Nat.ne_of_gt hel)).trans hT
    have new : ObjOk X.prog X.w (upd H s.heap.objs.size (.tup [.int (i : Nat), x])) h'' s.heap.objs.size (.tup [.int (i : Nat), x]) :=
      ⟨by show 2 ≤ sizeLine; decide, [.int i tk, u], .cons ⟨_, rfl⟩ (.cons ru .nil), ⟨_, hT2, rfl, _, rfl⟩⟩
    have I1 : Inv X pins σ (upd H s.heap.objs.size (.tup [.int (i : Nat), x])) { s with heap := h'', toks := tk + 1 } :=
      I.turnedNew (ch := [e, it]) (fun b ob hb q => (sb.2 b (fun z => hb (by simp [z]))).trans (hk b ob (fun z => hb (by simp [z])) (fun z => hb (by simp [z])) q)) hf (Nat.le_refl _) new
    refine ⟨.ref s.heap.objs.size, _, I1, rfl, ⟨_, x, rfl, I.hok.fresh (Nat.le_refl _), rfl, fun ys hy => by rw [I.tuple_inj hy hq]; exact hx⟩, ⟨⟨u, ?_⟩, hit'.at fun o q => (sb.2 it (Ne.symm hne)).trans q, hne⟩, fun b hb => ?_⟩
    · have e1 : ((i + 1 : Nat) : Int) = (i : Int) + 1 := by omega
      rw [e1]; exact he'
    · have hb' : b < s.heap.objs.size := by
        have e' : b = e ∨ b = it := by simpa using hb
        rcases e' with z | z
        · rw [z]; exact hel
        · rw [z]; exact hil
      rw [upd_ne (Nat.ne_of_lt hb')]
      exact (hf b hb).1
  done := by
    intro X hP hw hK hc i pins s σ H E I hf st hg
    subst hP hw hK
    obtain ⟨⟨old, he⟩, hit, hne⟩ := st
    obtain ⟨xs, hq, hx⟩ := hg
    obtain ⟨its, rv, p, hz⟩ := I.tuple hq
    obtain ⟨f0, f1, f2, f3, f4, f5⟩ := hf it (by simp)
    have hl := rv.length
    exact pyNext_enumT_end (I.ok.hd hc) he hit (show s.heap.IsTuple a its.toArray from p) (by simp; omega) fun h' eb => ⟨rfl, I.turned (t' := s.toks) (fun b o hb q => eb b o hb q) f0 f1 f3 f4 f5⟩
  self := fun A i s Q E st h => let ⟨⟨_, he⟩, _⟩ := st; wpAny_pyIter_enum he h
def iEnumA (K : PySem.W.Frag) (ta : TA) : TI := fun σ H R => ta σ H fun vs H1 => ∃ a xs, vs = [.ref a] ∧ ((SqL K H1 a xs ∧ R (Ite K a) H1) ∨ (SqT K H1 a xs ∧ R (IteT K a) H1))
theorem pi_enumA {X : Cx} {e : Expr} {ta : TA} {p pos tpos : Pos} {elts : List Expr} {kk : Nat} (hg : Gl X "enumerate") (hm : X.mg "enumerate" = none) (ha : PA X [e] ta) (hs : starEach [e] X.env = [(false, eval e X.env)]) :
    PI X (.Tuple elts kk tpos) (.Call (.Name "enumerate" p) [e] [] pos) (iEnumA X.K ta) := by
  refine ⟨fun pins s σ H R I h => ?_⟩
  refine Call_ (ld_blt I hg hm boot_enumerate (PyProof.Rows.callWith_type1 (thn (ha.run pos pins s σ H _ I h) fun us s1 ⟨vs, H1, I1, r1, q1⟩ => ?_) hs rfl))
  obtain ⟨a, xs, ex, q⟩ := q1
  subst ex
  cases r1 with
  | cons r rr =>
    cases rr
    cases r
    have fresh : ∀ b, b ∈ [s1.heap.objs.size + 1, s1.heap.objs.size] → FpOk X pins H1 b := fun b hb => by
      have e' : b = s1.heap.objs.size + 1 ∨ b = s1.heap.objs.size := by simpa using hb
      have hle : s1.heap.objs.size ≤ b := by
        rcases e' with z | z
        · rw [z]; exact Nat.le_add_right _ _
        · rw [z]; exact Nat.le_refl _
      exact I1.fpOk hle (I1.hok.fresh hle)
    rcases q with ⟨hq, q⟩ | ⟨hq, q⟩
    · obtain ⟨its, rv, p', hz⟩ := I1.list hq
      refine call_enumerate_list p'.isList fun h' he hit hsz hk => wpAny_pyIter_enum he ?_
      have I2 : Inv X pins σ H1 { s1 with heap := h' } := I1.kept (t' := s1.toks) hk
      exact ⟨s1.heap.objs.size + 1, [s1.heap.objs.size + 1, s1.heap.objs.size], _, _, H1, rfl, I2, turn_enum a (s1.heap.objs.size + 1) s1.heap.objs.size, ⟨⟨.none, he⟩, hit, Nat.succ_ne_self _⟩, fresh, q⟩
    · obtain ⟨its, rv, p', hz⟩ := I1.tuple hq
      refine call_enumT (show s1.heap.IsTuple a its.toArray from p') fun h' he hit hsz hk => wpAny_pyIter_enum he ?_
      have I2 : Inv X pins σ H1 { s1 with heap := h' } := I1.kept (t' := s1.toks) hk
      exact ⟨s1.heap.objs.size + 1, [s1.heap.objs.size + 1, s1.heap.objs.size], _, _, H1, rfl, I2, turn_enumT a (s1.heap.objs.size + 1) s1.heap.objs.size, ⟨⟨.none, he⟩, hit, Nat.succ_ne_self _⟩, fresh, q⟩
end Z

set_option Elab.async false
set_option linter.all false
set_option maxRecDepth 100000
/-! Z2h: what is walked; locks -/
namespace Z
open PySem PySem.Spec PyProof.Rows L2

theorem Pw.rdT {F : PySem.W.Frag} {W W' : Vw} {H H' : Hp} (p : Pw W H W' H') {a : Addr} {vs : List V} (h : RdT F W H a vs) : RdT F W' H' a vs := by
  rcases h with ⟨n, h | ⟨o, h⟩⟩ | h
  · exact .inl ⟨(p.keep a _ n h).2, .inl (p.keep a _ n h).1⟩
  · exact .inl ⟨(p.keep a _ n h).2, .inr ⟨o, (p.keep a _ n h).1⟩⟩
  · exact .inr h
theorem Pw.rdS {F : PySem.W.Frag} {W W' : Vw} {H H' : Hp} (p : Pw W H W' H') {a : Addr} {vs : List V} (h : RdS F W H a vs) : RdS F W' H' a vs := by
  rcases h with ⟨n, h | ⟨o, h⟩⟩ | h
  · exact .inl ⟨(p.keep a _ n h).2, .inl (p.keep a _ n h).1⟩
  · exact .inl ⟨(p.keep a _ n h).2, .inr ⟨o, (p.keep a _ n h).1⟩⟩
  · exact .inr h
theorem Pw.rdL {W W' : Vw} {H H' : Hp} (p : Pw W H W' H') {a : Addr} {vs : List V} (h : RdL W H a vs) : RdL W' H' a vs := ⟨(p.keep a _ h.1 h.2).2, (p.keep a _ h.1 h.2).1⟩
theorem Pw.at_ {W W' : Vw} {H H' : Hp} (p : Pw W H W' H') {n : Nat} {a : Addr} (h : W.m[n]? = some a) : W'.m[n]? = some a := by
  obtain ⟨t, e, _⟩ := p.ext
  rw [e, List.getElem?_append_left (List.getElem?_eq_some_iff.mp h).1]
  exact h
mutual
theorem Rep.pw {F : PySem.W.Frag} {W W' : Vw} {H H' : Hp} (p : Pw W H W' H') : ∀ {d : D} {v : V}, Rep F W H d v → Rep F W' H' d v
  | .non, _, h => by simpa [Rep] using h
  | .bl _, _, h => by simpa [Rep] using h
  | .int _, _, h => by simpa [Rep] using h
  | .str _, _, h => by simpa [Rep] using h
  | .tup xs, v, h => by
    rw [Rep] at h ⊢
    obtain ⟨a, vs, e, r, q⟩ := h
    exact ⟨a, vs, e, p.rdT r, Reps.pw p q⟩
  | .lst xs, v, h => by
    rw [Rep] at h ⊢
    obtain ⟨a, vs, e, r, q⟩ := h
    exact ⟨a, vs, e, p.rdL r, Reps.pw p q⟩
  | .scr ns, v, h => by
    rw [Rep] at h ⊢
    obtain ⟨a, e, q⟩ := h
    exact ⟨a, e, p.rdS q⟩
  | .ref n, v, h => by
    rw [Rep] at h ⊢
    obtain ⟨a, e, q⟩ := h
    exact ⟨a, e, p.at_ q⟩
theorem Reps.pw {F : PySem.W.Frag} {W W' : Vw} {H H' : Hp} (p : Pw W H W' H') : ∀ {xs : List D} {vs : List V}, Reps F W H xs vs → Reps F W' H' xs vs
  | [], _, h => by simpa [Reps] using h
  | x :: xs, vs, h => by
    rw [Reps] at h ⊢
    obtain ⟨y, ys, e, r, q⟩ := h
    exact ⟨y, ys, e, Rep.pw p r, Reps.pw p q⟩
end

def kD : Key → D
  | .inl i => .int i
  | .inr x => .str x
theorem kD_rep {F : PySem.W.Frag} {W : Vw} {H : Hp} (k : Key) : Rep F W H (kD k) (kV k) := by
  cases k with
  | inl i => exact .int _
  | inr i => exact .str _
/-- a list as it stands at each turn: chk the same items still -/
theorem itm_list {F : PySem.W.Frag} {W : Vw} {H : Hp} {a : Addr} {xs : List D} {chk : MH → Prop} (h : ∀ W' h' H', Pw W H W' H' → RelH F W' h' H' → chk h' → ∃ vs, SqL F H' a vs ∧ Reps F W' H' xs vs) : Itm F (Itl F a) W H xs chk := by
  intro W' h' H' p R ck
  obtain ⟨vs, q, rs⟩ := h W' h' H' p R ck
  refine ⟨⟨vs, q, by rw [rs.length]; exact Nat.le_refl _⟩, fun i x e => ?_⟩
  obtain ⟨v, ev, rv⟩ := rs.get e
  refine ⟨⟨vs, v, q, ev⟩, fun v' H2 y => ?_⟩
  obtain ⟨rfl, hy⟩ := y
  have := hy vs q
  rw [ev] at this
  cases this
  exact ⟨.refl _ _, R, rv⟩
theorem itm_tup {F : PySem.W.Frag} {W : Vw} {H : Hp} {a : Addr} {xs : List D} {chk : MH → Prop} {vs : List V} (q : RdT F W H a vs) (rs : Reps F W H xs vs) : Itm F (Itt F a) W H xs chk := by
  intro W' h' H' p R ck
  have q := (p.rdT q).sq
  have rs := rs.pw p
  refine ⟨⟨vs, q, by rw [rs.length]; exact Nat.le_refl _⟩, fun i x e => ?_⟩
  obtain ⟨v, ev, rv⟩ := rs.get e
  refine ⟨⟨vs, v, q, ev⟩, fun v' H2 y => ?_⟩
  obtain ⟨rfl, hy⟩ := y
  have := hy vs q
  rw [ev] at this
  cases this
  exact ⟨.refl _ _, R, rv⟩
theorem itm_str {F : PySem.W.Frag} {W : Vw} {H : Hp} {x : Str} {chk : MH → Prop} : Itm F (Its x) W H (x.cps.toList.map fun c => .str ⟨#[c]⟩) chk := by
  intro W' h' H' p R ck
  refine ⟨by simp [Its], fun i y e => ?_⟩
  rw [List.getElem?_map] at e
  cases ec : x.cps.toList[i]? with
  | none => rw [ec] at e; cases e
  | some c =>
    rw [ec] at e
    cases e
    have ec' : x.cps[i]? = some c := by simpa using ec
    refine ⟨(Array.getElem?_eq_some_iff.mp ec').1, fun v' H2 y => ?_⟩
    obtain ⟨rfl, c', ec2, rfl⟩ := y
    rw [ec'] at ec2
    cases ec2
    exact ⟨.refl _ _, R, .str _⟩
theorem itm_keys {F : PySem.W.Frag} {W : Vw} {H : Hp} {a : Addr} {o : PySem.Obj} {kvs : List (Key × D)} {ks : List (Key × V)} {chk : MH → Prop} (q : H a = some (.frz o (.dK ks))) (e : ks.map (·.1) = kvs.map (·.1)) : Itm F (Itk a o ks) W H (kvs.map fun kv => kD kv.1) chk := by
  intro W' h' H' p R ck
  have q' := p.frz _ _ _ q
  have hl : ks.length = kvs.length := by simpa using congrArg List.length e
  refine ⟨⟨q', by rw [hl]; simp⟩, fun i y ey => ?_⟩
  have ey' : ((kvs.map (·.1))[i]?).map kD = some y := by
    rw [List.getElem?_map] at ey ⊢
    rw [← ey]
    cases kvs[i]? <;> rfl
  rw [← e, List.getElem?_map] at ey'
  cases ek : ks[i]? with
  | none => rw [ek] at ey'; cases ey'
  | some kv =>
    rw [ek] at ey'
    cases ey'
    refine ⟨⟨q', (List.getElem?_eq_some_iff.mp ek).1⟩, fun v' H2 z => ?_⟩
    obtain ⟨rfl, k, v, e2, rfl⟩ := z
    rw [ek] at e2
    cases e2
    exact ⟨.refl _ _, R, kD_rep _⟩
/-- walked: a value -/
def iW (d : D) (h : MH) (R : List D → (MH → Prop) → MH → Prop) : Prop := match d with
  | .tup xs => R xs (fun _ => True) h
  | .lst xs => R xs (fun _ => True) h
  | .scr ns => R (ns.map .int) (fun _ => True) h
  | .str z => R (z.cps.toList.map fun c => .str ⟨#[c]⟩) (fun _ => True) h
  | .ref n => match h[n]? with
    | some (.lst xs) => R xs (fun h' => h'[n]? = some (.lst xs)) h
    | some (.lck kvs) => R (kvs.map fun kv => kD kv.1) (fun _ => True) h
    | _ => False
  | _ => False
def iVal (w : Ev) : Iv := fun ρ h R => w ρ h fun d h1 => iW d h1 R
section
variable {X : Cx} {e a b tg : Expr} {es : List Expr} {w : Ev} {was : Av} {pos p : Pos}
theorem z_iVal (he : PE X e (tE X.K w)) : PI X tg e (tI X.K (iVal w)) := by
  refine ⟨fun pins s σ H R I hw => ?_⟩
  obtain ⟨W, ρ, h, K0, E, Rh, w, f⟩ := hw
  refine thn (he.run pins s σ H (fun v H1 => ∃ d W1 h1, Pres W H W1 H1 ∧ RelH X.K W1 h1 H1 ∧ Rep X.K W1 H1 d v ∧ iW d h1 K0) I ⟨W, ρ, h, _, E, Rh, w, fun d h1 W1 H1 v k p1 R1 r => ⟨d, W1, h1, p1, R1, r, k⟩⟩) fun v s1 ⟨x, H1, I1, r1, d, W1, h1, p1, R1, r, k⟩ => ?_
  have fin : ∀ {xs chk J}, K0 xs chk h1 → Itm X.K J W1 H1 xs chk → R J H1 := fun {xs chk J} k it => f xs chk h1 W1 H1 J k p1 R1 it
  have goL : ∀ {a : Addr} {vs : List V} {q : R (Itl X.K a) H1}, SqL X.K H1 a vs → wpAny (model X.prog X.w) X.A (pyIter (.ref a)) (PIE X pins σ tg R) X.xe s1 := fun {a vs q} hq => by
    obtain ⟨its, rv, p, hz⟩ := I1.list hq
    exact wpAny_pyIter_list p.isList (pi_one (tk := s1.toks) I1 _ (turn_list a _) ⟨_, Heap.get?_push_size _ rfl, rfl, rfl⟩ q)
  cases d with
  | tup xs =>
    obtain ⟨a, vs, rfl, q, rs⟩ := r.tup_inv
    cases r1
    obtain ⟨its, rv, p, hz⟩ := I1.tuple q.sq
    exact wpAny_pyIter_tuple (show s1.heap.IsTuple a its.toArray from p) (pi_one (tk := s1.toks) I1 _ (turn_tuple a _) ⟨_, Heap.get?_push_size _ rfl, rfl, rfl⟩ (fin k (itm_tup q rs)))
  | lst xs =>
    rw [Rep] at r
    obtain ⟨a, vs, rfl, q, rs⟩ := r
    cases r1
    exact goL (q := fin k (itm_list fun W' h' H' p _ _ => ⟨vs, (p.rdL q).sq, rs.pw p⟩)) q.sq
  | scr ns =>
    rw [Rep] at r
    obtain ⟨a, rfl, q⟩ := r
    cases r1
    exact goL (q := fin k (itm_list fun W' h' H' p _ _ => ⟨_, (p.rdS q).sq, Reps.map_f _ _ (fun i => .int i) ns⟩)) q.sq
  | str z =>
    cases r.str_inv
    obtain ⟨t, rfl⟩ := r1
    have q := fin k itm_str
    cases ha : z.cps.all (· < 128)
    · exact wpAny_pyIter_wide ha (pi_one (tk := s1.toks) I1 _ (turn_str _ z t "str_iterator" (.inr rfl)) ⟨_, Heap.get?_push_size _ rfl, rfl, rfl⟩ q)
    · exact wpAny_pyIter_ascii ha (pi_one (tk := s1.toks) I1 _ (turn_str _ z t "str_ascii_iterator" (.inl rfl)) ⟨_, Heap.get?_push_size _ rfl, rfl, rfl⟩ q)
  | ref n =>
    obtain ⟨a, rfl, ea⟩ := ref_inv r
    cases r1
    simp only [iW] at k
    cases eo : h1[n]? with
    | none => simp [eo] at k
    | some ob =>
      cases ob with
      | lst xs =>
        simp only [eo] at k
        obtain ⟨vs, q, rs⟩ := R1.at_ n _ a eo ea
        exact goL (q := fin k (itm_list fun W' h' H' p R' ck => by
          obtain ⟨vs', q', rs'⟩ := R'.at_ n _ a ck (p.at_ ea)
          exact ⟨vs', .inl (.inl q'), rs'⟩)) (.inl (.inl q))
      | dic _ => simp [eo] at k
      | lck kvs =>
        simp only [eo] at k
        obtain ⟨ks, od, q, e1, e2⟩ := R1.at_ n _ a eo ea
        obtain ⟨hs, hgd, hx, es, ep, vs, hdt, hsz, kv, hm⟩ := I1.frzK q
        refine iter_keys hs hgd hx hdt (pi_one (tk := s1.toks) I1 _ (turn_keys _ hdt) ⟨_, Heap.get?_push_size _ rfl, rfl, ?_⟩ (fin k (itm_keys q e1)))
        rw [hsz] <;> rfl
  | _ => exact k.elim
/-- range -/
def iRange1 (as : Av) : Iv := fun ρ h R => as ρ h fun ds h1 => ∃ j : Int, ds = [.int j] ∧ -(2 ^ 62) ≤ j ∧ j < 2 ^ 62 ∧ R ((List.range j.toNat).map fun (i : Nat) => .int i) (fun _ => True) h1
def iRange2 (as : Av) : Iv := fun ρ h R => as ρ h fun ds h1 => ∃ i j : Int, ds = [.int i, .int j] ∧ (-(2 ^ 62) ≤ i ∧ i < 2 ^ 62 ∧ -(2 ^ 62) ≤ j ∧ j < 2 ^ 62) ∧ R ((List.range (j - i).toNat).map fun (k : Nat) => .int (i + k)) (fun _ => True) h1
theorem itm_range {F : PySem.W.Frag} {W : Vw} {H : Hp} {lo : Int} {n : Nat} {f : Nat → D} {chk : MH → Prop} (hf : ∀ k : Nat, f k = .int (lo + (k : Int))) : Itm F (Itr lo n) W H ((List.range n).map f) chk := by
  intro W' h' H' p R ck
  refine ⟨by simp [Itr], fun i y e => ?_⟩
  rw [List.getElem?_map] at e
  cases ec : (List.range n)[i]? with
  | none => rw [ec] at e; cases e
  | some c =>
    rw [ec] at e
    cases e
    obtain ⟨h1, h2⟩ := List.getElem?_eq_some_iff.mp ec
    rw [List.getElem_range] at h2
    subst h2
    refine ⟨by simpa [Itr] using h1, fun v' H2 y => ?_⟩
    obtain ⟨rfl, rfl⟩ := y
    rw [hf i]
    exact ⟨.refl _ _, R, .int _⟩
theorem z_range1 (hg : Gl X "range") (hm : X.mg "range" = none) (h0 : isStar a = false) (ha : PA X [a] (tA X.K was)) : PI X tg (.Call (.Name "range" p) [a] [] pos) (tI X.K (iRange1 was)) := by
  have h := pi_range1 (tg := tg) (p := p) (pos := pos) hg hm ha (starEach_plain h0)
  refine ⟨fun pins s σ H R I hw => h.run pins s σ H R I ?_⟩
  obtain ⟨W, ρ, h, K0, E, Rh, w, f⟩ := hw
  refine ⟨W, ρ, h, _, E, Rh, w, fun ds h1 W1 H1 vs k p1 R1 rs => ?_⟩
  obtain ⟨j, rfl, k1, k2, k3⟩ := k
  obtain ⟨v, rfl, r⟩ := rs.one
  cases r.int_inv
  exact ⟨j, rfl, k1, k2, f _ _ _ _ _ _ k3 p1 R1 (itm_range fun k => by simp)⟩
theorem z_range2 (hg : Gl X "range") (hm : X.mg "range" = none) (h0 : isStar a = false) (h1 : isStar b = false) (ha : PA X [a, b] (tA X.K was)) : PI X tg (.Call (.Name "range" p) [a, b] [] pos) (tI X.K (iRange2 was)) := by
  have h := pi_range2 (tg := tg) (p := p) (pos := pos) hg hm ha (by rw [starEach_plain h0, starEach_plain h1]; rfl) (by rw [starEach_plain h1]; rfl)
  refine ⟨fun pins s σ H R I hw => h.run pins s σ H R I ?_⟩
  obtain ⟨W, ρ, h, K0, E, Rh, w, f⟩ := hw
  refine ⟨W, ρ, h, _, E, Rh, w, fun ds h1 W1 H1 vs k p1 R1 rs => ?_⟩
  obtain ⟨i, j, rfl, k1, k3⟩ := k
  obtain ⟨v, v', rfl, r, r'⟩ := rs.two
  cases r.int_inv
  cases r'.int_inv
  exact ⟨i, j, rfl, k1, f _ _ _ _ _ _ k3 p1 R1 (itm_range fun k => rfl)⟩
/-! enumerate, zip -/
def eqKind : D → D → Bool
  | .tup _, .tup _ => true
  | .tup _, _ => false
  | _, .tup _ => false
  | _, _ => true
/-- an item list that cannot change while it is walked -/
def frzOf (d : D) : Option (List D) := match d with
  | .tup xs => some xs
  | .lst xs => some xs
  | _ => none
def iEnumV (as : Av) : Iv := fun ρ h R => as ρ h fun ds h1 => ∃ d xs, ds = [d] ∧ frzOf d = some xs ∧ R ((List.range xs.length).zip xs |>.map fun p => .tup [.int p.1, p.2]) (fun _ => True) h1
def iZip (as : Av) : Iv := fun ρ h R => as ρ h fun ds h1 => ∃ d d' xs ys, ds = [d, d'] ∧ eqKind d d' = true ∧ frzOf d = some xs ∧ frzOf d' = some ys ∧ R (xs.zip ys |>.map fun p => .tup [p.1, p.2]) (fun _ => True) h1
theorem frzOf_ok {F : PySem.W.Frag} {W : Vw} {H : Hp} {d : D} {v : V} {xs : List D} (e : frzOf d = some xs) (r : Rep F W H d v) : ∃ a vs, v = .ref a ∧ ((d = .tup xs ∧ RdT F W H a vs) ∨ (d = .lst xs ∧ RdL W H a vs)) ∧ Reps F W H xs vs := by
  cases d with
  | tup ys =>
    cases e
    obtain ⟨a, vs, e1, q, r⟩ := r.tup_inv
    exact ⟨a, vs, e1, .inl ⟨rfl, q⟩, r⟩
  | lst ys =>
    cases e
    rw [Rep] at r
    obtain ⟨a, vs, e1, q, r⟩ := r
    exact ⟨a, vs, e1, .inr ⟨rfl, q⟩, r⟩
  | _ => simp [frzOf] at e
theorem pair_new {F : PySem.W.Frag} {W : Vw} {H : Hp} {h : MH} (R : RelH F W h H) {T : Addr} (n : H T = none) {x y : D} {vx vy : V} (rx : Rep F W H x vx) (ry : Rep F W H y vy) :
    Pres W H W (upd H T (.tup [vx, vy])) ∧ RelH F W h (upd H T (.tup [vx, vy])) ∧ Rep F W (upd H T (.tup [vx, vy])) (.tup [x, y]) (.ref T) :=
  ⟨Pres.new (R.free n) n _, R.new n _, Rep.tupNew (R.free n) n (.cons rx (.cons ry .nil))⟩
theorem enum_get {xs : List D} {i : Nat} {y : D} (e : ((List.range xs.length).zip xs |>.map fun p => D.tup [.int p.1, p.2])[i]? = some y) : ∃ x, xs[i]? = some x ∧ y = .tup [.int i, x] := by
  rw [List.getElem?_map] at e
  cases ec : ((List.range xs.length).zip xs)[i]? with
  | none => rw [ec] at e; cases e
  | some c =>
    rw [ec] at e
    cases e
    rw [List.getElem?_zip_eq_some] at ec
    obtain ⟨h1, h2⟩ := ec
    obtain ⟨h3, h4⟩ := List.getElem?_eq_some_iff.mp h1
    rw [List.getElem_range] at h4
    exact ⟨c.2, h2, by show D.tup [.int ((c.1 : Nat) : Int), c.2] = _; rw [← h4]⟩
theorem z_enum {elts : List Expr} {kk : Nat} {tpos : Pos} (hg : Gl X "enumerate") (hm : X.mg "enumerate" = none) (h0 : isStar a = false) (ha : PA X [a] (tA X.K was)) : PI X (.Tuple elts kk tpos) (.Call (.Name "enumerate" p) [a] [] pos) (tI X.K (iEnumV was)) := by
  have h := pi_enumA (elts := elts) (kk := kk) (tpos := tpos) (p := p) (pos := pos) hg hm ha (starEach_plain h0)
  refine ⟨fun pins s σ H R I hw => h.run pins s σ H R I ?_⟩
  obtain ⟨W, ρ, h, K0, E, Rh, w, f⟩ := hw
  refine ⟨W, ρ, h, _, E, Rh, w, fun ds h1 W1 H1 vs k p1 R1 rs => ?_⟩
  obtain ⟨d, xs, rfl, e, k⟩ := k
  obtain ⟨v, rfl, r⟩ := rs.one
  obtain ⟨a, us, rfl, q, rx⟩ := frzOf_ok e r
  rcases q with ⟨_, q⟩ | ⟨_, q⟩
  · refine ⟨a, us, rfl, .inr ⟨q.sq, f _ _ _ _ _ _ k p1 R1 fun W' h' H' p R' _ => ?_⟩⟩
    have q := (p.rdT q).sq
    have rx := rx.pw p
    refine ⟨⟨us, q, by rw [rx.length]; simp⟩, fun i y ey => ?_⟩
    obtain ⟨x, ex, rfl⟩ := enum_get ey
    obtain ⟨vx, evx, rvx⟩ := rx.get ex
    refine ⟨⟨us, vx, q, evx⟩, fun v' H2 z => ?_⟩
    obtain ⟨T, x', rfl, n, rfl, hx'⟩ := z
    have := hx' us q
    rw [evx] at this
    cases this
    exact pair_new R' n (.int _) rvx
  · refine ⟨a, us, rfl, .inl ⟨q.sq, f _ _ _ _ _ _ k p1 R1 fun W' h' H' p R' _ => ?_⟩⟩
    have q := (p.rdL q).sq (F := X.K)
    have rx := rx.pw p
    refine ⟨⟨us, q, by rw [rx.length]; simp⟩, fun i y ey => ?_⟩
    obtain ⟨x, ex, rfl⟩ := enum_get ey
    obtain ⟨vx, evx, rvx⟩ := rx.get ex
    refine ⟨⟨us, vx, q, evx⟩, fun v' H2 z => ?_⟩
    obtain ⟨T, x', rfl, n, rfl, hx'⟩ := z
    have := hx' us q
    rw [evx] at this
    cases this
    exact pair_new R' n (.int _) rvx
theorem zip_get {xs ys : List D} {i : Nat} {y : D} (e : (xs.zip ys |>.map fun p => D.tup [p.1, p.2])[i]? = some y) : ∃ a b, xs[i]? = some a ∧ ys[i]? = some b ∧ y = .tup [a, b] := by
  rw [List.getElem?_map] at e
  cases ec : (xs.zip ys)[i]? with
  | none => rw [ec] at e; cases e
  | some c =>
    rw [ec] at e
    cases e
    rw [List.getElem?_zip_eq_some] at ec
    exact ⟨c.1, c.2, ec.1, ec.2, rfl⟩
theorem z_zip {elts : List Expr} {kk : Nat} {tpos : Pos} (hg : Gl X "zip") (hm : X.mg "zip" = none) (h0 : isStar a = false) (h1 : isStar b = false) (ha : PA X [a, b] (tA X.K was)) : PI X (.Tuple elts kk tpos) (.Call (.Name "zip" p) [a, b] [] pos) (tI X.K (iZip was)) := by
  have h := RZ.pi_zipA (elts := elts) (kk := kk) (tpos := tpos) (p := p) (pos := pos) hg hm ha (by rw [starEach_plain h0]) (by rw [backTo_any, starEach_all]; simp [h1])
  refine ⟨fun pins s σ H R I hw => h.run pins s σ H R I ?_⟩
  obtain ⟨W, ρ, h, K0, E, Rh, w, f⟩ := hw
  refine ⟨W, ρ, h, _, E, Rh, w, fun ds h1 W1 H1 vs k p1 R1 rs => ?_⟩
  obtain ⟨d, d', xs, ys, rfl, ek, e, e', k⟩ := k
  obtain ⟨v, v', rfl, r, r'⟩ := rs.two
  obtain ⟨a, us, rfl, q, rx⟩ := frzOf_ok e r
  obtain ⟨b, us', rfl, q', rx'⟩ := frzOf_ok e' r'
  have len : ∀ {W' H' i}, Reps X.K W' H' xs us → Reps X.K W' H' ys us' → (xs.zip ys |>.map fun p => D.tup [p.1, p.2]).length ≤ i → us.length ≤ i ∨ us'.length ≤ i := fun {W' H' i} h1 h2 hi => by
    rw [h1.length, h2.length]
    simp [List.length_zip] at hi
    omega
  rcases q with ⟨rfl, q⟩ | ⟨rfl, q⟩
  · rcases q' with ⟨rfl, q'⟩ | ⟨rfl, q'⟩
    · refine ⟨a, b, us, us', rfl, .inr ⟨q.sq, q'.sq, f _ _ _ _ _ _ k p1 R1 fun W' h' H' p R' _ => ?_⟩⟩
      have q := (p.rdT q).sq
      have q' := (p.rdT q').sq
      have rx := rx.pw p
      have rx' := rx'.pw p
      refine ⟨⟨us, us', q, q', len rx rx' (Nat.le_refl _)⟩, fun i y ey => ?_⟩
      obtain ⟨x, x', ex, ex', rfl⟩ := zip_get ey
      obtain ⟨vx, evx, rvx⟩ := rx.get ex
      obtain ⟨vx', evx', rvx'⟩ := rx'.get ex'
      refine ⟨⟨us, us', vx, vx', q, q', evx, evx'⟩, fun v' H2 z => ?_⟩
      obtain ⟨T, y1, y2, rfl, n, rfl, hy1, hy2⟩ := z
      have e1 := hy1 us q
      have e2 := hy2 us' q'
      rw [evx] at e1
      rw [evx'] at e2
      cases e1
      cases e2
      exact pair_new R' n rvx rvx'
    · simp [eqKind] at ek
  · rcases q' with ⟨rfl, q'⟩ | ⟨rfl, q'⟩
    · simp [eqKind] at ek
    · refine ⟨a, b, us, us', rfl, .inl ⟨q.sq, q'.sq, f _ _ _ _ _ _ k p1 R1 fun W' h' H' p R' _ => ?_⟩⟩
      have q := (p.rdL q).sq (F := X.K)
      have q' := (p.rdL q').sq (F := X.K)
      have rx := rx.pw p
      have rx' := rx'.pw p
      refine ⟨⟨us, us', q, q', len rx rx' (Nat.le_refl _)⟩, fun i y ey => ?_⟩
      obtain ⟨x, x', ex, ex', rfl⟩ := zip_get ey
      obtain ⟨vx, evx, rvx⟩ := rx.get ex
      obtain ⟨vx', evx', rvx'⟩ := rx'.get ex'
      refine ⟨⟨us, us', vx, vx', q, q', evx, evx'⟩, fun v' H2 z => ?_⟩
      obtain ⟨T, y1, y2, rfl, n, rfl, hy1, hy2⟩ := z
      have e1 := hy1 us q
      have e2 := hy2 us' q'
      rw [evx] at e1
      rw [evx'] at e2
      cases e1
      cases e2
      exact pair_new R' n rvx rvx'

/-! locks -/
theorem Pres.unlock {W W' : Vw} {H H' : Hp} {a : Addr} {u u' : HO} (z : W.A a) (hm : a ∈ W.m) (nf : ∀ o u, H a ≠ some (.frz o u)) (p : Pres W (upd H a u) W' H') : Pres W H W' (upd H' a u') := by
  refine ⟨p.ext, p.sub, fun b o nb e => ?_, fun b o w e => ?_, fun b zb nb => ?_⟩
  · have hb : b ≠ a := fun q => nb (by rw [q]; exact z)
    rw [upd_ne hb]
    exact p.keep b o nb (by rw [upd_ne hb]; exact e)
  · have hb : b ≠ a := fun q => nf o w (by rw [← q]; exact e)
    rw [upd_ne hb]
    exact p.frz b o w (by rw [upd_ne hb]; exact e)
  · have hb : b ≠ a := fun q => nb (by rw [q]; exact hm)
    rw [upd_ne hb, p.hid b zb nb, upd_ne hb]
/-- the dict in slot i is locked meanwhile -/
def sLock (i : Nat) (s : Sv) : Sv := fun K ρ h => ∃ n kvs, ρ[i]? = some (some (.ref n)) ∧ h[n]? = some (.dic kvs) ∧
  s { nx := fun ρ' h' => h'[n]? = some (.lck kvs) ∧ K.nx ρ' (h'.set n (.dic kvs)), rt := fun d h' => h'[n]? = some (.lck kvs) ∧ K.rt d (h'.set n (.dic kvs)),
      bk := fun ρ' h' => h'[n]? = some (.lck kvs) ∧ K.bk ρ' (h'.set n (.dic kvs)), ct := fun ρ' h' => h'[n]? = some (.lck kvs) ∧ K.ct ρ' (h'.set n (.dic kvs)) } ρ (h.set n (.lck kvs))
def cLock (i : Nat) (w : Ev) : Ev := fun ρ h Q => ∃ n kvs, ρ[i]? = some (some (.ref n)) ∧ h[n]? = some (.dic kvs) ∧
  w ρ (h.set n (.lck kvs)) fun d h' => h'[n]? = some (.lck kvs) ∧ Q d (h'.set n (.dic kvs))
structure Lkd (F : PySem.W.Frag) (W : Vw) (H : Hp) (n : Nat) (kvs : List (Key × D)) (a : Addr) (ks : List (Key × V)) : Prop where
  at_ : W.m[n]? = some a
  own : W.A a
  mem : a ∈ W.m
  nf : ∀ o u, H a ≠ some (.frz o u)
  val : H a = some (.dK ks)
  rep : RepKV F W H kvs ks
theorem lock_on {F : PySem.W.Frag} {W : Vw} {H : Hp} {h : MH} {ρ : Rho} {σ : L2.St} {i n : Nat} {kvs : List (Key × D)} (R : RelH F W h H) (e : h[n]? = some (.dic kvs)) : ∃ a ks, Lkd F W H n kvs a ks := by
  obtain ⟨a, ea, ⟨ks, q, r⟩, z⟩ := R.get e
  exact ⟨a, ks, ea, z, List.mem_of_getElem? ea, nf_of q (fun o u' z => by cases z), q, r⟩
theorem Lkd.start {F : PySem.W.Frag} {W : Vw} {H : Hp} {h : MH} {n : Nat} {kvs : List (Key × D)} {a : Addr} {ks : List (Key × V)} (L : Lkd F W H n kvs a ks) (R : RelH F W h H) (od : PySem.Obj) :
    Pres W H W (upd H a (.frz od (.dK ks))) ∧ RelH F W (h.set n (.lck kvs)) (upd H a (.frz od (.dK ks))) :=
  ⟨Pres.write a _ L.own L.nf L.mem, R.write L.at_ ⟨ks, od, upd_same, L.rep.1, L.rep.2.write L.own⟩⟩
theorem Lkd.stop {F : PySem.W.Frag} {W W' : Vw} {H H' : Hp} {h' : MH} {n : Nat} {kvs : List (Key × D)} {a : Addr} {ks : List (Key × V)} {od : PySem.Obj} (L : Lkd F W H n kvs a ks) (p : Pres W (upd H a (.frz od (.dK ks))) W' H') (R' : RelH F W' h' H') (e : h'[n]? = some (.lck kvs)) :
    H' a = some (.frz od (.dK ks)) ∧ Pres W H W' (upd H' a (.dK ks)) ∧ RelH F W' (h'.set n (.dic kvs)) (upd H' a (.dK ks)) ∧ W'.A a := by
  have q := p.frz a od (.dK ks) upd_same
  have z := p.sub a L.own
  refine ⟨q, Pres.unlock L.own L.mem L.nf p, R'.write (p.at_ L.at_) ?_, z⟩
  obtain ⟨ks', od', q', r1, r2⟩ := R'.at_ n _ a e (p.at_ L.at_)
  rw [q] at q'
  cases q'
  exact ⟨ks, upd_same, r1, r2.write z⟩
theorem z_slock {st : Stmt} {s : Sv} {i : Nat} (h : PS X st (tS X.K s)) : PS X st (tS X.K (sLock i s)) := by
  refine (ps_lock h).imp fun D σ H ⟨W, ρ, h, K0, E, R, ⟨n, kvs, e1, e2, w⟩, f1, f2, f3, f4⟩ => ?_
  obtain ⟨a, ks, L⟩ := lock_on (ρ := ρ) (σ := σ) (i := i) R e2
  refine ⟨a, .dK ks, L.val, trivial, fun od => ?_⟩
  obtain ⟨P, R1⟩ := L.start R od
  refine ⟨W, ρ, _, _, E.pres P, R1, w, ?_, ?_, ?_, ?_⟩
  · rintro ρ' h' W' σ' H' ⟨e, k⟩ p E' R'
    obtain ⟨q, P', R2, z⟩ := L.stop p R' e
    exact ⟨q, f1 _ _ _ _ _ k P' (E'.write z) R2⟩
  · rintro d h' W' H' v ⟨e, k⟩ p R' r
    obtain ⟨q, P', R2, z⟩ := L.stop p R' e
    exact ⟨q, f2 _ _ _ _ _ k P' R2 (r.write z)⟩
  · rintro ρ' h' W' σ' H' ⟨e, k⟩ p E' R'
    obtain ⟨q, P', R2, z⟩ := L.stop p R' e
    exact ⟨q, f3 _ _ _ _ _ k P' (E'.write z) R2⟩
  · rintro ρ' h' W' σ' H' ⟨e, k⟩ p E' R'
    obtain ⟨q, P', R2, z⟩ := L.stop p R' e
    exact ⟨q, f4 _ _ _ _ _ k P' (E'.write z) R2⟩
theorem z_clock {i : Nat} (h : PE X e (tE X.K w)) : PE X e (tE X.K (cLock i w)) := by
  refine (pe_lock h).imp fun σ H Q ⟨W, ρ, h, K0, E, R, ⟨n, kvs, e1, e2, w⟩, f⟩ => ?_
  obtain ⟨a, ks, L⟩ := lock_on (ρ := ρ) (σ := σ) (i := i) R e2
  refine ⟨a, .dK ks, L.val, trivial, fun od => ?_⟩
  obtain ⟨P, R1⟩ := L.start R od
  refine ⟨W, ρ, _, _, E.pres P, R1, w, ?_⟩
  rintro d h' W' H' v ⟨e, k⟩ p R' r
  obtain ⟨q, P', R2, z⟩ := L.stop p R' e
  exact ⟨q, f _ _ _ _ _ k P' R2 (r.write z)⟩
end
end Z

set_option Elab.async false
set_option linter.all false
set_option maxRecDepth 100000
set_option maxHeartbeats 4000000
/-! YS: a set made of a list or a tuple of keys (ints, texts); its length; sorted of it -/
namespace Z
open PySem PySem.Spec PyProof.Rows L2

/-- the key that a value is -/
def kyV : Value → Key
  | .int k _ => .inl k
  | .str x _ => .inr x
  | _ => .inl 0
theorem kyV_is {P : Program} {w : World} {k : Key} {v : Value} (h : (mixKind P w).is k v = true) : kyV v = k := by
  rcases keyIs_shape h with ⟨i, t, rfl, rfl⟩ | ⟨x, t, rfl, rfl⟩ <;> rfl
theorem kyV_scan {P : Program} {w : World} {k : Key} {v : Value} (h : (mixKind P w).is k v = true) : v.scannable = true := by
  rcases keyIs_shape h with ⟨i, t, rfl, rfl⟩ | ⟨x, t, rfl, rfl⟩ <;> rfl
/-- an entry that is a key -/
def EnK (P : Program) (w : World) (e : Int × Value) : Prop := (mixKind P w).is (kyV e.2) e.2 = true ∧ e.1 = (mixKind P w).hash (kyV e.2)
theorem enK_elems {P : Program} {w : World} {l : List (Int × Value)} (g : ∀ e ∈ l, EnK P w e) : ElemsOf (mixKind P w) l := fun e he => ⟨⟨_, (g e he).1, (g e he).2⟩, kyV_scan (g e he).1⟩
/-- the set at a has the keys ks -/
def SetT (P : Program) (w : World) (h : Heap) (a : Addr) (ks : List Key) : Prop :=
  ∃ o es ep t, h.get? a = some o ∧ o.ExactSet ∧ o.data = .set es ep t ∧ (∀ e ∈ es.toList, EnK P w e) ∧ (es.toList.map fun e => kyV e.2).Perm ks ∧ ks.Nodup ∧ es.size < scanBound ∧ t.fits es.size = true ∧ Ris t.place.toList ∧
    (w.params.followText "set-order" = true ∨ t.led = true)
/-- a key more -/
def addK (ks : List Key) (k : Key) : List Key := if (ks.any fun x => decide (x = k)) = true then ks else ks ++ [k]
theorem any_k {ks : List Key} {k : Key} : (ks.any fun x => decide (x = k)) = true ↔ k ∈ ks := by
  rw [List.any_eq_true]
  constructor
  · rintro ⟨x, hx, e⟩
    rw [← of_decide_eq_true e]
    exact hx
  · exact fun h => ⟨k, h, decide_eq_true rfl⟩
theorem addK_len (ks : List Key) (k : Key) : (addK ks k).length ≤ ks.length + 1 := by
  unfold addK
  split <;> simp
section
variable {P : Program} {w : World} {A : Around} {E : Value → Shared → Prop} {s : Shared} {a : Addr} {ks : List Key}
theorem SetT.at_ {h h' : Heap} (R : SetT P w h a ks) (k : ∀ o, h.get? a = some o → h'.get? a = some o) : SetT P w h' a ks := by
  obtain ⟨o, es, ep, t, ho, r⟩ := R
  exact ⟨o, es, ep, t, k o ho, r⟩
theorem setT_new {h : Heap} (ho : h.get? a = some { cls := .type "set", dict := none, data := .set #[] 0 (.fresh 0 0 (!w.params.followText "set-order")) }) : SetT P w h a [] := by
  refine ⟨_, #[], 0, _, ho, ⟨rfl, rfl, rfl⟩, rfl, fun e he => by simp at he, by simp, List.nodup_nil, by decide, rfl, List.Pairwise.nil, ?_⟩
  show _ ∨ (!w.params.followText "set-order") = true
  cases w.params.followText "set-order"
  · exact .inr rfl
  · exact .inl rfl
/-- storing, and laying all anew where it is too full -/
theorem setT_tail {g : Bool → Sem Unit} (hg : ∀ (b : Bool) (z : Shared) (Q : Unit → Shared → Prop), Q () z → wpAny (model P w) A (g b) Q E z) {o : Obj} {es es1 : Array (Int × Value)} {ep : Nat} {t t1 : SetTable}
    (ho : s.heap.get? a = some o) (hx : o.ExactSet) (hd : o.data = .set es ep t) (hk : ∀ e ∈ es1.toList, EnK P w e) (hp : (es1.toList.map fun e => kyV e.2).Perm ks) (nd : ks.Nodup) (hb : es1.size < scanBound) (hf : t1.fits es1.size = true)
    (hr : Ris t1.place.toList) (hl : w.params.followText "set-order" = true ∨ t1.led = true) {dm : Bool} {R : Option Bool → Shared → Prop} (hR : ∀ h', Heap.SameBut a s.heap h' → SetT P w h' a ks → R (some true) { s with heap := h' }) :
    wpAny (model P w) A (do
        storeSet a es1 t1
        if (!dm && t1.tooFull) = true then do
            g (relayAll t1 es1 (SetTable.grown es1.size)).2.2
            storeSet a (relayAll t1 es1 (SetTable.grown es1.size)).1 (relayAll t1 es1 (SetTable.grown es1.size)).2.1
            pure (some true)
          else pure (some true)) R E s := by
  have o1 := store_at (es' := es1) (t' := t1) ho hd
  have b1 := Heap.SameBut.update s.heap a (Obj.putSet es1 t1)
  refine wpAny_bind (wpAny_storeSet_of ho hd ?_ (fits_of_scanBound hb))
  by_cases c : (!dm && t1.tooFull) = true
  · rw [if_pos c]
    have z1 := relayAll_perm t1 es1 (SetTable.grown es1.size)
    have z2 := relayAll_fits t1 es1 (SetTable.grown es1.size)
    have z3 := relayAll_ris t1 es1 (SetTable.grown es1.size)
    have z4 := relayAll_led t1 es1 (SetTable.grown es1.size)
    generalize relayAll t1 es1 (SetTable.grown es1.size) = Y at z1 z2 z3 z4 ⊢
    obtain ⟨es2, t2, gv⟩ := Y
    dsimp only at z1 z2 z3 z4 ⊢
    have e2 : es2.size = es1.size := by rw [← Array.length_toList, z1.length_eq, Array.length_toList]
    refine wpAny_bind (hg _ _ _ (wpAny_bind (wpAny_storeSet_of o1 rfl ?_ (fits_of_scanBound (by rw [e2]; exact hb)))))
    refine wpAny_pure (hR _ (b1.trans (Heap.SameBut.update _ a _)) ⟨_, es2, _, t2, store_at (es' := es2) (t' := t2) o1 rfl, hx, rfl, fun e he => hk e (z1.mem_iff.mp he), (z1.map _).trans hp, nd, by rw [e2]; exact hb, z2, z3, ?_⟩)
    exact hl.imp id fun q => by rw [z4]; exact q
  · rw [if_neg c]
    exact wpAny_pure (hR _ b1 ⟨_, es1, _, t1, o1, hx, rfl, hk, hp, nd, hb, hf, hr, hl⟩)
theorem gaveW (b : Bool) (z : Shared) (Q : Unit → Shared → Prop) (q : Q () z) : wpAny (model P w) A (match b with | true => rule "set.scan.the-table-gave-way" | false => pure ()) Q E z := by
  cases b
  · exact wpAny_pure q
  · exact wpAny_rule q
/-- adding a key -/
theorem setT_add {k : Key} {v : Value} {Q : Bool → Shared → Prop} (hv : (mixKind P w).is k v = true) (R : SetT P w s.heap a ks) (hroom : ks.length + 1 < scanBound)
    (hQ : ∀ b h', Heap.SameBut a s.heap h' → SetT P w h' a (addK ks k) → Q b { s with heap := h' }) : wpAny (model P w) A (setAddHashed a v ((mixKind P w).hash k)) Q E s := by
  obtain ⟨o, es, ep, t, ho, hx, hd, hk, hp, nd, hb, hf, hr, hl⟩ := R
  have hs := kyV_scan hv
  have hky := kyV_is hv
  have hel := enK_elems hk
  have hmem : ∀ {l : List (Int × Value)}, (∀ e ∈ l, EnK P w e) → (k ∈ l.map (fun e => kyV e.2) ↔ ∃ e ∈ l, (mixKind P w).is k e.2 = true) := fun {l} hl => by
    rw [List.mem_map]
    constructor
    · rintro ⟨e, he, q⟩
      exact ⟨e, he, by rw [← q]; exact (hl e he).1⟩
    · rintro ⟨e, he, q⟩
      exact ⟨e, he, kyV_is q⟩
  unfold setAddHashed setAddHashedIn
  refine wpAny_holding (wpAny_bind (wpAny_setState_of ho hd hf ?_))
  dsimp only
  rw [byScan_of hs hb hel]
  simp only [↓reduceIte]
  unfold setAddByScan
  refine wpAny_bind (wpAny_bind (wpAny_rule (wpAny_bind (wpAny_setScan_of hv ho hd hf hel ?_))))
  cases hfi : List.findIdx? (fun e => (mixKind P w).is k e.2) es.toList with
  | some j =>
    dsimp only
    obtain ⟨hj, pj, _⟩ := List.findIdx?_eq_some_iff_getElem.mp hfi
    have hin : k ∈ ks := hp.mem_iff.mp ((hmem hk).mpr ⟨_, List.getElem_mem hj, pj⟩)
    refine wpAny_pure (wpAny_pure (hQ false s.heap (Heap.SameBut.refl a s.heap) ?_))
    unfold addK
    rw [if_pos (any_k.mpr hin)]
    exact ⟨o, es, ep, t, ho, hx, hd, hk, hp, nd, hb, hf, hr, hl⟩
  | none =>
    dsimp only
    have hout : k ∉ ks := fun z => by
      obtain ⟨e, he, q⟩ := (hmem hk).mp (hp.mem_iff.mpr z)
      have c := List.findIdx?_eq_none_iff.mp hfi e he
      rw [q] at c
      cases c
    have z1 := layNew_perm t es ((mixKind P w).hash k) v
    have z2 := layNew_fits t es ((mixKind P w).hash k) v
    have z3 := layNew_ris t es ((mixKind P w).hash k) v hr
    have z4 := layNew_led t es ((mixKind P w).hash k) v
    generalize layNew t es ((mixKind P w).hash k) v = Y at z1 z2 z3 z4 ⊢
    obtain ⟨es1, t1, dm, gv⟩ := Y
    dsimp only at z1 z2 z3 z4 ⊢
    rw [Array.toList_push] at z1
    have hk1 : ∀ e ∈ es1.toList, EnK P w e := fun e he => by
      rcases List.mem_append.mp (z1.mem_iff.mp he) with q | q
      · exact hk e q
      · rw [List.mem_singleton.mp q]
        unfold EnK
        dsimp only
        rw [hky]
        exact ⟨hv, rfl⟩
    have ea : addK ks k = ks ++ [k] := by
      unfold addK
      rw [if_neg fun q => hout (any_k.mp q)]
    have hp1 : (es1.toList.map fun e => kyV e.2).Perm (addK ks k) := by
      rw [ea]
      refine (z1.map _).trans ?_
      rw [List.map_append, List.map_cons, List.map_nil]
      dsimp only
      rw [hky]
      exact hp.append_right _
    have nd1 : (addK ks k).Nodup := by
      rw [ea, List.nodup_append]
      refine ⟨nd, by simp, fun x hx y hy e => hout ?_⟩
      rw [← List.mem_singleton.mp hy, ← e]
      exact hx
    have hb1 : es1.size < scanBound := by
      have q := hp1.length_eq
      rw [List.length_map, Array.length_toList] at q
      have := addK_len ks k
      omega
    have hl1 : w.params.followText "set-order" = true ∨ t1.led = true := hl.imp id fun q => by rw [z4]; exact q
    refine wpAny_bind (gaveW _ _ _ ?_)
    split
    · refine wpAny_bind ?_
      rw [hashByValue_scannable 8 hs]
      refine wpAny_pure ?_
      refine setT_tail (ks := addK ks k) gaveW ho hx hd hk1 hp1 nd1 hb1 ?_ ?_ ?_ ?_
      · first | (split <;> first | exact z2 | exact SetTable.fits_plain_off z2) | exact z2
      · first | (split <;> exact z3) | exact z3
      · first | (split <;> exact hl1) | exact hl1
      · intro h' sb r
        dsimp only
        exact wpAny_pure (hQ true h' sb r)
    · refine wpAny_bind (wpAny_pure ?_)
      simp only [↓reduceIte]
      refine setT_tail (ks := addK ks k) gaveW ho hx hd hk1 hp1 nd1 hb1 z2 z3 hl1 ?_
      intro h' sb r
      dsimp only
      exact wpAny_pure (hQ true h' sb r)
end
end Z

set_option Elab.async false
set_option linter.all false
set_option maxRecDepth 100000
set_option maxHeartbeats 4000000
/-! YT: set(list or tuple of keys), len and sorted of it as rules -/
namespace Z
open PySem PySem.Spec PyProof.Rows L2
section
variable {P : Program} {w : World} {A : Around} {E : Value → Shared → Prop} {s : Shared}
/-- the loop that puts all items in -/
theorem set_loop {I : Addr} {fp wr : List Addr} {G : Array GenState → Array GenState → Prop} {n : Nat} {Pv : Nat → Value → Prop} {St : Nat → Shared → Prop} {R : Result → Shared → Prop}
    (W : WalksS P w A.in1 I fp wr G n Pv St) (S : Addr) (hS : S ∉ fp) (l : List Key) (hn : n = l.length) (hb : l.length + 1 < scanBound) (hv : ∀ i v, Pv i v → ∃ k, l[i]? = some k ∧ (mixKind P w).is k v = true)
    (hR : ∀ s', Moved (S :: wr) G s s' → SetT P w s'.heap S (l.foldl addK []) → R (.ok (.ret .none)) s') :
    ∀ (m i : Nat) (s1 : Shared), n - i = m → i ≤ n → St i s1 → Moved (S :: wr) G s s1 → SetT P w s1.heap S ((l.take i).foldl addK []) →
      codeAny (model P w) A (.builtin "set.update.loop" ⟨[.ref S, .ref I], []⟩) R s1 := by
  have hw : S ∉ wr := fun q => hS (W.sub _ q)
  have sub : ∀ b ∈ wr, b ∈ S :: wr := fun b q => List.mem_cons_of_mem _ q
  have len : ∀ (l : List Key) (a : List Key), (l.foldl addK a).length ≤ a.length + l.length := by
    intro l
    induction l with
    | nil => intro a; simp
    | cons k l ih =>
      intro a
      have h1 := ih (addK a k)
      have h2 := addK_len a k
      rw [List.foldl_cons, List.length_cons]
      omega
  intro m
  induction m with
  | zero =>
    intro i s1 hm hi st mv T
    obtain rfl : i = n := by omega
    rw [List.take_of_length_le (by omega)] at T
    refine codeAny_builtin F.entry_set_update_loop ?_
    rw [Around.under_plainId F.plain_set_update_loop _]
    show wpAny _ A.in1 (pyNext (.ref I) >>= _) _ _ s1
    refine wpAny_bind (W.done s1 _ _ st fun s2 m2 => ?_)
    show wpAny _ A.in1 (ret Value.none) _ _ s2
    exact wpAny_pure (hR s2 (Moved.trans W.gtrans mv (m2.mono sub)) (T.at_ fun o e => m2.heap S o hw e))
  | succ m ih =>
    intro i s1 hm hi st mv T
    refine codeAny_builtin F.entry_set_update_loop ?_
    rw [Around.under_plainId F.plain_set_update_loop _]
    show wpAny _ A.in1 (pyNext (.ref I) >>= _) _ _ s1
    refine wpAny_bind (W.item i s1 _ _ (by omega) st fun v s2 hp st2 m2 => ?_)
    obtain ⟨k, ek, hk⟩ := hv i v hp
    have T2 := T.at_ (h' := s2.heap) fun o e => m2.heap S o hw e
    show wpAny _ A.in1 (holding [v] (setAdd S v) >>= _) _ _ s2
    refine wpAny_bind (wpAny_holding ?_)
    unfold setAdd
    refine wpAny_holding (wpAny_bind ((mixKind P w).pyHash hk ?_))
    have hl := len (l.take i) []
    refine setT_add (s := { s2 with toks := s2.toks + 1 }) hk T2 (by rw [List.length_take] at hl; simp only [List.length_nil] at hl; omega) fun b h' sb T3 => ?_
    have e3 : (l.take (i + 1)).foldl addK [] = addK ((l.take i).foldl addK []) k := by
      rw [List.take_add_one, ek, List.foldl_append]
      rfl
    have m3 : Moved (S :: wr) G s2 { s2 with heap := h', toks := s2.toks + 1 } := by
      refine Moved.then_heap (Moved.refl W.grefl) (Nat.le_succ _) fun b o hb e => ?_
      rw [sb.2 b fun q => hb (by rw [q]; exact List.mem_cons_self)]
      exact e
    refine wpAny_pure ⟨plainId_quiet F.plain_set_update_loop _, ih (i + 1) _ (by omega) (by omega) (W.frame _ s2 _ _ st2 (Nat.le_succ _) fun b hb o e => ?_) (Moved.trans W.gtrans (Moved.trans W.gtrans mv (m2.mono sub)) m3) (by rw [e3]; exact T3)⟩
    rw [sb.2 b fun q => hS (by rw [← q]; exact hb)]
    exact e

abbrev freshS (w : World) : Obj := { cls := .type "set", dict := none, data := .set #[] 0 (.fresh 0 0 (!w.params.followText "set-order")) }
set_option maxHeartbeats 8000000 in
theorem call_set_listK {l : Addr} {its : Array Value} (ks : List Key) {Q : Value → Shared → Prop} (hh : A.handled = none) (hl : s.heap.IsList l its) (hv : ∀ (i : Nat) (v : Value), its[i]? = some v → ∃ k, ks[i]? = some k ∧ (mixKind P w).is k v = true) (hn : its.size = ks.length)
    (hb : ks.length + 1 < scanBound) (h : ∀ (h' : Heap) (tk : Nat), SetT P w h' s.heap.objs.size (ks.foldl addK []) → (∀ b o, s.heap.get? b = some o → h'.get? b = some o) → Q (.ref s.heap.objs.size) { s with heap := h', toks := tk }) :
    wpAny (model P w) A (call (.type "set") [.ref l]) Q E s := by
  obtain ⟨c, tl, hmro⟩ := F.called_set.mro
  have hmade := F.called_set.made
  have hsub := F.called_set.sub
  have h1 := F.called_set.notType
  have h2 := F.called_set.canCreate
  have hct := F.typeCall_set_1 (.ref l)
  refine wpAny_call (codeAny_of_tree ?_)
  show wpAny _ _ (callAny (.type "set") _) _ _ _
  refine wpAny_pure ⟨Code.quiet_builtin _ (by decide +kernel), codeAny_builtin F.entry_type_call ?_⟩
  rw [Around.under_plain (weight_type_call_type "set" [.ref l] []) rfl]
  repeat (any_goals (first | assumption | wp_step))
  refine codeAny_mono (code_set_led1 (.ref l) (E := E) (Q₁ := fun ob z => ob = .ref s.heap.objs.size ∧ z = { s with heap := s.heap.push (freshS w) }) ⟨rfl, rfl⟩) fun r z hr => ?_
  cases r with
  | error e => exact hr
  | ok fl =>
    cases fl with
    | ret ob =>
      obtain ⟨rfl, rfl⟩ := hr
      have hS : (s.heap.push (freshS w)).get? s.heap.objs.size = some (freshS w) := Heap.get?_push_size _ rfl
      have hT : Shared.TypeIs { s with heap := s.heap.push (freshS w) } (.ref s.heap.objs.size) "set" := ⟨_, hS, rfl⟩
      have hli := F.called_set.init.lookup
      have hbi := F.called_set.init.bind (.ref s.heap.objs.size)
      repeat (any_goals (first | assumption | wp_step))
      refine codeAny_mono (codeAny_call_builtin (R := wants (fun r z2 => r = .none ∧ ∃ h' tk, z2 = { s with heap := h', toks := tk } ∧ SetT P w h' s.heap.objs.size (ks.foldl addK []) ∧ (∀ b o, s.heap.get? b = some o → h'.get? b = some o)) E)
        F.called_set.init.plain F.entry_set_init (check_set_init_1 hT ?_)) fun r2 z2 hr2 => ?_
      · obtain ⟨ol, hol, hcl, nl, hdl⟩ := hl
        obtain ⟨oc, od, odt, osl⟩ := ol
        simp only at hcl hdl
        subst hcl
        subst hdl
        have hol2 : (s.heap.push (freshS w)).get? l = some { cls := .type "list", dict := od, data := .seq its nl, slots := osl } := Heap.get?_push_of_some _ hol
        have hsls := F.sub_list_set
        have hslf := F.sub_list_frozenset
        have hne : (Value.type "list" == Value.type "dict") = false := by decide
        have hl1 : (s.heap.push (freshS w)).IsList l its := ⟨_, hol2, rfl, nl, rfl⟩
        unfold Builtin.«set.__init__» noKeywords Builtin.Frozenset.updateFrom
        generalize hPI : pyIter = PI
        wp_walk
        subst hPI
        refine wpAny_pyIter_list hl1 (wpAny_bind (wpAny_runValue ?_))
        have hls : l < s.heap.objs.size := Heap.lt_size hol
        have hsz : (s.heap.push (freshS w)).objs.size = s.heap.objs.size + 1 := Heap.size_push ..
        have hneI : l ≠ (s.heap.push (freshS w)).objs.size := by
          rw [hsz]
          exact Nat.ne_of_lt (Nat.lt_succ_of_lt hls)
        have hSf : s.heap.objs.size ∉ [(s.heap.push (freshS w)).objs.size, l] := by
          rw [hsz]
          intro q
          rcases List.mem_cons.mp q with q | q
          · exact absurd q (Nat.ne_of_lt (Nat.lt_succ_self _))
          · exact absurd (List.mem_singleton.mp q) (Nat.ne_of_gt hls)
        refine set_loop ((Walks.list (by simp [hh]) _ l hneI its).toS) s.heap.objs.size hSf ks hn hb hv ?hR (its.size - 0) 0 _ rfl (Nat.zero_le _) ⟨⟨_, Heap.get?_push_size _ rfl, rfl, rfl⟩, hl1.push _⟩ (Moved.refl (fun _ => rfl)) ?hS0
        case hS0 => exact setT_new (Heap.get?_push_of_some _ hS)
        case hR =>
          intro z3 mv T
          obtain ⟨h', g2, d', tk', os'⟩ := z3
          have eg : g2 = s.gens := mv.gens
          have ed : d' = s.drawn := mv.drawn
          have eo : os' = s.os := mv.os
          subst eg
          subst ed
          subst eo
          show wpAny _ _ _ _ _ _
          refine wpAny_pure ?_
          show wpAny _ _ (ret Value.none) _ _ _
          refine wpAny_pure ⟨rfl, h', tk', rfl, T, fun b o e => ?_⟩
          have hb0 : b < s.heap.objs.size := Heap.lt_size e
          refine mv.heap b o (fun q => ?_) (Heap.get?_push_of_some _ (Heap.get?_push_of_some _ e))
          rcases List.mem_cons.mp q with q | q
          · exact Nat.lt_irrefl _ (by rw [q] at hb0; exact hb0)
          · have q := List.mem_singleton.mp q
            rw [q, hsz] at hb0
            exact Nat.lt_irrefl _ (Nat.lt_trans (Nat.lt_succ_self _) hb0)
      · cases r2 with
        | error e => exact hr2
        | ok fl2 =>
          cases fl2 with
          | ret r =>
            obtain ⟨rfl, h', tk, rfl, T, k⟩ := hr2
            repeat (any_goals (first | assumption | wp_step))
            exact h _ _ T k
          | _ => exact hr2.elim
    | _ => exact hr.elim
end
end Z

set_option Elab.async false
set_option linter.all false
set_option maxRecDepth 100000
set_option maxHeartbeats 4000000
/-! YU: sorted(set(e)), len(set(e)) -/
namespace Z
open PySem PySem.Spec PyProof.Rows L2
def SetKO (P : Program) (w : World) (a : Addr) (ks : List Key) : HO := .ext fun h => SetT P w h a ks
section
variable {X : Cx}
theorem setKO_new {P : Program} {w : World} {H : Hp} {h : Heap} {a : Addr} {ks : List Key} (R : SetT P w h a ks) : ObjOk P w H h a (SetKO P w a ks) := by
  have ⟨o, _, _, _, ho, _⟩ := R
  exact ⟨R, ⟨o, ho⟩, fun h1 h2 p k => p.at_ k⟩
theorem setKO_get {pins : List (Addr × Obj)} {σ : L2.St} {H : Hp} {s : Shared} {a : Addr} {ks : List Key} (I : Inv X pins σ H s) (ha : H a = some (SetKO X.prog X.w a ks)) : SetT X.prog X.w s.heap a ks := (I.hok a _ ha).1
def rSetK (X : Cx) : List V → Hp → VK → Prop := fun xs H Q => ∃ (l : Addr) (ks : List Key), xs = [.ref l] ∧ SqL X.K H l (ks.map kV) ∧ ks.length + 1 < scanBound ∧ ∀ p, H p = none → Q (.ref p) (upd H p (SetKO X.prog X.w p (ks.foldl addK [])))
theorem keys_at {P : Program} {w : World} {ks : List Key} {us : List Value} (r : Vals (ks.map kV) us) : (∀ (i : Nat) (v : Value), us.toArray[i]? = some v → ∃ k, ks[i]? = some k ∧ (mixKind P w).is k v = true) ∧ us.toArray.size = ks.length := by
  have hl := r.length
  rw [List.length_map] at hl
  refine ⟨fun i v e => ?_, by rw [List.size_toArray, hl]⟩
  have e : us[i]? = some v := by simpa using e
  have hi : i < ks.length := by
    have := (List.getElem?_eq_some_iff.mp e).1
    omega
  have e2 := List.getElem?_eq_getElem hi
  obtain ⟨u, e3, r3⟩ := r.get (i := i) (x := kV ks[i]) (by rw [List.getElem?_map, e2]; rfl)
  rw [e] at e3
  cases e3
  exact ⟨_, e2, kV_is r3⟩
theorem cr_setK (hc : X.calm = true) : CallR X (.type "set") (rSetK X) := by
  intro pins s σ H xs us Q I r h
  obtain ⟨l, ks, rfl, q, hb, k⟩ := h
  rw [Vals.ref1 r]
  have fin : ∀ (h' : Heap) (tk : Nat), SetT X.prog X.w h' s.heap.objs.size (ks.foldl addK []) → (∀ b o, s.heap.get? b = some o → h'.get? b = some o) → EP X pins σ Q (.ref s.heap.objs.size) { s with heap := h', toks := tk } := fun h' tk T kp =>
    ⟨.ref s.heap.objs.size, _, I.laid (t' := tk) kp (Nat.le_refl _) (setKO_new T), rfl, k _ (I.hok.fresh (Nat.le_refl _))⟩
  obtain ⟨its, rv, pl, hz⟩ := I.list q
  obtain ⟨h1, h2⟩ := keys_at (P := X.prog) (w := X.w) rv
  exact call_set_listK ks (I.ok.hd hc) pl.isList h1 h2 hb fin
def rLenK (X : Cx) : List V → Hp → VK → Prop := fun xs H Q => ∃ (a : Addr) (ks : List Key), xs = [.ref a] ∧ H a = some (SetKO X.prog X.w a ks) ∧ Q (.int ks.length) H
theorem cr_lenK : CallR X (.builtin "len") (rLenK X) := by
  intro pins s σ H xs us Q I r h
  obtain ⟨a, ks, rfl, ha, k⟩ := h
  rw [Vals.ref1 r]
  obtain ⟨o, es, ep, t, ho, hx, hd, hk, hp, nd, hb, hf, hr, hl⟩ := setKO_get I ha
  have e : es.size = ks.length := by
    have := hp.length_eq
    rwa [List.length_map, Array.length_toList] at this
  have hsb : scanBound = 4096 := rfl
  refine call_len_set ho hx hd hf (by omega) ?_
  rw [e]
  exact ⟨.int ks.length, H, I.tok _, ⟨_, rfl⟩, k⟩
/-- a key as a value; as data -/
def kyD : Key → D
  | .inl i => .int i
  | .inr x => .str x
def kPd (k : Key) : PyData := (kyD k).pd
def sortK (ks : List Key) : List Key := ks.mergeSort (PySem.W.dataLe false kPd)
def rSortK (X : Cx) : List V → Hp → VK → Prop := fun xs H Q => ∃ (a : Addr) (ks : List Key), xs = [.ref a] ∧ H a = some (SetKO X.prog X.w a ks) ∧ PySem.W.AllAlike (ks.map kPd) ∧ ∀ (ks' : List Key) p, ks'.Perm ks → H p = none → Q (.ref p) (upd H p (.lst ((sortK ks').map kV)))
theorem kyV_reads {P : Program} {w : World} {h : Heap} {v : Value} (e : (mixKind P w).is (kyV v) v = true) : ∃ as, Reads h v (kPd (kyV v)) as := by
  rcases keyIs_shape e with ⟨i, t, e1, e2⟩ | ⟨x, t, e1, e2⟩
  · rw [e2]
    exact ⟨_, .int i t⟩
  · rw [e2]
    exact ⟨_, .str x t⟩
theorem each_ky {P : Program} {w : World} : ∀ {vs : List Value}, (∀ v ∈ vs, (mixKind P w).is (kyV v) v = true) → PySem.W.EachIs (fun v k => (mixKind P w).is k v = true) vs (vs.map kyV)
  | [], _ => .nil
  | v :: vs, h => .cons (h v (List.mem_cons_self ..)) (each_ky fun u hu => h u (List.mem_cons_of_mem _ hu))
theorem each_kyR {P : Program} {w : World} {h : Heap} : ∀ {vs : List Value}, (∀ v ∈ vs, (mixKind P w).is (kyV v) v = true) → PySem.W.EachIs (fun v k => ∃ as, Reads h v (kPd k) as) vs (vs.map kyV)
  | [], _ => .nil
  | v :: vs, q => .cons (kyV_reads (P := P) (w := w) (q v (List.mem_cons_self ..))) (each_kyR (P := P) (w := w) fun u hu => q u (List.mem_cons_of_mem _ hu))
theorem vals_ky {P : Program} {w : World} : ∀ {vs : List Value} {ks : List Key}, PySem.W.EachIs (fun v k => (mixKind P w).is k v = true) vs ks → Vals (ks.map kV) vs
  | _, _, .nil => .nil
  | _, _, .cons h t => .cons (by rcases keyIs_shape h with ⟨i, t, rfl, rfl⟩ | ⟨x, t, rfl, rfl⟩ <;> exact ⟨_, rfl⟩) (vals_ky t)
theorem kPd_other (k : Key) : kPd k ≠ .none ∧ ∀ xs, kPd k ≠ .tuple xs := by
  cases k <;> simp [kPd, kyD, D.pd]
theorem cr_sortedK (hc : X.calm = true) (hu : X.A.units + 64 < cLine) : CallR X (.builtin "sorted") (rSortK X) := by
  intro pins s σ H xs us Q I r h
  obtain ⟨a, ks, rfl, ha, al, k⟩ := h
  rw [Vals.ref1 r]
  obtain ⟨o, es, ep, t, ho, hx, hd, hk, hp, nd, hb, hf, hr, hl⟩ := setKO_get I ha
  refine Calls.call_function_entry kind_sorted plain_sorted entry_sorted (args_sorted1 _) ?_
  unfold Builtin.«sorted»
  refine wpAny_bind (m := checkCount "sorted" 1 1 _) (wpAny_pure (wpAny_bind (collect_set (A := X.A.in1) (I.ok.hd hc) ⟨o, ho, hx.1, hd⟩ hf hb hr hl fun s1 vs kp hz g1 o1 pm => ?_)))
  have is : ∀ v ∈ vs, (mixKind X.prog X.w).is (kyV v) v = true := fun v hv => by
    obtain ⟨e, he, q⟩ := List.mem_map.mp (pm.mem_iff.mp hv)
    rw [← q]
    exact (hk e he).1
  have pk : (vs.map kyV).Perm ks := by
    have := pm.map kyV
    rw [List.map_map] at this
    exact this.trans hp
  have hvl : vs.length ≤ sizeLine := by
    have e1 := pk.length_eq
    have e2 := hp.length_eq
    rw [List.length_map] at e1 e2
    rw [Array.length_toList] at e2
    rw [e1, ← e2]
    exact fits_of_scanBound hb
  refine wpAny_bind (wpAny_newList ?_ hvl)
  have hoL : (s1.heap.push (seqObj "list" vs.toArray 0)).get? s1.heap.objs.size = some (seqObj "list" vs.toArray 0) := Heap.get?_push_size _ rfl
  have alk : PySem.W.AllAlike ((vs.map kyV).map kPd) := fun d hd d' hd' => al d ((pk.map kPd).mem_iff.mp hd) d' ((pk.map kPd).mem_iff.mp hd')
  have srt : PySem.W.Sortable ((vs.map kyV).map kPd) := .inr fun d hd => by
    obtain ⟨q, _, rfl⟩ := List.mem_map.mp hd
    exact kPd_other q
  have er := each_kyR (P := X.prog) (w := X.w) (h := PySem.W.sortingHeap (s1.heap.push (seqObj "list" vs.toArray 0)) s1.heap.objs.size vs) is
  have S := PySem.W.SortsAt.data (prog := X.prog) (w := X.w) (A := X.A.in1.in1) (s := { s1 with heap := PySem.W.sortingHeap (s1.heap.push (seqObj "list" vs.toArray 0)) s1.heap.objs.size vs })
    (PySem.W.each_map (R := fun v d => ∃ as, Reads (PySem.W.sortingHeap (s1.heap.push (seqObj "list" vs.toArray 0)) s1.heap.objs.size vs) v d as) kPd er) alk srt (PySem.W.bound_map fun q _ => by
      have : (kPd q).depth = 0 := by cases q <;> simp [kPd, kyD, D.pd, PyData.depth]
      rw [this]
      show X.A.units + 1 + 1 + 0 < cLine
      omega)
  refine wpAny_bind (wpAny_holding (wpAny_call_entry slot_list_sort ⟨_, hoL, rfl⟩ entry_list_sort (PySem.W.list_sort_vals (s := { s1 with heap := s1.heap.push (seqObj "list" vs.toArray 0) }) hoL S hvl ⟨_, rfl, wpAny_pure ⟨_, rfl, ?_⟩⟩) (args_list_sort _)))
  have eo := PySem.W.sortVals_data (R := fun v k => (mixKind X.prog X.w).is k v = true) false (each_ky is) er alk
  have elen := PySem.W.sortVals_length (κ := PySem.W.dataKind (PySem.W.sortingHeap (s1.heap.push (seqObj "list" vs.toArray 0)) s1.heap.objs.size vs) ((vs.map kyV).map kPd)) false (ks := vs) (vs := vs) rfl
  generalize PySem.W.sortVals _ false vs vs = out at eo elen ⊢
  obtain ⟨c, hc2⟩ := sortedHeap_at (vs := vs) (out := out.toArray) hoL
  have keep : ∀ b u, s.heap.get? b = some u → (sortedHeap (s1.heap.push (seqObj "list" vs.toArray 0)) s1.heap.objs.size vs out.toArray).get? b = some u := fun b u e => by
    have q := kp b u e
    have hlt := Heap.lt_size q
    rw [sortedHeap_old (Nat.ne_of_lt hlt) (by rw [size_push']; exact Nat.lt_succ_of_lt hlt)]
    exact Heap.get?_push_of_some _ q
  have rv : Vals ((sortK (vs.map kyV)).map kV) out := vals_ky eo
  have hn : H s1.heap.objs.size = none := I.hok.fresh hz
  have J : Inv X pins σ (upd H s1.heap.objs.size (.lst ((sortK (vs.map kyV)).map kV))) { s with heap := sortedHeap (s1.heap.push (seqObj "list" vs.toArray 0)) s1.heap.objs.size vs out.toArray, gens := s1.gens, drawn := s1.drawn, toks := s1.toks } :=
    I.call (ch := []) (Un.laid keep hz hn) (I.hok.laid keep hz ⟨by rw [rv.length, elen]; exact hvl, out, c, rv, hc2⟩) (by rw [g1]; exact I.bare) fun _ z => nomatch z
  have e : ({ s1 with heap := sortedHeap (s1.heap.push (seqObj "list" vs.toArray 0)) s1.heap.objs.size vs out.toArray } : Shared) = { s with heap := sortedHeap (s1.heap.push (seqObj "list" vs.toArray 0)) s1.heap.objs.size vs out.toArray, gens := s1.gens, drawn := s1.drawn, toks := s1.toks } := by
    cases s1
    cases s
    cases o1
    rfl
  rw [e]
  exact ⟨.ref _, _, J, rfl, k _ _ pk hn⟩
/-- sorted(set(e)), len(set(e)): the items are keys of one kind -/
def setS (mu : Bool) (d : D) (h1 : MH) (K : D → MH → Prop) : Prop := ∃ ks : List Key, lstOf h1 d = some (ks.map kyD) ∧ ks.length + 1 < scanBound ∧ PySem.W.AllAlike ((ks.foldl addK []).map kPd) ∧ ∀ ks' : List Key, ks'.Perm (ks.foldl addK []) → mkL mu ((sortK ks').map kyD) h1 K
def setL (d : D) (h1 : MH) (K : D → MH → Prop) : Prop := ∃ ks : List Key, lstOf h1 d = some (ks.map kyD) ∧ ks.length + 1 < scanBound ∧ K (.int (ks.foldl addK []).length) h1
def cSetS (mu : Bool) (w : Ev) : Ev := fun ρ h K => w ρ h fun d h1 => setS mu d h1 K
def cSetL (w : Ev) : Ev := fun ρ h K => w ρ h fun d h1 => setL d h1 K
theorem reps_keys {F : PySem.W.Frag} {W : Vw} {H : Hp} : ∀ {ks : List Key} {vs : List V}, Reps F W H (ks.map kyD) vs → vs = ks.map kV
  | [], _, r => r.nil_inv
  | k :: ks, _, r => by
    obtain ⟨y, ys, rfl, r1, r2⟩ := r.inv
    rw [reps_keys r2, List.map_cons]
    cases k with
    | inl i => rw [show y = kV (.inl i) from r1.int_inv]
    | inr x => rw [show y = kV (.inr x) from r1.str_inv]
theorem keys_reps {F : PySem.W.Frag} {W : Vw} {H : Hp} : ∀ ks : List Key, Reps F W H (ks.map kyD) (ks.map kV)
  | [] => .nil
  | .inl i :: ks => .cons (.int i) (keys_reps ks)
  | .inr x :: ks => .cons (.str x) (keys_reps ks)
variable {e : Expr} {we : Ev} {p p2 q pos : Pos}
theorem arg1 {env : PySem.Env} {e : Expr} (h : isStar e = false) : starEach [e] env = (false, eval e env) :: starEach [] env := by
  cases e <;> first | rfl | cases h
theorem z_setIn (hc : X.calm = true) (hg : Gl X "set") (hm : X.mg "set" = none) (hs : isStar e = false) (he : PE X e (tE X.K we)) : PE X (.Call (.Name "set" p2) [e] [] q) (tCB (rSetK X) (tA X.K (aCons we aNil))) :=
  pe_callTy (cr_setK hc) hg hm (by decide +kernel) (z_acons hs he z_anil) (he := arg1 hs)
theorem z_sortedSet (mu : Bool) (hc : X.calm = true) (hu : X.A.units + 64 < cLine) (hg : Gl X "sorted") (hm : X.mg "sorted" = none) (hg2 : Gl X "set") (hm2 : X.mg "set" = none) (hs : isStar e = false) (he : PE X e (tE X.K we)) :
    PE X (.Call (.Name "sorted" p) [.Call (.Name "set" p2) [e] [] q] [] pos) (tE X.K (cSetS mu we)) := by
  refine (pe_callB (cr_sortedK hc hu) hg hm (by decide +kernel) (pa_cons (z_setIn hc hg2 hm2 hs he) pa_nil)).imp fun σ H Q ⟨W, ρ, h, K0, E, R, w, f⟩ => ?_
  refine ⟨W, ρ, h, fun ds h1 => ∃ d, ds = [d] ∧ setS mu d h1 K0, E, R, ?_, fun ds h1 W1 H1 vs k1 p1 R1 rs => ?_⟩
  · show we ρ h fun d h1 => ∃ d', [d] = [d'] ∧ setS mu d' h1 K0
    have e : (fun (d : D) (h1 : MH) => ∃ d', [d] = [d'] ∧ setS mu d' h1 K0) = fun d h1 => setS mu d h1 K0 := by
      funext d h1
      exact propext ⟨fun ⟨d', e, z⟩ => by cases e; exact z, fun z => ⟨d, rfl, z⟩⟩
    rw [e]
    exact w
  · obtain ⟨d, rfl, ks, e, hb, al, k⟩ := k1
    obtain ⟨v, rfl, rd⟩ := rs.one
    obtain ⟨a, vs, rfl, q, rx⟩ := lstOf_ok e R1 rd
    cases reps_keys rx
    refine ⟨a, ks, rfl, .inl (.inl q), hb, fun b hb => ?_⟩
    refine ⟨b, ks.foldl addK [], rfl, upd_same, al, fun ks' b2 pm hb2 => ?_⟩
    have n1 := R1.free hb
    have R2 := R1.new hb (SetKO X.prog X.w b (ks.foldl addK []))
    exact (Fo.step (Fo.step f p1) (Pres.new n1 hb (SetKO X.prog X.w b (ks.foldl addK [])))).lst R2 hb2 (k ks' pm) (keys_reps _)
theorem z_lenSet (hc : X.calm = true) (hg : Gl X "len") (hm : X.mg "len" = none) (hg2 : Gl X "set") (hm2 : X.mg "set" = none) (hs : isStar e = false) (he : PE X e (tE X.K we)) :
    PE X (.Call (.Name "len" p) [.Call (.Name "set" p2) [e] [] q] [] pos) (tE X.K (cSetL we)) := by
  refine (pe_callB cr_lenK hg hm (by decide +kernel) (pa_cons (z_setIn hc hg2 hm2 hs he) pa_nil)).imp fun σ H Q ⟨W, ρ, h, K0, E, R, w, f⟩ => ?_
  refine ⟨W, ρ, h, fun ds h1 => ∃ d, ds = [d] ∧ setL d h1 K0, E, R, ?_, fun ds h1 W1 H1 vs k1 p1 R1 rs => ?_⟩
  · show we ρ h fun d h1 => ∃ d', [d] = [d'] ∧ setL d' h1 K0
    have e : (fun (d : D) (h1 : MH) => ∃ d', [d] = [d'] ∧ setL d' h1 K0) = fun d h1 => setL d h1 K0 := by
      funext d h1
      exact propext ⟨fun ⟨d', e, z⟩ => by cases e; exact z, fun z => ⟨d, rfl, z⟩⟩
    rw [e]
    exact w
  · obtain ⟨d, rfl, ks, e, hb, k⟩ := k1
    obtain ⟨v, rfl, rd⟩ := rs.one
    obtain ⟨a, vs, rfl, q, rx⟩ := lstOf_ok e R1 rd
    cases reps_keys rx
    refine ⟨a, ks, rfl, .inl (.inl q), hb, fun b hb => ?_⟩
    refine ⟨b, ks.foldl addK [], rfl, upd_same, ?_⟩
    have n1 := R1.free hb
    have R2 := R1.new hb (SetKO X.prog X.w b (ks.foldl addK []))
    exact (Fo.step (Fo.step f p1) (Pres.new n1 hb (SetKO X.prog X.w b (ks.foldl addK [])))).here R2 k (.int _)
end
end Z

set_option Elab.async false
set_option linter.all false
set_option maxRecDepth 100000
/-! ZX: sum, max, min, list(range(..)), tuple(range(..)); list of a generator -/
namespace Z
open PySem PySem.Spec PyProof.Rows L2
section
variable {X : Cx}
def bSum : Wn := fun h ds K => match ds with
  | [d] => ∃ ns : List Int, lstOf h d = some (ns.map .int) ∧ K (.int ns.sum) h
  | _ => False
theorem call_bSum (hc : X.calm = true) : CallR X (.builtin "sum") (rsW X.K bSum) := by
  intro pins s σ H vs us Q I r hh
  obtain ⟨W, h, ds, K0, R, rs, w, f⟩ := hh
  match ds, rs, w with
  | [], _, w => exact w.elim
  | [d], rs, w =>
    obtain ⟨v, rfl, rd⟩ := rs.one
    obtain ⟨ns, e, k⟩ := w
    obtain ⟨a, vs, rfl, q, rx⟩ := lstOf_ok e R rd
    cases lstOf_ints rx
    exact cr_sum hc pins s σ H _ us Q I r ⟨a, ns, rfl, .inl (.inl q), f.here R k (.int _)⟩
  | _ :: _ :: _, _, w => exact w.elim
/-- max, min: of two ints, or of a list of ints -/
def bMax : Wn := fun h ds K => match ds with
  | [d] => ∃ ns : List Int, lstOf h d = some (ns.map .int) ∧ 0 < ns.length ∧ ∀ m, m ∈ ns → (∀ y, y ∈ ns → y ≤ m) → K (.int m) h
  | [.int i, .int j] => K (.int (if j > i then j else i)) h
  | _ => False
def bMin : Wn := fun h ds K => match ds with
  | [d] => ∃ ns : List Int, lstOf h d = some (ns.map .int) ∧ 0 < ns.length ∧ ∀ m, m ∈ ns → (∀ y, y ∈ ns → m ≤ y) → K (.int m) h
  | [.int i, .int j] => K (.int (if j < i then j else i)) h
  | _ => False
theorem call_bMax (hc : X.calm = true) : CallR X (.builtin "max") (rsW X.K bMax) := by
  intro pins s σ H vs us Q I r hh
  obtain ⟨W, h, ds, K0, R, rs, w, f⟩ := hh
  unfold bMax at w
  split at w
  · rename_i d
    obtain ⟨v, rfl, rd⟩ := rs.one
    obtain ⟨ns, e, hl, k⟩ := w
    obtain ⟨a, vs, rfl, q, rx⟩ := lstOf_ok e R rd
    cases lstOf_ints rx
    exact cr_max hc pins s σ H _ us Q I r ⟨a, ns, rfl, .inl (.inl q), hl, fun m h1 h2 => f.here R (k m h1 h2) (.int _)⟩
  · rename_i i j
    obtain ⟨y, ys, rfl, r1, rs⟩ := rs.inv
    obtain ⟨z, rfl, r2⟩ := rs.one
    cases r1.int_inv
    cases r2.int_inv
    exact call_max2 hc pins s σ H _ us Q I r ⟨i, j, rfl, f.here R w (.int _)⟩
  · exact w.elim
theorem call_bMin (hc : X.calm = true) : CallR X (.builtin "min") (rsW X.K bMin) := by
  intro pins s σ H vs us Q I r hh
  obtain ⟨W, h, ds, K0, R, rs, w, f⟩ := hh
  unfold bMin at w
  split at w
  · rename_i d
    obtain ⟨v, rfl, rd⟩ := rs.one
    obtain ⟨ns, e, hl, k⟩ := w
    obtain ⟨a, vs, rfl, q, rx⟩ := lstOf_ok e R rd
    cases lstOf_ints rx
    exact cr_min hc pins s σ H _ us Q I r ⟨a, ns, rfl, .inl (.inl q), hl, fun m h1 h2 => f.here R (k m h1 h2) (.int _)⟩
  · rename_i i j
    obtain ⟨y, ys, rfl, r1, rs⟩ := rs.inv
    obtain ⟨z, rfl, r2⟩ := rs.one
    cases r1.int_inv
    cases r2.int_inv
    exact call_min2 hc pins s σ H _ us Q I r ⟨i, j, rfl, f.here R w (.int _)⟩
  · exact w.elim
/-- list(range(e)), tuple(range(e)) -/
def rngL (n : Nat) : List D := (List.range n).map fun (i : Nat) => .int i
def cRngL (mu : Bool) (w : Ev) : Ev := fun ρ h K => w ρ h fun d h1 => ∃ n : Nat, d = .int n ∧ n ≤ 1000000 ∧ mkL mu (rngL n) h1 K
def cRngT (w : Ev) : Ev := fun ρ h K => w ρ h fun d h1 => ∃ n : Nat, d = .int n ∧ n ≤ 1000000 ∧ K (.tup (rngL n)) h1
variable {e : Expr} {we : Ev} {p p2 q pos : Pos}
theorem reps_rng {F : PySem.W.Frag} {W : Vw} {H : Hp} (n : Nat) : Reps F W H (rngL n) (rgV 0 n) := by
  have : rgV 0 n = (List.range n).map fun (i : Nat) => V.int i := by
    unfold rgV
    simp
  rw [this]
  exact Reps.map_f _ _ (fun i => .int _) _
theorem rgOk_n {n : Nat} (h : n ≤ 1000000) : RgOk 0 n := RgOk.of_le (by omega) (by omega) (by omega) (by omega)
theorem z_rngL (mu : Bool) (hc : X.calm = true) (hg : Gl X "list") (hm : X.mg "list" = none) (hg2 : Gl X "range") (hm2 : X.mg "range" = none) (hs : isStar e = false) (he : PE X e (tE X.K we)) :
    PE X (.Call (.Name "list" p) [.Call (.Name "range" p2) [e] [] q] [] pos) (tE X.K (cRngL mu we)) := by
  refine (pe_listRg hc hg hm (prg_1 hg2 hm2 he (arg1 hs))).imp fun σ H Q ⟨W, ρ, h, K0, E, R, w, f⟩ => ?_
  refine ⟨W, ρ, h, _, E, R, w, fun d h1 W1 H1 v k1 p1 R1 rd => ?_⟩
  obtain ⟨n, rfl, hn, k⟩ := k1
  cases rd.int_inv
  exact ⟨n, rfl, rgOk_n hn, fun b hb => (Fo.step f p1).lst R1 hb k (reps_rng n)⟩
theorem z_rngT (hc : X.calm = true) (hg : Gl X "tuple") (hm : X.mg "tuple" = none) (hg2 : Gl X "range") (hm2 : X.mg "range" = none) (hs : isStar e = false) (he : PE X e (tE X.K we)) :
    PE X (.Call (.Name "tuple" p) [.Call (.Name "range" p2) [e] [] q] [] pos) (tE X.K (cRngT we)) := by
  refine (pe_tupRg hc hg hm (prg_1 hg2 hm2 he (arg1 hs))).imp fun σ H Q ⟨W, ρ, h, K0, E, R, w, f⟩ => ?_
  refine ⟨W, ρ, h, _, E, R, w, fun d h1 W1 H1 v k1 p1 R1 rd => ?_⟩
  obtain ⟨n, rfl, hn, k⟩ := k1
  cases rd.int_inv
  exact ⟨n, rfl, rgOk_n hn, fun b hb => (Fo.step f p1).tup R1 hb k (reps_rng n)⟩
/-- list(g(..)) with a generator def's promise -/
def cGenL (mu : Bool) (g : Gs) (as : Av) : Ev := fun ρ h K => as ρ h fun ds h1 => g ds h1 fun d h2 => match d with
  | .lst xs => mkL mu xs h2 K
  | _ => False
/-- x is a generator def of the module: list(x(..)) gives what g says, in each context of the def X and its blocks -/
def GnZ (X : Cx) (x : Str) (g : Gs) : Prop := ∀ Y : Cx, Y.prog = X.prog → Y.w = X.w → Y.K = X.K → Y.mg = X.mg → Y.base = X.base → Y.A = X.A → (Y.xe = fun _ _ => False) →
  ∀ (mu : Bool) (e : Expr) (es : List Expr) (as : Av) (p pos pos' p0 : Pos), noStars (e :: es) = true → Gl Y x → Gl Y "list" → Y.mg "list" = none → PA Y (e :: es) (tA Y.K as) →
    PE Y (.Call (.Name "list" p0) [.Call (.Name x p) (e :: es) [] pos'] [] pos) (tE Y.K (cGenL mu g as))
end
end Z

set_option Elab.async false
set_option linter.all false
set_option maxRecDepth 100000
/-! Z3a: more operators and calls; what the translator knows -/
namespace Z
open PySem PySem.Spec PyProof.Rows L2

/-! operators -/
def wMul : W2 := fun h x y K => match x, y with
  | .int i, .int j => CMulW i j ∧ K (.int (i * j)) h
  | x, .int k => ∃ xs, lstOf h x = some xs ∧ -(2 ^ 63) ≤ k ∧ k < 2 ^ 63 ∧ xs.length * k.toNat ≤ sizeLine ∧ K (.lst (List.replicate k.toNat xs).flatten) h
  | _, _ => False
def wMod : W2 := wInt (fun _ j => 0 < j) fun i j => .int (i % j)
def wDiv : W2 := wInt CDivW fun i j => .int (i / j)
def wPow : W2 := wInt CPow fun i j => .int (i ^ j.toNat)
section
variable {X : Cx}
theorem Reps.rep {F : PySem.W.Frag} {W : Vw} {H : Hp} {xs : List D} {vs : List V} (r : Reps F W H xs vs) : ∀ n, Reps F W H (List.replicate n xs).flatten (List.replicate n vs).flatten
  | 0 => .nil
  | n + 1 => by
    rw [List.replicate_succ, List.replicate_succ, List.flatten_cons, List.flatten_cons]
    exact Reps.append r (Reps.rep r n)
theorem op_wMul : OpR X (binaryOp .Mult) (r2W X.K wMul) := by
  intro pins s σ H x y v u Q I rx ry hh
  obtain ⟨W, h, dx, dy, K0, R, r1, r2, w, fo⟩ := hh
  have rest : ∀ k : Int, dy = .int k → (∃ xs, lstOf h dx = some xs ∧ -(2 ^ 63) ≤ k ∧ k < 2 ^ 63 ∧ xs.length * k.toNat ≤ sizeLine ∧ K0 (.lst (List.replicate k.toNat xs).flatten) h) → wpAny (model X.prog X.w) X.A (binaryOp .Mult v u) (EP X pins σ Q) X.xe s := fun k ek w2 => by
    obtain ⟨xs, e, h1, h2, hz, q⟩ := w2
    rw [ek] at r2
    cases r2.int_inv
    obtain ⟨a, vs, rfl, ha, rs⟩ := lstOf_ok e R r1
    exact op_rep pins s σ H _ _ v u Q I rx ry ⟨a, k, vs, rfl, rfl, ha, h1, h2, by rw [rs.length]; exact hz, fun p hp => fo.lst R hp (mu := false) q (Reps.rep rs k.toNat)⟩
  cases dy with
  | int j =>
    cases dx with
    | int i =>
      cases r1.int_inv
      cases r2.int_inv
      exact op_mulW pins s σ H _ _ v u Q I rx ry ⟨i, j, rfl, rfl, w.1, fo.here R w.2 (.int _)⟩
    | _ => exact rest j rfl w
  | _ => cases dx <;> exact w.elim
theorem op_wMod : OpR X (binaryOp .Mod) (r2W X.K wMod) := op_wInt op_mod fun _ _ _ _ _ => .int _
theorem op_wDiv : OpR X (binaryOp .FloorDiv) (r2W X.K wDiv) := op_wInt op_fdivW fun _ _ _ _ _ => .int _
theorem op_wPow : OpR X (binaryOp .Pow) (r2W X.K wPow) := op_wInt op_pow fun _ _ _ _ _ => .int _
end
/-- {} -/
def cDict : Ev := fun _ h Q => Q (.ref h.length) (h ++ [.dic []])
theorem z_dict {X : Cx} {pos : Pos} : PE X (.Dict [] [] pos) (tE X.K cDict) := by
  refine pe_dnewK.imp fun σ H Q ⟨W, ρ, h, K0, E, R, w, f⟩ p hp => ?_
  have P := Pres.more (R.free hp) hp (.dK [])
  exact f _ _ _ _ _ w P (R.more hp ⟨[], upd_same, rfl, .nil⟩) R.ref
/-- sorted of a dict of texts -/
def bSortedD (mu : Bool) (h : MH) (d : D) (K : D → MH → Prop) : Prop := ∃ kvs, ∃ ks : List Str, dicOf h d = some kvs ∧ kvs.map (·.1) = ks.map Sum.inr ∧ ks.length < 64 ∧ ∀ ys, ys.Perm ks → sortedS ys = true → mkL mu (ys.map .str) h K
def bSorted2 (mu : Bool) : Wn := fun h ds K => bSorted mu h ds K ∨ ∃ d, ds = [d] ∧ bSortedD mu h d K
theorem call_bSorted2 {X : Cx} (hc : X.calm = true) (hu : X.A.units + 64 < cLine) (mu : Bool) : CallR X (.builtin "sorted") (rsW X.K (bSorted2 mu)) := by
  intro pins s σ H vs us Q I r hh
  obtain ⟨W, h, ds, K0, R, rs, w, f⟩ := hh
  rcases w with w | ⟨d, rfl, kvs, ks, e, hk, hl, w⟩
  · exact call_bSorted hu mu pins s σ H vs us Q I r ⟨W, h, ds, K0, R, rs, w, f⟩
  · obtain ⟨v, rfl, rd⟩ := rs.one
    obtain ⟨a, kv, rfl, q, rx⟩ := dicOf_ok e R rd
    refine call_sortedD hc pins s σ H _ us Q I r ⟨a, kv, ks, rfl, q, rx.1.trans hk, hl, fun ys p h1 h2 hp => ?_⟩
    exact f.lst R hp (w ys h1 h2) (Reps.map_f _ _ (fun z => .str z) ys)

def bInt : Wn := fun h ds K => match ds with
  | [.bl b] => K (.int (if b then 1 else 0)) h
  | [.int i] => K (.int i) h
  | _ => False
theorem call_bInt {X : Cx} : CallR X (.type "int") (rsW X.K bInt) := by
  intro pins s σ H vs us Q I r hh
  obtain ⟨W, h, ds, K0, R, rs, w, f⟩ := hh
  unfold bInt at w
  split at w
  · rename_i b
    obtain ⟨v, rfl, rd⟩ := rs.one
    have e : v = .bl b := by simpa [Rep] using rd
    subst e
    exact call_int1 pins s σ H _ us Q I r (.inr ⟨b, rfl, f.here R w (.int _)⟩)
  · rename_i i
    obtain ⟨v, rfl, rd⟩ := rs.one
    cases rd.int_inv
    exact call_int1 pins s σ H _ us Q I r (.inl ⟨i, rfl, f.here R w (.int _)⟩)
  · exact w.elim
/-! what the translator knows of a global name -/
inductive Bt where
  | len | sorted | tuple | list | all | any | range | enumerate | zip | isinstance | int | str | bool | max | min | sum | dict | set
def Bt.name : Bt → Str
  | .len => "len" | .sorted => "sorted" | .tuple => "tuple" | .list => "list" | .all => "all" | .any => "any" | .range => "range" | .enumerate => "enumerate" | .zip => "zip"
  | .isinstance => "isinstance" | .int => "int" | .str => "str" | .bool => "bool" | .max => "max" | .min => "min" | .sum => "sum" | .dict => "dict" | .set => "set"
inductive Sy where
  | fn (g : Gs)
  | blt (b : Bt)
  | con (d : D)
  | gen (g : Gs)
structure ConZ (X : Cx) (x : Str) (d : D) : Prop where
  gl : (x == ("__debug__" : Str)) = false
  ex : ∃ v u, X.mg x = some u ∧ RelV v u ∧ ∀ W H, Rep X.K W H d v
def SyOk (X : Cx) (x : Str) : Sy → Prop
  | .fn g => FnZ X x g
  | .blt b => X.mg x = none ∧ x = b.name
  | .con d => ConZ X x d
  | .gen g => GnZ X x g
structure Ct where
  N : List Str
  sc : List (Str × NameKind)
  fn : Option (List Str)
  gl : List (Str × Sy)
  ln : Nat
  mus : List (Nat × Nat)
  dks : List Str
structure Good (X : Cx) (c : Ct) : Prop where
  N : X.N = c.N
  nd : c.N.Nodup
  sc : X.env.scope.names = c.sc
  kd : X.env.scope.kind = .function
  fn : ∀ x, (match c.fn with | none => true | some l => l.contains x) = true → X.fn x = true
  calm : X.calm = true
  hu : X.A.units + 64 < cLine
  xe : X.xe = fun _ _ => False
  nb : ∀ x ∈ c.N, (x == ("__debug__" : Str)) = false ∧ (x == ("__classdict__" : Str)) = false
  gl : ∀ x s, c.gl.lookup x = some s → SyOk X x s
def relN (names sc : List (Str × NameKind)) : List (Str × NameKind) := names.map fun (n, k) => if (k == .free && sc.lookup n == some .cell) then (n, .cell) else (n, k)
def Ct.blk (c : Ct) (scope : Scope) : Ct := { c with sc := relN scope.names c.sc, fn := some ((scope.names.filter fun p => p.2 == .cell).map (·.1)) }
def scOf (c : Ct) : Scope := { kind := .function, names := c.sc, isGenerator := false, isCoroutine := false }
theorem Good.lk {X : Cx} {c : Ct} (G : Good X c) (x : Str) : X.env.scope.names.lookup x = c.sc.lookup x := by rw [G.sc]
theorem Good.blkOk {X : Cx} {c : Ct} (G : Good X c) {scope : Scope} {own : List (Str × Nat)} (h : blkC c.N (scOf c) scope own = true) : BlkOk X.N X.env.scope scope own := by
  have b := blkOk_by h
  rw [G.N]
  exact ⟨b.kind, b.uniq, b.ix, fun y hy e => by rw [G.sc]; exact b.free y hy e, b.own⟩
theorem lookup_cell : ∀ {l : List (Str × NameKind)} {x : Str}, (∀ y ∈ l, l.lookup y.1 = some y.2) → (((l.filter fun p => p.2 == NameKind.cell).map (·.1)).contains x) = true → l.lookup x = some .cell := by
  intro l x hu h
  simp only [List.contains_eq_mem, List.mem_map, List.mem_filter, decide_eq_true_eq] at h
  obtain ⟨p, ⟨hp, hk⟩, rfl⟩ := h
  have e : p.2 = .cell := by
    cases hq : p.2 <;> rw [hq] at hk <;> first | rfl | cases hk
  rw [hu p hp, e]
theorem Good.blk {X : Cx} {c : Ct} (G : Good X c) {scope : Scope} {own : List (Str × Nat)} (h : blkC c.N (scOf c) scope own = true) (s : Shared) (H : Hp) (C : Addr) (cl : List (Str × Addr)) (fp : List Addr) :
    Good (X.blk s H scope (compEnvC scope cl C X.env) fp) (c.blk scope) := by
  have b := blkOk_by h
  refine ⟨G.N, G.nd, ?_, b.kind, fun x hx => ?_, G.calm, G.hu, rfl, G.nb, fun x sy e => ?_⟩
  · show (scope.names.map fun (n, k) => if (k == NameKind.free && X.env.scope.kind == .function && X.env.kindOf n == some .cell) then (n, NameKind.cell) else (n, k)) = relN scope.names c.sc
    unfold relN
    refine List.map_congr_left fun p _ => ?_
    obtain ⟨n, k⟩ := p
    have e1 : X.env.kindOf n = c.sc.lookup n := G.lk n
    show (if (k == NameKind.free && X.env.scope.kind == .function && X.env.kindOf n == some .cell) = true then (n, NameKind.cell) else (n, k)) = _
    rw [e1, G.kd]
    have e2 : (ScopeKind.function == ScopeKind.function) = true := rfl
    rw [e2, Bool.and_true]
  · have hx : ((scope.names.filter fun p => p.2 == NameKind.cell).map (·.1)).contains x = true := hx
    show (scope.names.lookup x == some .cell) = true
    rw [lookup_cell b.uniq hx]
    rfl
  · have := G.gl x sy e
    cases sy with
    | fn g => exact ⟨this.gl, this.ex⟩
    | blt bt => exact this
    | con d => exact ⟨this.gl, this.ex⟩
    | gen g => exact fun Y h1 h2 h3 h4 h5 h6 h7 => this Y h1 h2 h3 h4 h5 h6 h7
end Z

set_option Elab.async false
set_option linter.all false
set_option maxRecDepth 100000
/-! Z3b: the translator and its soundness -/
namespace Z
open PySem PySem.Spec PyProof.Rows L2

structure Tr where
  e : Ct → Expr → Option Ev
  t : Ct → Expr → Option Tv
  a : Ct → List Expr → Option Av
  i : Ct → Expr → Expr → Option Iv
  g : Ct → List Nat → Expr → Option Gv
  gs : Ct → List Nat → List Expr → Option (List D → Rho → MH → (Rho → MH → Prop) → Prop)
  s : Ct → Stmt → Option Sv
  ss : Ct → List Stmt → Option Sv
structure TrOk (r : Tr) : Prop where
  e : ∀ X c e w, Good X c → r.e c e = some w → PE X e (tE X.K w)
  t : ∀ X c e w, Good X c → r.t c e = some w → PT X e (tT X.K w)
  a : ∀ X c e w, Good X c → r.a c e = some w → PA X e (tA X.K w)
  i : ∀ X c tg e w, Good X c → r.i c tg e = some w → PI X tg e (tI X.K w)
  g : ∀ X c vs e w, Good X c → r.g c vs e = some w → PG X e (tG X.K w vs)
  gs : ∀ X c vs e w, Good X c → r.gs c vs e = some w → PGs X e (tGs X.K w vs)
  s : ∀ X c e w, Good X c → r.s c e = some w → PS X e (tS X.K w)
  ss : ∀ X c e w, Good X c → r.ss c e = some w → PSs X e (tS X.K w)

def ixOf (x : Str) : List Str → Nat → Option Nat
  | [], _ => none
  | y :: ys, n => if y = x then some n else ixOf x ys (n + 1)
theorem ixOf_ok {x : Str} : ∀ {l : List Str} {n i : Nat}, ixOf x l n = some i → n ≤ i ∧ l[i - n]? = some x
  | [], _, _, h => by simp [ixOf] at h
  | y :: ys, n, i, h => by
    unfold ixOf at h
    split at h
    · rename_i e
      cases h
      subst e
      exact ⟨Nat.le_refl _, by simp⟩
    · obtain ⟨h1, h2⟩ := ixOf_ok h
      refine ⟨by omega, ?_⟩
      have e : i - n = (i - (n + 1)) + 1 := by omega
      rw [e, List.getElem?_cons_succ]
      exact h2
theorem ix_at {c : Ct} {x : Str} {i : Nat} (h : ixOf x c.N 0 = some i) : c.N[i]? = some x := by
  have := (ixOf_ok h).2
  simpa using this
def Ct.mu (c : Ct) (p : Pos) : Bool := c.mus.contains (p.line - c.ln, p.col)
/-- a global's symbol -/
def symOf (c : Ct) (x : Str) : Option Sy := match c.sc.lookup x with
  | some .globalImplicit => c.gl.lookup x
  | _ => none
theorem sym_ok {X : Cx} {c : Ct} {x : Str} {s : Sy} (G : Good X c) (h : symOf c x = some s) : Gl X x ∧ SyOk X x s := by
  unfold symOf at h
  split at h
  · rename_i e
    exact ⟨(G.lk x).trans e, G.gl x s h⟩
  · cases h
def isVis (c : Ct) (x : Str) : Bool := match c.sc.lookup x with
  | some .local => true
  | some .cell => true
  | some .free => true
  | _ => false
def isLocal (c : Ct) (x : Str) : Bool := match c.sc.lookup x with
  | some .local => true
  | _ => false
def isLoc (c : Ct) (x : Str) : Bool := match c.sc.lookup x with
  | some .local => true
  | some .cell => match c.fn with
    | none => true
    | some l => l.contains x
  | _ => false
theorem isVis_ok {X : Cx} {c : Ct} {x : Str} (G : Good X c) (h : isVis c x = true) : Vis X.env.scope x := by
  unfold isVis at h
  unfold Vis
  rw [G.lk x]
  split at h <;> first | (rename_i e; rw [e]; simp) | cases h
theorem isLocal_ok {X : Cx} {c : Ct} {x : Str} (G : Good X c) (h : isLocal c x = true) : X.env.scope.names.lookup x = some .local := by
  unfold isLocal at h
  rw [G.lk x]
  split at h
  · assumption
  · cases h
theorem isLoc_ok {X : Cx} {c : Ct} {x : Str} (G : Good X c) (h : isLoc c x = true) : L2.Loc X.env.scope x ∧ (X.fn x = true ∨ X.env.scope.names.lookup x = some .local) := by
  unfold isLoc at h
  unfold L2.Loc
  rw [G.lk x]
  split at h
  · rename_i e
    exact ⟨.inl e, .inr e⟩
  · rename_i e
    exact ⟨.inr e, .inl (G.fn x h)⟩
  · cases h
def trName (c : Ct) (x : Str) : Option Ev :=
  if isVis c x then (ixOf x c.N 0).map cVar else match symOf c x with
    | some (.con d) => some (cK d)
    | _ => none
section
variable {X : Cx} {c : Ct} {pos : Pos}
theorem trName_ok {x : Str} {w : Ev} (G : Good X c) (h : trName c x = some w) : PE X (.Name x pos) (tE X.K w) := by
  unfold trName at h
  split at h
  · rename_i hv
    cases e : ixOf x c.N 0 with
    | none => rw [e] at h; cases h
    | some i =>
      rw [e] at h
      cases h
      have hi := ix_at e
      have nb := G.nb x (List.mem_of_getElem? hi)
      exact z_var (by rw [G.N]; exact hi) (isVis_ok G hv) nb.1 nb.2
  · split at h
    · rename_i d e
      cases h
      obtain ⟨hg, C⟩ := sym_ok G e
      obtain ⟨v, u, hm, r, rp⟩ := C.ex
      exact (pe_glob hg hm r C.gl).imp (tE_K rp)
    · cases h
def trConst : Const → Option Ev
  | .int i => some (cK (.int i))
  | .str x => some (cK (.str x))
  | .bool b => some (cK (.bl b))
  | .none => some (cK .non)
  | _ => none
theorem trConst_ok {k : Const} {j : Nat} {w : Ev} (h : trConst k = some w) : PE X (.Constant k j pos) (tE X.K w) := by
  cases k <;> first
    | (cases h; exact z_int)
    | (cases h; exact z_str)
    | (cases h; exact z_bl)
    | (cases h; exact z_non)
    | cases h
def opW (mu : Bool) : Operator → Option W2
  | .Add => some (wAdd mu)
  | .Sub => some wSub
  | .Mult => some wMul
  | .Mod => some wMod
  | .FloorDiv => some wDiv
  | .Pow => some wPow
  | _ => none
theorem opW_ok {mu : Bool} {op : Operator} {o : W2} (h : opW mu op = some o) : OpR X (binaryOp op) (r2W X.K o) := by
  cases op <;> first
    | (cases h; exact op_wAdd mu)
    | (cases h; exact op_wSub)
    | (cases h; exact op_wMul)
    | (cases h; exact op_wMod)
    | (cases h; exact op_wDiv)
    | (cases h; exact op_wPow)
    | cases h
def cmpW : CmpOp → Option W2
  | .Eq => some (wEq false)
  | .NotEq => some (wEq true)
  | .Lt => some wLt
  | .LtE => some wLe
  | .Gt => some wGt
  | .GtE => some wGe
  | .In => some (wIn false)
  | .NotIn => some (wIn true)
  | _ => none
theorem cmpW_ok {op : CmpOp} {o : W2} (G : Good X c) (h : cmpW op = some o) : OpR X (compareOp op) (r2W X.K o) := by
  have hu := G.hu
  cases op <;> first
    | (cases h; exact op_wEq hu)
    | (cases h; exact op_wNe hu)
    | (cases h; exact op_wLt hu)
    | (cases h; exact op_wLe)
    | (cases h; exact op_wGt)
    | (cases h; exact op_wGe)
    | (cases h; exact op_wIn hu)
    | (cases h; exact op_wNotIn hu)
    | cases h

/-! calls -/
/-- built-ins called by name -/
def btW (mu : Bool) : Bt → Option Wn
  | .len => some bLen
  | .sorted => some (bSorted2 mu)
  | .tuple => some bTuple
  | .list => some (bList mu)
  | .all => some (bBools fun bs => bs.all id)
  | .any => some (bBools fun bs => bs.any id)
  | .sum => some bSum
  | .max => some bMax
  | .min => some bMin
  | .int => some bInt
  | _ => none
def Bt.isTy : Bt → Option String
  | .tuple => some "tuple"
  | .list => some "list"
  | .int => some "int"
  | .str => some "str"
  | .bool => some "bool"
  | _ => none
theorem isTy_ok {b : Bt} {T : String} (h : b.isTy = some T) : T ∈ isiNames ∧ bootBuiltins b.name = some (.type T) ∧ b.name ≠ "__name__" ∧ b.name ≠ "__debug__" := by
  cases b <;> first
    | (cases h; decide +kernel)
    | cases h
theorem btW_ok {mu : Bool} {b : Bt} {o : Wn} {e : Expr} {es : List Expr} {was : Av} {p : Pos} (G : Good X c) (h : btW mu b = some o) (hg : Gl X b.name) (hm : X.mg b.name = none) (h0 : noStars (e :: es) = true) (ha : PA X (e :: es) (tA X.K was)) :
    PE X (.Call (.Name b.name p) (e :: es) [] pos) (tE X.K (cB o was)) := by
  have hu := G.hu
  have hc := G.calm
  cases b <;> first
    | (cases h; exact z_B call_bLen hg hm (by decide +kernel) (by decide +kernel) (by decide +kernel) h0 ha)
    | (cases h; exact z_B (call_bSorted2 hc hu mu) hg hm (by decide +kernel) (by decide +kernel) (by decide +kernel) h0 ha)
    | (cases h; exact z_Ty call_bTuple hg hm (by decide +kernel) (by decide +kernel) (by decide +kernel) h0 ha)
    | (cases h; exact z_Ty (call_bList mu) hg hm (by decide +kernel) (by decide +kernel) (by decide +kernel) h0 ha)
    | (cases h; exact z_B (call_bAll hc) hg hm (by decide +kernel) (by decide +kernel) (by decide +kernel) h0 ha)
    | (cases h; exact z_B (call_bAny hc) hg hm (by decide +kernel) (by decide +kernel) (by decide +kernel) h0 ha)
    | (cases h; exact z_B (call_bSum hc) hg hm (by decide +kernel) (by decide +kernel) (by decide +kernel) h0 ha)
    | (cases h; exact z_B (call_bMax hc) hg hm (by decide +kernel) (by decide +kernel) (by decide +kernel) h0 ha)
    | (cases h; exact z_Ty call_bInt hg hm (by decide +kernel) (by decide +kernel) (by decide +kernel) h0 ha)
    | (cases h; exact z_B (call_bMin hc) hg hm (by decide +kernel) (by decide +kernel) (by decide +kernel) h0 ha)
    | cases h
/-- a type by its name -/
def tyOf (c : Ct) : Expr → Option String
  | .Name x _ => match symOf c x with
    | some (.blt b) => b.isTy
    | _ => none
  | _ => none
theorem tyOf_ok {e : Expr} {T : String} (G : Good X c) (h : tyOf c e = some T) : ∃ x p, e = .Name x p ∧ T ∈ isiNames ∧ Gl X x ∧ X.mg x = none ∧ bootBuiltins x = some (.type T) ∧ x ≠ "__name__" ∧ x ≠ "__debug__" := by
  unfold tyOf at h
  split at h
  · rename_i x p
    split at h
    · rename_i b e
      obtain ⟨hg, hm, hx⟩ := sym_ok G e
      obtain ⟨h1, h2, h3, h4⟩ := isTy_ok h
      exact ⟨x, p, rfl, h1, hg, hm, by rw [hx]; exact h2, by rw [hx]; exact h3, by rw [hx]; exact h4⟩
    · cases h
  · cases h
def trIsi (r : Tr) (c : Ct) : List Expr → Option Ev
  | [e, .Tuple [a, b] _ _] => if isStar e then none else match r.e c e, tyOf c a, tyOf c b with
    | some w, some T, some T2 => some (cIsi [T, T2] w)
    | _, _, _ => none
  | [e, a] => if isStar e then none else match r.e c e, tyOf c a with
    | some w, some T => some (cIsi [T] w)
    | _, _ => none
  | _ => none
theorem isi_name {x : Str} (h : x = Bt.isinstance.name) : x = "isinstance" := h
theorem trIsi_ok {r : Tr} (ro : TrOk r) {x : Str} {es : List Expr} {w : Ev} {p : Pos} (G : Good X c) (hg : Gl X x) (hm : X.mg x = none) (hx : x = Bt.isinstance.name) (h : trIsi r c es = some w) : PE X (.Call (.Name x p) es [] pos) (tE X.K w) := by
  have hx := isi_name hx
  subst hx
  unfold trIsi at h
  split at h
  · split at h
    · cases h
    · rename_i hs
      split at h
      · rename_i w1 T T2 e1 e2 e3
        cases h
        obtain ⟨x1, p1, rfl, a1, a2, a3, a4, a5, a6⟩ := tyOf_ok G e2
        obtain ⟨x2, p2, rfl, b1, b2, b3, b4, b5, b6⟩ := tyOf_ok G e3
        exact z_isi2 a1 b1 hg hm a2 a3 a4 a5 a6 b2 b3 b4 b5 b6 (by simpa using hs) (ro.e _ _ _ _ G e1)
      · cases h
  · split at h
    · cases h
    · rename_i hs
      split at h
      · rename_i w1 T e1 e2
        cases h
        obtain ⟨x1, p1, rfl, a1, a2, a3, a4, a5, a6⟩ := tyOf_ok G e2
        exact z_isi1 a1 hg hm a2 a3 a4 a5 a6 (by simpa using hs) (ro.e _ _ _ _ G e1)
      · cases h
  · cases h
/-- a built-in of a call by name: sorted(set(e)), len(set(e)), list(range(e)), tuple(range(e)), list(g(..)) -/
def trNest (r : Tr) (c : Ct) (b : Bt) (mu : Bool) : List Expr → Option Ev
  | [.Call (.Name y _) [e] [] _] => match b, symOf c y with
    | .sorted, some (.blt .set) => if isStar e then none else (r.e c e).map (cSetS mu)
    | .len, some (.blt .set) => if isStar e then none else (r.e c e).map cSetL
    | .list, some (.blt .range) => if isStar e then none else (r.e c e).map (cRngL mu)
    | .tuple, some (.blt .range) => if isStar e then none else (r.e c e).map cRngT
    | .list, some (.gen g) => if isStar e then none else (r.a c [e]).map (cGenL mu g)
    | _, _ => none
  | [.Call (.Name y _) (e :: e2 :: es) [] _] => match b, symOf c y with
    | .list, some (.gen g) => if noStars (e :: e2 :: es) then (r.a c (e :: e2 :: es)).map (cGenL mu g) else none
    | _, _ => none
  | _ => none
theorem blt_at {b : Bt} {x : Str} (G : Good X c) (h : symOf c x = some (.blt b)) : Gl X b.name ∧ X.mg b.name = none ∧ x = b.name := by
  obtain ⟨hg, hm, hx⟩ := sym_ok G h
  subst hx
  exact ⟨hg, hm, rfl⟩
theorem omap_inv {α β : Type} {f : α → β} {o : Option α} {y : β} (h : o.map f = some y) : ∃ x, o = some x ∧ f x = y := by
  cases o with
  | none => cases h
  | some x => exact ⟨x, rfl, Option.some.inj h⟩
theorem trNest_ok {r : Tr} (ro : TrOk r) {b : Bt} {mu : Bool} {es : List Expr} {w : Ev} {p : Pos} (G : Good X c) (hg : Gl X b.name) (hm : X.mg b.name = none) (h : trNest r c b mu es = some w) : PE X (.Call (.Name b.name p) es [] pos) (tE X.K w) := by
  have mo : ∀ {e : Expr} {f : Ev → Ev}, (if isStar e then none else (r.e c e).map f) = some w → isStar e = false ∧ ∃ v, r.e c e = some v ∧ w = f v := fun {e f} h => by
    split at h
    · cases h
    · rename_i hs
      cases e3 : r.e c e with
      | none => rw [e3] at h; cases h
      | some v =>
        rw [e3] at h
        cases h
        exact ⟨by simpa using hs, v, rfl, rfl⟩
  unfold trNest at h
  split at h
  · split at h
    · rename_i e2
      obtain ⟨g2, m2, rfl⟩ := blt_at G e2
      obtain ⟨hs, v, e3, rfl⟩ := mo h
      exact z_sortedSet mu G.calm G.hu hg hm g2 m2 hs (ro.e _ _ _ _ G e3)
    · rename_i e2
      obtain ⟨g2, m2, rfl⟩ := blt_at G e2
      obtain ⟨hs, v, e3, rfl⟩ := mo h
      exact z_lenSet G.calm hg hm g2 m2 hs (ro.e _ _ _ _ G e3)
    · rename_i e2
      obtain ⟨g2, m2, rfl⟩ := blt_at G e2
      obtain ⟨hs, v, e3, rfl⟩ := mo h
      exact z_rngL mu G.calm hg hm g2 m2 hs (ro.e _ _ _ _ G e3)
    · rename_i e2
      obtain ⟨g2, m2, rfl⟩ := blt_at G e2
      obtain ⟨hs, v, e3, rfl⟩ := mo h
      exact z_rngT G.calm hg hm g2 m2 hs (ro.e _ _ _ _ G e3)
    · rename_i g e2
      obtain ⟨g2, gz⟩ := sym_ok G e2
      split at h
      · cases h
      · rename_i hs
        obtain ⟨v, e3, rfl⟩ := omap_inv h
        exact gz X rfl rfl rfl rfl rfl rfl G.xe mu _ _ _ _ _ _ _ (by simpa [noStars] using hs) g2 hg hm (ro.a _ _ _ _ G e3)
    · cases h
  · split at h
    · rename_i g e2
      obtain ⟨g2, gz⟩ := sym_ok G e2
      split at h
      · rename_i hs
        obtain ⟨v, e3, rfl⟩ := omap_inv h
        exact gz X rfl rfl rfl rfl rfl rfl G.xe mu _ _ _ _ _ _ _ hs g2 hg hm (ro.a _ _ _ _ G e3)
      · cases h
    · cases h
  · cases h
/-- a call by name -/
def trCallN (r : Tr) (c : Ct) (x : Str) (es : List Expr) (pos : Pos) : Option Ev := match symOf c x with
  | some (.fn g) => match es with
    | [.Starred e _] => (r.e c e).map fun w => cCall g (aStar w aNil)
    | e :: es => if isStar e then none else (r.a c (e :: es)).map fun w => cCall g w
    | [] => none
  | some (.blt .isinstance) => trIsi r c es
  | some (.blt b) => match trNest r c b (c.mu pos) es with
    | some w => some w
    | none => match es with
    | e :: es => if noStars (e :: es) then match btW (c.mu pos) b, r.a c (e :: es) with
      | some o, some w => some (cB o w)
      | _, _ => none
      else none
    | [] => none
  | _ => none
theorem trCallN_ok {r : Tr} (ro : TrOk r) {x : Str} {es : List Expr} {w : Ev} {p : Pos} (G : Good X c) (h : trCallN r c x es pos = some w) : PE X (.Call (.Name x p) es [] pos) (tE X.K w) := by
  unfold trCallN at h
  split at h
  · rename_i g e
    obtain ⟨hg, F⟩ := sym_ok G e
    split at h
    · rename_i e2 p2
      cases e3 : r.e c e2 with
      | none => rw [e3] at h; cases h
      | some w1 =>
        rw [e3] at h
        cases h
        exact z_callS F hg (ro.e _ _ _ _ G e3)
    · split at h
      · cases h
      · rename_i hs
        rename_i e2 es2 _
        cases e3 : r.a c (e2 :: es2) with
        | none => rw [e3] at h; cases h
        | some w1 =>
          rw [e3] at h
          cases h
          exact z_call F hg (by simpa using hs) (ro.a _ _ _ _ G e3)
    · cases h
  · rename_i e
    obtain ⟨hg, hm, hx⟩ := sym_ok G e
    exact trIsi_ok ro G hg hm hx h
  · rename_i b _ e
    obtain ⟨hg, hm, hx⟩ := blt_at G e
    split at h
    · rename_i w2 e2
      cases h
      subst hx
      exact trNest_ok ro G hg hm e2
    split at h
    · split at h
      · rename_i hs
        split at h
        · rename_i o w1 e1 e2
          cases h
          subst hx
          exact btW_ok G e1 hg hm hs (ro.a _ _ _ _ G e2)
        · cases h
      · cases h
    · cases h
  · cases h
/-- methods -/
def meOf (x : Str) : Option (List String × (String → Wm)) :=
  if x = "append" then some (["list"], fun _ => mAppend)
  else if x = "get" then some (["dict"], fun _ => mGet)
  else if x = "pop" then some (["list", "dict"], fun T => if T = "list" then mPopL else mPopD)
  else none
theorem meOf_ok {x : Str} {sup : List String} {wm : String → Wm} (G : Good X c) (h : meOf x = some (sup, wm)) : ∀ T ∈ sup, MtZ X x T (wm T) := by
  unfold meOf at h
  split at h
  · rename_i e
    cases h
    subst e
    intro T hT
    simp at hT
    subst hT
    exact mtz_append
  · split at h
    · rename_i e
      cases h
      subst e
      intro T hT
      simp at hT
      subst hT
      exact mtz_get G.hu
    · split at h
      · rename_i e
        cases h
        subst e
        intro T hT
        simp at hT
        rcases hT with rfl | rfl
        · exact mtz_popL
        · exact mtz_popD
      · cases h
def noSup : Expr → Bool
  | .Call (.Name _ _) [] [] _ => false
  | _ => true
theorem base_ok {o : Expr} {x : Str} {env : PySem.Env} {wh : Sem Value} (h : noSup o = true) : attributeBase o x env wh = wh := by
  unfold attributeBase
  split
  · cases h
  · rfl
def trMeth (r : Tr) (c : Ct) (o : Expr) (x : Str) (ap : Pos) (es : List Expr) (pos : Pos) : Option Ev :=
  if noSup o && mFew es && (ap.endLine == pos.line) then match meOf x, r.e c o with
    | some (sup, wm), some wo => match es with
      | [] => some (cMe sup wm wo aNil)
      | e :: es => (r.a c (e :: es)).map fun wa => cMe sup wm wo wa
    | _, _ => none
  else none
theorem trMeth_ok {r : Tr} (ro : TrOk r) {o : Expr} {x : Str} {ap : Pos} {es : List Expr} {w : Ev} (G : Good X c) (h : trMeth r c o x ap es pos = some w) : PE X (.Call (.Attribute o x ap) es [] pos) (tE X.K w) := by
  unfold trMeth at h
  split at h
  · rename_i hb
    simp only [Bool.and_eq_true] at hb
    obtain ⟨⟨h1, h2⟩, h3⟩ := hb
    split at h
    · rename_i sup wm wo e1 e2
      split at h
      · cases h
        exact z_meth0 (meOf_ok G e1) (base_ok h1) h3 (ro.e _ _ _ _ G e2)
      · rename_i e es
        cases e3 : r.a c (e :: es) with
        | none => rw [e3] at h; cases h
        | some wa =>
          rw [e3] at h
          cases h
          exact z_meth (meOf_ok G e1) (base_ok h1) h2 h3 (ro.e _ _ _ _ G e2) (ro.a _ _ _ _ G e3)
    · cases h
  · cases h
/-! comprehensions -/
def ownOf (c : Ct) (scope : Scope) : List (Str × Nat) := scope.names.filterMap fun p => match p.2 with
  | .local => (ixOf p.1 c.N 0).map fun i => (p.1, i)
  | .cell => (ixOf p.1 c.N 0).map fun i => (p.1, i)
  | _ => none
def isSet : Expr → Bool
  | .Set _ _ _ => true
  | _ => false
theorem folded_ok {it : Expr} (h : isSet it = false) : ∀ (env : PySem.Env) x, foldedSetIterable it env x = pure x := by
  intro env x
  cases it <;> first | rfl | cases h
def lockOf (c : Ct) : Expr → Option Nat
  | .Name x _ => if c.dks.contains x then ixOf x c.N 0 else none
  | _ => none
def trIfs (r : Tr) (c : Ct) : List Expr → Option Tv
  | [] => some tvYes
  | [t] => r.t c t
  | _ => none
theorem trIfs_ok {r : Tr} (ro : TrOk r) {es : List Expr} {w : Tv} (G : Good X c) (h : trIfs r c es = some w) : PTs X es (tT X.K w) := by
  unfold trIfs at h
  split at h
  · cases h
    exact z_tnil
  · exact z_tone (ro.t _ _ _ _ G h)
  · cases h
def trLc (r : Tr) (c : Ct) (mu : Bool) (elt : Expr) (gens : List Comprehension) (scope : Scope) : Option Ev :=
  if blkC c.N (scOf c) scope (ownOf c scope) then match gens with
    | [⟨tg, iter, ifs, 0⟩] => if isSet iter then none else match r.i c tg iter, r.g (c.blk scope) ((ownOf c scope).map (·.2)) tg, trIfs r (c.blk scope) ifs, r.e (c.blk scope) elt with
      | some iv, some g, some t, some we => some (cComp mu iv g t (bOne we) ((ownOf c scope).map (·.2)))
      | _, _, _, _ => none
    | [⟨tg, iter, ifs, 0⟩, ⟨tg1, iter1, ifs1, 0⟩] => if isSet iter || isSet iter1 then none else match r.i c tg iter, r.g (c.blk scope) ((ownOf c scope).map (·.2)) tg, trIfs r (c.blk scope) ifs, r.i (c.blk scope) tg1 iter1, r.g (c.blk scope) (tgIx c tg1) tg1, trIfs r (c.blk scope) ifs1, r.e (c.blk scope) elt with
      | some iv, some g, some t, some iv1, some g1, some t1, some we => if (tgIx c tg1).all fun i => ((ownOf c scope).map (·.2)).contains i then some (cComp mu iv g t (bIn iv1 g1 t1 (tgIx c tg1) we) ((ownOf c scope).map (·.2))) else none
      | _, _, _, _, _, _, _ => none
    | _ => none
  else none
where
  tgIx (c : Ct) : Expr → List Nat
  | .Name x _ => match ixOf x c.N 0 with
    | some i => [i]
    | none => []
  | .Tuple es _ _ => es.filterMap fun e => match e with
    | .Name x _ => ixOf x c.N 0
    | _ => none
  | _ => []
theorem trLc_ok {r : Tr} (ro : TrOk r) {mu : Bool} {elt : Expr} {gens : List Comprehension} {scope : Scope} {w : Ev} (G : Good X c) (h : trLc r c mu elt gens scope = some w) : PE X (.ListComp elt gens scope pos) (tE X.K w) := by
  unfold trLc at h
  split at h
  · rename_i hb
    have ok := G.blkOk hb
    have Gb := G.blk hb
    split at h
    · split at h
      · cases h
      · rename_i hs
        split at h
        · rename_i iv g t we e1 e2 e3 e4
          cases h
          exact z_lc mu G.calm (by rw [G.N]; exact G.nd) (ro.i _ _ _ _ _ G e1) ok (fun s H C cl fp => ro.g _ _ _ _ _ (Gb s H C cl fp) e2) (fun s H C cl fp => trIfs_ok ro (Gb s H C cl fp) e3) (fun s H C cl fp => ro.e _ _ _ _ (Gb s H C cl fp) e4) (folded_ok (by simpa using hs) _)
        · cases h
    · split at h
      · cases h
      · rename_i hs
        simp only [Bool.or_eq_true, not_or, Bool.not_eq_true] at hs
        split at h
        · rename_i iv g t iv1 g1 t1 we e1 e2 e3 e4 e5 e6 e7
          split at h
          · rename_i hv
            cases h
            exact z_lc2 mu G.calm (by rw [G.N]; exact G.nd) (ro.i _ _ _ _ _ G e1) ok (fun i hi => by simpa using List.all_eq_true.mp hv i hi) (fun s H C cl fp => ro.g _ _ _ _ _ (Gb s H C cl fp) e2) (fun s H C cl fp => trIfs_ok ro (Gb s H C cl fp) e3)
              (fun s H C cl fp => ro.i _ _ _ _ _ (Gb s H C cl fp) e4) (fun s H C cl fp => ro.g _ _ _ _ _ (Gb s H C cl fp) e5) (fun s H C cl fp => trIfs_ok ro (Gb s H C cl fp) e6) (fun s H C cl fp => ro.e _ _ _ _ (Gb s H C cl fp) e7) (folded_ok hs.1 _) (folded_ok hs.2)
          · cases h
        · cases h
    · cases h
  · cases h
theorem trLc_set {r : Tr} (ro : TrOk r) {mu : Bool} {elt : Expr} {gens : List Comprehension} {scope : Scope} {w : Ev} {i : Nat} {y : Str} {py spos : Pos} (G : Good X c) (h : trLc r c mu elt gens scope = some w) (hy : X.N[i]? = some y) (hyl : X.env.scope.names.lookup y = some .local)
    (hsw : swapsWith (.ListComp elt gens scope pos) (some (.Name y py)) spos.line X.env = pure true) : PS X (.Assign [.Name y py] (.ListComp elt gens scope pos) spos) (tS X.K (sSet i w)) := by
  unfold trLc at h
  split at h
  · rename_i hb
    have ok := G.blkOk hb
    have Gb := G.blk hb
    split at h
    · split at h
      · cases h
      · rename_i hs
        split at h
        · rename_i iv g t we e1 e2 e3 e4
          cases h
          exact z_setLc mu G.calm (by rw [G.N]; exact G.nd) hy hyl hsw (ro.i _ _ _ _ _ G e1) ok (fun s H C cl fp => ro.g _ _ _ _ _ (Gb s H C cl fp) e2) (fun s H C cl fp => trIfs_ok ro (Gb s H C cl fp) e3) (fun s H C cl fp => ro.e _ _ _ _ (Gb s H C cl fp) e4) (folded_ok (by simpa using hs) _)
        · cases h
    · split at h
      · cases h
      · rename_i hs
        simp only [Bool.or_eq_true, not_or, Bool.not_eq_true] at hs
        split at h
        · rename_i iv g t iv1 g1 t1 we e1 e2 e3 e4 e5 e6 e7
          split at h
          · rename_i hv
            cases h
            exact z_setLc2 mu G.calm (by rw [G.N]; exact G.nd) hy hyl hsw (ro.i _ _ _ _ _ G e1) ok (fun i hi => by simpa using List.all_eq_true.mp hv i hi) (fun s H C cl fp => ro.g _ _ _ _ _ (Gb s H C cl fp) e2) (fun s H C cl fp => trIfs_ok ro (Gb s H C cl fp) e3)
              (fun s H C cl fp => ro.i _ _ _ _ _ (Gb s H C cl fp) e4) (fun s H C cl fp => ro.g _ _ _ _ _ (Gb s H C cl fp) e5) (fun s H C cl fp => trIfs_ok ro (Gb s H C cl fp) e6) (fun s H C cl fp => ro.e _ _ _ _ (Gb s H C cl fp) e7) (folded_ok hs.1 _) (folded_ok hs.2)
          · cases h
        · cases h
    · cases h
  · cases h
end
end Z

set_option Elab.async false
set_option linter.all false
set_option maxRecDepth 100000
/-! ZU: a text's signs in a display -/
namespace Z
open PySem PySem.Spec PyProof.Rows L2
def signD (z : Str) : List D := z.cps.toList.map fun c => .str ⟨#[c]⟩
def aStarS (w : Ev) (r : Av) : Av := fun ρ h Q => w ρ h fun d h1 => ∃ z, d = .str z ∧ z.cps.size ≤ sizeLine ∧ r ρ h1 fun ds h2 => Q (signD z ++ ds) h2
theorem vals_of {γ : Type} {f : γ → V} : ∀ {l : List γ} {us : List Value}, us.length = l.length → (∀ (j : Nat) (v : Value), us[j]? = some v → ∃ c : γ, l[j]? = some c ∧ RelV (f c) v) → Vals (l.map f) us
  | [], [], _, _ => .nil
  | c :: l, u :: us, hl, h => by
    obtain ⟨c', e, r⟩ := h 0 u rfl
    cases e
    exact .cons r (vals_of (by simpa using hl) fun j v e => h (j + 1) v e)
theorem vals_signs {z : Str} {acc : Array Value} (h : ItemsOf (SignAt z) acc z.cps.size) : Vals (z.cps.toList.map fun c => V.str ⟨#[c]⟩) acc.toList := by
  refine vals_of (by simp [h.1]) fun j v e => ?_
  obtain ⟨c, u, e2, rfl⟩ := h.2 j v (by simpa using e)
  exact ⟨c, by simpa using e2, u, rfl⟩
section
variable {X : Cx} {a : Expr} {es : List Expr} {wa : Ev} {was : Av} {p : Pos}
theorem z_astarS (hc : X.calm = true) (ha : PE X a (tE X.K wa)) (hr : PA X es (tA X.K was)) : PA X (.Starred a p :: es) (tA X.K (aStarS wa was)) := by
  refine ⟨fun pos pins s σ H Q I h => ?_⟩
  obtain ⟨W, ρ, hh, K0, E, R, w, f⟩ := h
  refine PySem.W.items_star (thn (ha.run pins s σ H (fun y H1 => ∃ z, y = V.str z ∧ z.cps.size ≤ sizeLine ∧ tA X.K was σ H1 fun ys H2 => Q ((z.cps.toList.map fun c => V.str ⟨#[c]⟩) ++ ys) H2) I ⟨W, ρ, hh, _, E, R, w, fun d h1 W1 H1 v k p1 R1 rx => ?_⟩) fun v s1 ⟨y, H1, I1, ry, z, ey, hz, q⟩ => ?_) rfl
  · obtain ⟨z, rfl, hz, k⟩ := k
    cases rx.str_inv
    refine ⟨z, rfl, hz, W1, ρ, h1, _, E.pres p1, R1, k, fun ds h2 W2 H2 vs k2 p2 R2 rs => ?_⟩
    exact f _ _ _ _ _ k2 (p1.trans p2) R2 (Reps.append (Reps.map_f _ _ (fun c => .str _) _) rs)
  · subst ey
    obtain ⟨t, rfl⟩ : ∃ t, v = Value.str z t := ry
    have zz : wpAny (model X.prog X.w) X.A (collect (.str z t)) (fun us s2 => wpAny (model X.prog X.w) X.A (spliced (backTo pos (starEach es X.env))) (fun vs s3 => (fun us s' => ∃ ys H1, Inv X pins σ H1 s' ∧ Vals ys us ∧ Q ys H1) (us ++ vs) s3) X.xe s2) X.xe s1 := by
      refine wpAny_collect_str (I1.ok.hd hc) z t (fun s' acc hk hg hd hos hacc => ?_) hz
      obtain ⟨h', g', d', tk', os'⟩ := s'
      have e1 : g' = s1.gens := hg
      have e2 : d' = s1.drawn := hd
      have e3 : os' = s1.os := hos
      subst e1 e2 e3
      exact thn (hr.run pos pins _ σ H1 _ (I1.kept (t' := tk') hk) q) fun ws s3 ⟨vs, H3, I3, r3, q3⟩ => ⟨_, H3, I3, (vals_signs hacc).append r3, q3⟩
    unfold PySem.W.StarOf notIterableAtAll
    exact wpAny_bind (wpAny_specialOf (T := "str") (v := .str z t) rfl PySem.F.slot_str_iter.lookup (wpAny_pure ⟨rfl, zz⟩))
end
end Z

set_option Elab.async false
set_option linter.all false
set_option maxRecDepth 100000
/-! Z3c: the translator: expressions, targets, tests, iterables -/
namespace Z
open PySem PySem.Spec PyProof.Rows L2
section
variable {X : Cx} {c : Ct} {pos : Pos} {r : Tr}
/-! arguments -/
/-- a constant text -/
def isTx (c : Ct) : Expr → Bool
  | .Name x _ => !(isVis c x) && (match symOf c x with
    | some (.con (.str _)) => true
    | _ => false)
  | _ => false
def stA (r : Tr) (c : Ct) : List Expr → Option Av
  | [] => some aNil
  | .Starred e _ :: es => match r.e c e, r.a c es with
    | some w, some wa => some (if isTx c e then aStarS w wa else aStar w wa)
    | _, _ => none
  | e :: es => match r.e c e, r.a c es with
    | some w, some wa => some (aCons w wa)
    | _, _ => none
theorem isStar_no {e : Expr} (h : ∀ v p, e = .Starred v p → False) : isStar e = false := by
  cases e <;> first | rfl | exact (h _ _ rfl).elim
theorem stA_ok (ro : TrOk r) {es : List Expr} {w : Av} (G : Good X c) (h : stA r c es = some w) : PA X es (tA X.K w) := by
  unfold stA at h
  split at h
  · cases h
    exact z_anil
  · split at h
    · rename_i w1 wa e1 e2
      cases h
      split
      · exact z_astarS G.calm (ro.e _ _ _ _ G e1) (ro.a _ _ _ _ G e2)
      · exact z_astar (ro.e _ _ _ _ G e1) (ro.a _ _ _ _ G e2)
    · cases h
  · rename_i hs
    split at h
    · rename_i w1 wa e1 e2
      cases h
      exact z_acons (isStar_no hs) (ro.e _ _ _ _ G e1) (ro.a _ _ _ _ G e2)
    · cases h
/-! targets -/
def stG (r : Tr) (c : Ct) (vs : List Nat) : Expr → Option Gv
  | .Name x _ => if isLoc c x then match ixOf x c.N 0 with
    | some i => if vs.contains i then some (gvName i) else none
    | none => none
    else none
  | .Tuple es _ _ => if noStars es then (r.gs c vs es).map (gvTup es.length) else none
  | _ => none
theorem stG_ok (ro : TrOk r) {vs : List Nat} {e : Expr} {w : Gv} (G : Good X c) (h : stG r c vs e = some w) : PG X e (tG X.K w vs) := by
  unfold stG at h
  split at h
  · split at h
    · rename_i hl
      split at h
      · rename_i i e1
        split at h
        · rename_i hv
          cases h
          obtain ⟨h1, h2⟩ := isLoc_ok G hl
          exact z_gname (by rw [G.N]; exact G.nd) (by rw [G.N]; exact ix_at e1) h1 h2 (by simpa using hv)
        · cases h
      · cases h
    · cases h
  · split at h
    · rename_i es k p hs
      cases e1 : r.gs c vs es with
      | none => rw [e1] at h; cases h
      | some g =>
        rw [e1] at h
        cases h
        exact z_gtup G.calm rfl hs (ro.gs _ _ _ _ _ G e1)
    · cases h
  · cases h
def stGs (r : Tr) (c : Ct) (vs : List Nat) : List Expr → Option (List D → Rho → MH → (Rho → MH → Prop) → Prop)
  | [] => some gvNil
  | e :: es => if isStar e then none else match r.g c vs e, r.gs c vs es with
    | some g, some gs => some (gvCons g gs)
    | _, _ => none
theorem stGs_ok (ro : TrOk r) {vs : List Nat} {e : List Expr} {w : List D → Rho → MH → (Rho → MH → Prop) → Prop} (G : Good X c) (h : stGs r c vs e = some w) : PGs X e (tGs X.K w vs) := by
  unfold stGs at h
  split at h
  · cases h
    exact z_gnil
  · split at h
    · cases h
    · rename_i hs
      split at h
      · rename_i g gs e1 e2
        cases h
        exact z_gcons (by simpa using hs) (ro.g _ _ _ _ _ G e1) (ro.gs _ _ _ _ _ G e2)
      · cases h
/-! iterables -/
def stI (r : Tr) (c : Ct) (tg : Expr) : Expr → Option Iv
  | .Call (.Name x p) [a] [] pos => match symOf c x, tg with
    | some (.blt .range), _ => if isStar a then none else (r.a c [a]).map iRange1
    | some (.blt .enumerate), .Tuple _ _ _ => if isStar a then none else (r.a c [a]).map iEnumV
    | _, _ => (r.e c (.Call (.Name x p) [a] [] pos)).map iVal
  | .Call (.Name x p) [a, b] [] pos => match symOf c x, tg with
    | some (.blt .range), _ => if isStar a || isStar b then none else (r.a c [a, b]).map iRange2
    | some (.blt .zip), .Tuple _ _ _ => if isStar a || isStar b then none else (r.a c [a, b]).map iZip
    | _, _ => (r.e c (.Call (.Name x p) [a, b] [] pos)).map iVal
  | e => (r.e c e).map iVal
theorem stI_ok (ro : TrOk r) {tg e : Expr} {w : Iv} (G : Good X c) (h : stI r c tg e = some w) : PI X tg e (tI X.K w) := by
  have gen : ∀ {e : Expr}, (r.e c e).map iVal = some w → PI X tg e (tI X.K w) := fun {e} h => by
    cases e1 : r.e c e with
    | none => rw [e1] at h; cases h
    | some v =>
      rw [e1] at h
      cases h
      exact z_iVal (ro.e _ _ _ _ G e1)
  unfold stI at h
  split at h
  · rename_i x p a pos
    split at h
    · rename_i e1
      obtain ⟨hg, hm, hx⟩ := sym_ok G e1
      have hx : x = "range" := hx
      subst hx
      split at h
      · cases h
      · rename_i hs
        cases e2 : r.a c [a] with
        | none => rw [e2] at h; cases h
        | some v =>
          rw [e2] at h
          cases h
          exact z_range1 hg hm (by simpa using hs) (ro.a _ _ _ _ G e2)
    · rename_i e1
      obtain ⟨hg, hm, hx⟩ := sym_ok G e1
      have hx : x = "enumerate" := hx
      subst hx
      split at h
      · cases h
      · rename_i hs
        cases e2 : r.a c [a] with
        | none => rw [e2] at h; cases h
        | some v =>
          rw [e2] at h
          cases h
          exact z_enum hg hm (by simpa using hs) (ro.a _ _ _ _ G e2)
    · exact gen h
  · rename_i x p a b pos
    split at h
    · rename_i e1
      obtain ⟨hg, hm, hx⟩ := sym_ok G e1
      have hx : x = "range" := hx
      subst hx
      split at h
      · cases h
      · rename_i hs
        simp only [Bool.or_eq_true, not_or, Bool.not_eq_true] at hs
        cases e2 : r.a c [a, b] with
        | none => rw [e2] at h; cases h
        | some v =>
          rw [e2] at h
          cases h
          exact z_range2 hg hm hs.1 hs.2 (ro.a _ _ _ _ G e2)
    · rename_i e1
      obtain ⟨hg, hm, hx⟩ := sym_ok G e1
      have hx : x = "zip" := hx
      subst hx
      split at h
      · cases h
      · rename_i hs
        simp only [Bool.or_eq_true, not_or, Bool.not_eq_true] at hs
        cases e2 : r.a c [a, b] with
        | none => rw [e2] at h; cases h
        | some v =>
          rw [e2] at h
          cases h
          exact z_zip hg hm hs.1 hs.2 (ro.a _ _ _ _ G e2)
    · exact gen h
  · exact gen h
/-! comparisons -/
def isNoneE : Expr → Bool
  | .Constant .none _ _ => true
  | _ => false
def trCmp (r : Tr) (c : Ct) (a : Expr) : List CmpOp → List Expr → Option Ev
  | [.Is], [.Constant .none _ _] => (r.e c a).map (cIsN false)
  | [.IsNot], [.Constant .none _ _] => (r.e c a).map (cIsN true)
  | [op], [b] => if behindInMarks op b then none else match cmpW op, r.e c a, r.e c b with
    | some o, some wa, some wb => some (cBin o wa wb)
    | _, _, _ => none
  | [op, op2], [b, d] => if lastMarks [op, op2] [b, d] then none else match cmpW op, cmpW op2, r.e c a, r.e c b, r.e c d with
    | some o, some o2, some wa, some wb, some wd => some (cChain o o2 wa wb wd)
    | _, _, _, _, _ => none
  | _, _ => none
theorem trCmp_ok (ro : TrOk r) {a : Expr} {ops : List CmpOp} {es : List Expr} {w : Ev} (G : Good X c) (h : trCmp r c a ops es = some w) : PE X (.Compare a ops es pos) (tE X.K w) ∧ PT X (.Compare a ops es pos) (tT X.K (cTest w)) := by
  unfold trCmp at h
  split at h
  · cases e1 : r.e c a with
    | none => rw [e1] at h; cases h
    | some v =>
      rw [e1] at h
      cases h
      exact ⟨z_isN false (ro.e _ _ _ _ G e1), z_isNT false (ro.e _ _ _ _ G e1)⟩
  · cases e1 : r.e c a with
    | none => rw [e1] at h; cases h
    | some v =>
      rw [e1] at h
      cases h
      exact ⟨z_isN true (ro.e _ _ _ _ G e1), z_isNT true (ro.e _ _ _ _ G e1)⟩
  · split at h
    · cases h
    · rename_i hm
      split at h
      · rename_i o wa wb e1 e2 e3
        cases h
        have hm := Bool.eq_false_iff.mpr hm
        exact ⟨z_cmp (cmpW_ok G e1) hm (ro.e _ _ _ _ G e2) (ro.e _ _ _ _ G e3), z_cmpT (cmpW_ok G e1) hm (ro.e _ _ _ _ G e2) (ro.e _ _ _ _ G e3)⟩
      · cases h
  · split at h
    · cases h
    · rename_i hm
      split at h
      · rename_i o o2 wa wb wd e0 e1 e2 e3 e4
        cases h
        have hm := Bool.eq_false_iff.mpr hm
        exact ⟨z_chain (cmpW_ok G e0) (cmpW_ok G e1) hm (ro.e _ _ _ _ G e2) (ro.e _ _ _ _ G e3) (ro.e _ _ _ _ G e4), z_chainT (cmpW_ok G e0) (cmpW_ok G e1) hm (ro.e _ _ _ _ G e2) (ro.e _ _ _ _ G e3) (ro.e _ _ _ _ G e4)⟩
      · cases h
  · cases h
/-! expressions -/
def trPart (r : Tr) (c : Ct) : Option Expr → Option (Option Ev)
  | none => some none
  | some e => (r.e c e).map some
theorem trPart_ok (ro : TrOk r) {e : Option Expr} {w : Option Ev} (G : Good X c) (h : trPart r c e = some w) : PartZ X e w := by
  unfold trPart at h
  split at h
  · cases h
    trivial
  · rename_i e1
    cases e2 : r.e c e1 with
    | none => rw [e2] at h; cases h
    | some v =>
      rw [e2] at h
      cases h
      exact ro.e _ _ _ _ G e2
def stE (r : Tr) (c : Ct) : Expr → Option Ev
  | .Name x _ => trName c x
  | .Constant k _ _ => trConst k
  | .BinOp a op b pos => match opW (c.mu pos) op, r.e c a, r.e c b with
    | some o, some wa, some wb => some (cBin o wa wb)
    | _, _, _ => none
  | .UnaryOp .USub a _ => (r.e c a).map (cUn uNeg)
  | .UnaryOp .Not a _ => (r.e c a).map (cUn uNot)
  | .BoolOp op [a] _ => r.e c a
  | .BoolOp .And (a :: b :: l) pos => match r.e c a, r.e c (.BoolOp .And (b :: l) pos) with
    | some wa, some wb => some (cAndV wa wb)
    | _, _ => none
  | .BoolOp .Or (a :: b :: l) pos => match r.e c a, r.e c (.BoolOp .Or (b :: l) pos) with
    | some wa, some wb => some (cOrV wa wb)
    | _, _ => none
  | .Compare a ops es _ => trCmp r c a ops es
  | .IfExp t a b _ => match r.t c t, r.e c a, r.e c b with
    | some wt, some wa, some wb => some (cIfE wt wa wb)
    | _, _, _ => none
  | .Tuple es _ _ => (r.a c es).map cTup
  | .List es pos => (r.a c es).map (cLst (c.mu pos))
  | .Dict [] [] _ => some cDict
  | .Subscript a (.Slice none none (some (.UnaryOp .USub (.Constant (.int 1) _ _) _)) _) pos => (r.e c a).map (cRev (c.mu pos))
  | .Subscript a (.Slice lo hi none _) pos => match r.e c a, trPart r c lo, trPart r c hi with
    | some wa, some wl, some wh => some (cSl (c.mu pos) wa wl wh)
    | _, _, _ => none
  | .Subscript a b _ => if isSl b then none else match r.e c a, r.e c b with
    | some wa, some wb => some (cBin wIx wa wb)
    | _, _ => none
  | .ListComp elt gens scope pos => match trLc r c (c.mu pos) elt gens scope with
    | some w => match gens with
      | ⟨_, it, _, _⟩ :: _ => match lockOf c it with
        | some i => some (cLock i w)
        | none => some w
      | [] => none
    | none => none
  | .Call (.Name x _) es [] pos => trCallN r c x es pos
  | .Call (.Attribute o m ap) es [] pos => trMeth r c o m ap es pos
  | _ => none
theorem map_inv {α β : Type} {f : α → β} {o : Option α} {y : β} (h : o.map f = some y) : ∃ x, o = some x ∧ f x = y := by
  cases o with
  | none => cases h
  | some x => exact ⟨x, rfl, Option.some.inj h⟩
theorem stE_ok (ro : TrOk r) {e : Expr} {w : Ev} (G : Good X c) (h : stE r c e = some w) : PE X e (tE X.K w) := by
  unfold stE at h
  split at h
  · exact trName_ok G h
  · exact trConst_ok h
  · split at h
    · rename_i o wa wb e1 e2 e3
      cases h
      exact z_bin (opW_ok e1) (ro.e _ _ _ _ G e2) (ro.e _ _ _ _ G e3)
    · cases h
  · obtain ⟨v, e1, rfl⟩ := map_inv h
    exact z_neg (ro.e _ _ _ _ G e1)
  · obtain ⟨v, e1, rfl⟩ := map_inv h
    exact z_notV (ro.e _ _ _ _ G e1)
  · exact z_one (ro.e _ _ _ _ G h)
  · split at h
    · rename_i wa wb e1 e2
      cases h
      exact z_andV (ro.e _ _ _ _ G e1) (ro.e _ _ _ _ G e2)
    · cases h
  · split at h
    · rename_i wa wb e1 e2
      cases h
      exact z_orV (ro.e _ _ _ _ G e1) (ro.e _ _ _ _ G e2)
    · cases h
  · exact (trCmp_ok ro G h).1
  · split at h
    · rename_i wt wa wb e1 e2 e3
      cases h
      exact z_ifE (ro.t _ _ _ _ G e1) (ro.e _ _ _ _ G e2) (ro.e _ _ _ _ G e3)
    · cases h
  · obtain ⟨v, e1, rfl⟩ := map_inv h
    exact z_tup (ro.a _ _ _ _ G e1)
  · obtain ⟨v, e1, rfl⟩ := map_inv h
    exact z_lst _ (ro.a _ _ _ _ G e1)
  · cases h
    exact z_dict
  · obtain ⟨v, e1, rfl⟩ := map_inv h
    exact z_rev _ (ro.e _ _ _ _ G e1)
  · split at h
    · rename_i wa wl wh e1 e2 e3
      cases h
      exact z_sl _ (ro.e _ _ _ _ G e1) (trPart_ok ro G e2) (trPart_ok ro G e3)
    · cases h
  · split at h
    · cases h
    · rename_i hs
      split at h
      · rename_i wa wb e1 e2
        cases h
        exact z_ix G.hu (by simpa using hs) (ro.e _ _ _ _ G e1) (ro.e _ _ _ _ G e2)
      · cases h
  · split at h
    · rename_i w1 e1
      have q := trLc_ok (pos := by assumption) ro G e1
      split at h
      · split at h
        · cases h
          exact z_clock q
        · cases h
          exact q
      · cases h
    · cases h
  · exact trCallN_ok ro G h
  · exact trMeth_ok ro G h
  · cases h
/-! tests -/
def plainT : Expr → Bool
  | .UnaryOp .Not _ _ => false
  | .BoolOp _ _ _ => false
  | .IfExp _ _ _ _ => false
  | .Compare _ _ _ _ => false
  | _ => true
theorem plainT_ok {e : Expr} (h : plainT e = true) : ∀ (env : PySem.Env) wh, isTrue e env wh = (do let v ← wh; standAt e.pos; holding [v] (truthy v)) := by
  intro env wh
  cases e with
  | UnaryOp op a p => cases op <;> first | rfl | cases h
  | BoolOp _ _ _ => cases h
  | IfExp _ _ _ _ => cases h
  | Compare _ _ _ _ => cases h
  | _ => rfl
def stT (r : Tr) (c : Ct) : Expr → Option Tv
  | .BoolOp .And [a] _ => r.t c a
  | .BoolOp .Or [a] _ => r.t c a
  | .BoolOp .And (a :: b :: l) pos => match r.t c a, r.t c (.BoolOp .And (b :: l) pos) with
    | some wa, some wb => some (cAnd wa wb)
    | _, _ => none
  | .BoolOp .Or (a :: b :: l) pos => match r.t c a, r.t c (.BoolOp .Or (b :: l) pos) with
    | some wa, some wb => some (cOr wa wb)
    | _, _ => none
  | .UnaryOp .Not a _ => (r.t c a).map cNot
  | .Compare a ops es _ => (trCmp r c a ops es).map cTest
  | .IfExp _ _ _ _ => none
  | e => if plainT e then (r.e c e).map cTest else none
end
end Z

set_option Elab.async false
set_option linter.all false
set_option maxRecDepth 100000
/-! Z3d: the translator: tests, statements; soundness -/
namespace Z
open PySem PySem.Spec PyProof.Rows L2
section
variable {X : Cx} {c : Ct} {pos : Pos} {r : Tr}
theorem pw_of {op : BoolOp} {vs : List Expr} {t : TT} (h : PT X (.BoolOp op vs pos) t) : PW X (.BoolOp op vs pos) t := ⟨fun wh pins s σ H Q I q => h.run pins s σ H Q I q⟩
theorem stT_ok (ro : TrOk r) {e : Expr} {w : Tv} (G : Good X c) (h : stT r c e = some w) : PT X e (tT X.K w) := by
  unfold stT at h
  split at h
  · exact (z_and1 (ro.t _ _ _ _ G h)).pt
  · exact (z_or1 (ro.t _ _ _ _ G h)).pt
  · split at h
    · rename_i wa wb e1 e2
      cases h
      exact (z_and (ro.t _ _ _ _ G e1) (pw_of (ro.t _ _ _ _ G e2))).pt
    · cases h
  · split at h
    · rename_i wa wb e1 e2
      cases h
      exact (z_or (ro.t _ _ _ _ G e1) (pw_of (ro.t _ _ _ _ G e2))).pt
    · cases h
  · obtain ⟨v, e1, rfl⟩ := map_inv h
    exact z_notT (ro.t _ _ _ _ G e1)
  · obtain ⟨v, e1, rfl⟩ := map_inv h
    exact (trCmp_ok ro G e1).2
  · cases h
  · split at h
    · rename_i hp
      obtain ⟨v, e1, rfl⟩ := map_inv h
      exact z_val (ro.e _ _ _ _ G e1) (plainT_ok hp _)
    · cases h
/-! statements -/
end
theorem dedup2 {x y : Str} (hn : (y == x) = false) : [x, y].eraseDups.length = 2 := by
  simp [List.eraseDups_cons, hn]
theorem dedup3 {x y z : Str} (h1 : (y == x) = false) (h2 : (z == x) = false) (h3 : (z == y) = false) : [x, y, z].eraseDups.length = 3 := by
  simp [List.eraseDups_cons, h1, h2, h3]
theorem noS {es : List Expr} (h : noStars es = true) {z : Expr} (hz : z ∈ es) : isStar z = false := by
  have := List.all_eq_true.mp h z hz
  simpa using this
theorem swapped2 {env : PySem.Env} {x y : Str} {a b : Expr} {px py pt pt2 : Pos} {kt k2 : Nat} (hk : env.scope.kind = .function) (hx : env.scope.names.lookup x = some .local) (hy : env.scope.names.lookup y = some .local) (hl : py.line = px.line) (hn : (y == x) = false)
    (hs : noStars [a, b] = true) (hf : (foldedForSure 8 a && foldedForSure 8 b) = false) (hc : (constantsAlone 8 a && constantsAlone 8 b) = false) :
    swappedStores [.Tuple [.Name x px, .Name y py] kt pt] (.Tuple [a, b] k2 pt2) env = pure (some [x, y]) := by
  have hbk : env.blockKind = .function := by
    unfold PySem.Env.blockKind
    rw [hk]
    rfl
  have hx' : env.kindOf x = some .local := hx
  have hy' : env.kindOf y = some .local := hy
  have dd := dedup2 hn
  unfold swappedStores
  simp only [List.length_cons, List.length_nil, hbk, List.head?_cons, Option.map_some, Option.getD_some, List.filterMap_cons, List.filterMap_nil, hx', hy', Expr.pos, hl, List.all_cons, List.all_nil, Bool.and_true, hf, hc]
  rw [if_neg (by decide)]
  rw [if_neg (fun q => by
    rw [List.any_eq_true] at q
    obtain ⟨z, hz, hF⟩ := q
    have := noS hs hz
    cases z <;> first | (cases hF; done) | cases this)]
  simp [dd]
theorem swapped3 {env : PySem.Env} {x y w : Str} {a b d : Expr} {px py pw pt pt2 : Pos} {kt k2 : Nat} (hk : env.scope.kind = .function) (hx : env.scope.names.lookup x = some .local) (hy : env.scope.names.lookup y = some .local) (hw : env.scope.names.lookup w = some .local) (hl : py.line = px.line) (hl2 : pw.line = px.line) (h1 : (y == x) = false) (h2 : (w == x) = false) (h3 : (w == y) = false)
    (hs : noStars [a, b, d] = true) (hf : (foldedForSure 8 a && (foldedForSure 8 b && foldedForSure 8 d)) = false) (hc : (constantsAlone 8 a && (constantsAlone 8 b && constantsAlone 8 d)) = false) :
    swappedStores [.Tuple [.Name x px, .Name y py, .Name w pw] kt pt] (.Tuple [a, b, d] k2 pt2) env = pure (some [x, y, w]) := by
  have hbk : env.blockKind = .function := by
    unfold PySem.Env.blockKind
    rw [hk]
    rfl
  have hx' : env.kindOf x = some .local := hx
  have hy' : env.kindOf y = some .local := hy
  have hw' : env.kindOf w = some .local := hw
  have dd := dedup3 h1 h2 h3
  unfold swappedStores
  simp only [List.length_cons, List.length_nil, hbk, List.head?_cons, Option.map_some, Option.getD_some, List.filterMap_cons, List.filterMap_nil, hx', hy', hw', Expr.pos, hl, hl2, List.all_cons, List.all_nil, Bool.and_true, hf, hc]
  rw [if_neg (by decide)]
  rw [if_neg (fun q => by
    rw [List.any_eq_true] at q
    obtain ⟨z, hz, hF⟩ := q
    have := noS hs hz
    cases z <;> first | (cases hF; done) | cases this)]
  simp [dd]
/-- not all names are locals, or all values are constants -/
theorem swappedN {env : PySem.Env} {ts vs : List Expr} {pt pt2 : Pos} {kt k2 : Nat} (h : (∃ x p, .Name x p ∈ ts ∧ env.scope.names.lookup x ≠ some .local) ∨ (vs.all (foldedForSure 8) = true) ∨ (∃ t ∈ ts, ∀ x p, t ≠ .Name x p)) :
    swappedStores [.Tuple ts kt pt] (.Tuple vs k2 pt2) env = pure none := by
  have flt : ∀ (f : Expr → Option Str), (∃ t ∈ ts, f t = none) → ((ts.filterMap f).length != ts.length) = true := by
    intro f ⟨t, ht, e⟩
    have : (ts.filterMap f).length < ts.length := by
      clear h
      induction ts with
      | nil => cases ht
      | cons u us ih =>
        rw [List.filterMap_cons]
        rcases List.mem_cons.mp ht with rfl | ht
        · rw [e]
          have := List.length_filterMap_le f us
          simp only [List.length_cons]
          omega
        · have := ih ht
          cases f u <;> (simp only [List.length_cons]; omega)
    exact bne_iff_ne.mpr (Nat.ne_of_lt this)
  unfold swappedStores
  simp only []
  split
  · rfl
  · split
    · rfl
    · rcases h with ⟨x, p, hx, hl⟩ | h | ⟨t, ht, hn⟩
      · rw [if_pos (by
          rw [Bool.or_eq_true]
          refine .inl (flt _ ⟨_, hx, ?_⟩)
          have : (env.kindOf x == some NameKind.local) = false := by
            have hl : env.kindOf x ≠ some .local := hl
            cases hq : env.kindOf x with
            | none => rfl
            | some k => rw [hq] at hl; cases k <;> first | rfl | exact (hl rfl).elim
          simp [this])]
      · split <;> first
          | rfl
          | rw [if_pos h]
      · rw [if_pos (by
          rw [Bool.or_eq_true]
          refine .inl (flt _ ⟨_, ht, ?_⟩)
          cases t <;> first | rfl | exact (hn _ _ rfl).elim)]

section
variable {X : Cx} {c : Ct} {pos : Pos} {r : Tr}
def vsAll (c : Ct) : List Nat := List.range c.N.length
def notLocal (c : Ct) : Expr → Bool
  | .Name x _ => !isLocal c x
  | _ => true
theorem not_local {X : Cx} {c : Ct} {x : Str} (G : Good X c) (h : isLocal c x = false) : X.env.scope.names.lookup x ≠ some .local := by
  unfold isLocal at h
  rw [G.lk x]
  intro e
  rw [e] at h
  cases h
theorem notLocal_ok {X : Cx} {c : Ct} {ts : List Expr} (G : Good X c) (h : ts.any (notLocal c) = true) : (∃ x p, .Name x p ∈ ts ∧ X.env.scope.names.lookup x ≠ some .local) ∨ (∃ t ∈ ts, ∀ x p, t ≠ .Name x p) := by
  obtain ⟨t, ht, hn⟩ := List.any_eq_true.mp h
  cases t with
  | Name x p => exact .inl ⟨x, p, ht, not_local G (by simpa [notLocal] using hn)⟩
  | _ => exact .inr ⟨_, ht, fun x p q => by cases q⟩
def trParG (r : Tr) (c : Ct) (ts es : List Expr) (k k2 : Nat) (pt pt2 : Pos) : Option Sv :=
  if ts.any (notLocal c) || es.all (foldedForSure 8) then match r.g c (vsAll c) (.Tuple ts k pt), r.e c (.Tuple es k2 pt2) with
    | some g, some w => some (sAsg g w)
    | _, _ => none
  else none
theorem trParG_ok (ro : TrOk r) {ts es : List Expr} {k k2 : Nat} {pt pt2 : Pos} {w : Sv} (G : Good X c) (h : trParG r c ts es k k2 pt pt2 = some w) : PS X (.Assign [.Tuple ts k pt] (.Tuple es k2 pt2) pos) (tS X.K w) := by
  unfold trParG at h
  split at h
  · rename_i hc
    split at h
    · rename_i g w1 e1 e2
      cases h
      refine z_asg rfl (swappedN ?_) rfl (ro.e _ _ _ _ G e2) (ro.g _ _ _ _ _ G e1)
      rcases Bool.or_eq_true_iff.mp hc with q | q
      · rcases notLocal_ok G q with q | q
        · exact .inl q
        · exact .inr (.inr q)
      · exact .inr (.inl q)
    · cases h
  · cases h
def par2C (c : Ct) (x y : Str) (px py : Pos) (a b : Expr) : Bool :=
  isLocal c x && isLocal c y && decide (py.line = px.line) && !(y == x) && noStars [a, b] && !(foldedForSure 8 a && foldedForSure 8 b) && !(constantsAlone 8 a && constantsAlone 8 b)
def par3C (c : Ct) (x y z : Str) (px py pz : Pos) (a b d : Expr) : Bool :=
  isLocal c x && isLocal c y && isLocal c z && decide (py.line = px.line) && decide (pz.line = px.line) && !(y == x) && !(z == x) && !(z == y) && noStars [a, b, d] && !(foldedForSure 8 a && (foldedForSure 8 b && foldedForSure 8 d)) && !(constantsAlone 8 a && (constantsAlone 8 b && constantsAlone 8 d))
def trPar (r : Tr) (c : Ct) (k k2 : Nat) (pt pt2 : Pos) : List Expr → List Expr → Option Sv
  | [.Name x px, .Name y py], [a, b] => if par2C c x y px py a b then match ixOf x c.N 0, ixOf y c.N 0, r.a c [a, b] with
      | some i, some j, some w => if i = j then none else some (sPar [i, j] w)
      | _, _, _ => none
    else trParG r c [.Name x px, .Name y py] [a, b] k k2 pt pt2
  | [.Name x px, .Name y py, .Name z pz], [a, b, d] => if par3C c x y z px py pz a b d then match ixOf x c.N 0, ixOf y c.N 0, ixOf z c.N 0, r.a c [a, b, d] with
      | some i, some j, some l, some w => if i = j ∨ i = l ∨ j = l then none else some (sPar [i, j, l] w)
      | _, _, _, _ => none
    else trParG r c [.Name x px, .Name y py, .Name z pz] [a, b, d] k k2 pt pt2
  | ts, es => trParG r c ts es k k2 pt pt2
theorem trPar_ok (ro : TrOk r) {ts es : List Expr} {k k2 : Nat} {pt pt2 : Pos} {w : Sv} (G : Good X c) (h : trPar r c k k2 pt pt2 ts es = some w) : PS X (.Assign [.Tuple ts k pt] (.Tuple es k2 pt2) pos) (tS X.K w) := by
  unfold trPar at h
  split at h
  · split at h
    · rename_i hc
      simp only [par2C, Bool.and_eq_true, Bool.not_eq_true', decide_eq_true_eq] at hc
      obtain ⟨⟨⟨⟨⟨⟨h1, h2⟩, h3⟩, h4⟩, h5⟩, h6⟩, h7⟩ := hc
      split at h
      · rename_i i j w1 e1 e2 e3
        split at h
        · cases h
        · rename_i hij
          cases h
          exact z_par2 G.calm (by rw [G.N]; exact G.nd) (by rw [G.N]; exact ix_at e1) (by rw [G.N]; exact ix_at e2) hij (isLocal_ok G h1) (isLocal_ok G h2) (ro.a _ _ _ _ G e3) (swapped2 G.kd (isLocal_ok G h1) (isLocal_ok G h2) h3 h4 h5 h6 h7)
      · cases h
    · exact trParG_ok ro G h
  · split at h
    · rename_i hc
      simp only [par3C, Bool.and_eq_true, Bool.not_eq_true', decide_eq_true_eq] at hc
      obtain ⟨⟨⟨⟨⟨⟨⟨⟨⟨⟨h1, h2⟩, h2'⟩, h3⟩, h3'⟩, h4⟩, h4'⟩, h4''⟩, h5⟩, h6⟩, h7⟩ := hc
      split at h
      · rename_i i j l w1 e1 e2 e2' e3
        split at h
        · cases h
        · rename_i hij
          simp only [not_or] at hij
          cases h
          exact z_par3 G.calm (by rw [G.N]; exact G.nd) (by rw [G.N]; exact ix_at e1) (by rw [G.N]; exact ix_at e2) (by rw [G.N]; exact ix_at e2') hij.1 hij.2.1 hij.2.2 (isLocal_ok G h1) (isLocal_ok G h2) (isLocal_ok G h2') (ro.a _ _ _ _ G e3)
            (swapped3 G.kd (isLocal_ok G h1) (isLocal_ok G h2) (isLocal_ok G h2') h3 h3' h4 h4' h4'' h5 h6 h7)
      · cases h
    · exact trParG_ok ro G h
  · exact trParG_ok ro G h
def lkS (o : Option Nat) (s : Sv) : Sv := match o with
  | some i => sLock i s
  | none => s
theorem lkS_ok {o : Option Nat} {s : Sv} {st : Stmt} (h : PS X st (tS X.K s)) : PS X st (tS X.K (lkS o s)) := by
  cases o with
  | none => exact h
  | some i => exact z_slock h
def genLock (c : Ct) : List Comprehension → Option Nat
  | ⟨_, it, _, _⟩ :: _ => lockOf c it
  | [] => none
theorem asg_comp (ro : TrOk r) {mu : Bool} {elt : Expr} {gens : List Comprehension} {scope : Scope} {w : Ev} {i : Nat} {y : Str} {py vp : Pos} (G : Good X c) (h : trLc r c mu elt gens scope = some w) (hl : isLoc c y = true) (hi : ixOf y c.N 0 = some i) :
    PS X (.Assign [.Name y py] (.ListComp elt gens scope vp) pos) (tS X.K (sSet i w)) := by
  have hN : X.N[i]? = some y := by rw [G.N]; exact ix_at hi
  obtain ⟨h1, h2⟩ := isLoc_ok G hl
  have e : swapsWith (.ListComp elt gens scope vp) (some (.Name y py)) pos.line X.env = pure (X.env.blockKind == .function && X.env.kindOf y == some .local && py.line == vp.line && !(scope.names.any fun (n, k) => n == y && (k == .local || k == .cell))) := rfl
  cases hb : (X.env.blockKind == .function && X.env.kindOf y == some .local && py.line == vp.line && !(scope.names.any fun (n, k) => n == y && (k == .local || k == .cell))) with
  | true =>
    rw [hb] at e
    simp only [Bool.and_eq_true] at hb
    have hlk : X.env.scope.names.lookup y = some .local := by
      have := hb.1.1.2
      have e2 : X.env.kindOf y = X.env.scope.names.lookup y := rfl
      rw [e2] at this
      cases hq : X.env.scope.names.lookup y with
      | none => rw [hq] at this; cases this
      | some k => rw [hq] at this; cases k <;> first | rfl | cases this
    exact trLc_set ro G h hN hlk e
  | false =>
    rw [hb] at e
    exact (ps_set (by rw [G.N]; exact G.nd) hN h1 (trLc_ok ro G h) e h2).imp (tS_set fun _ _ _ q => q)
def stS (r : Tr) (c : Ct) : Stmt → Option Sv
  | .Return none _ => some sRetN
  | .Return (some e) _ => (r.e c e).map sRet
  | .If t a b _ => match r.t c t, r.ss c a, r.ss c b with
    | some t, some a, some b => some (sIf t a b)
    | _, _, _ => none
  | .Break _ => some sBrk
  | .Continue _ => some sCt
  | .Pass _ => some sNil
  | .Expr e _ => if isComp e then none else (r.e c e).map sDrop
  | .Assign [.Name y _] (.ListComp elt gens scope vp) _ => if isLoc c y then match ixOf y c.N 0, trLc r c (c.mu vp) elt gens scope with
      | some i, some w => some (lkS (genLock c gens) (sSet i w))
      | _, _ => none
    else none
  | .Assign [.Name y _] e _ => if isLoc c y && !isComp e then match ixOf y c.N 0, r.e c e with
      | some i, some w => some (sSet i w)
      | _, _ => none
    else none
  | .Assign [.Subscript o i _] e _ => if isSl i then none else match r.e c e, r.e c o, r.e c i with
      | some w, some wo, some wi => some (sPut wo wi w)
      | _, _, _ => none
  | .Assign [.Tuple ts k pt] (.Tuple es k2 pt2) _ => trPar r c k k2 pt pt2 ts es
  | .Assign [.Tuple ts k pt] e _ => if isComp e || isTupE e then none else match r.g c (vsAll c) (.Tuple ts k pt), r.e c e with
      | some g, some w => some (sAsg g w)
      | _, _ => none
  | .For tg it body [] _ => if isSet it then none else match r.i c tg it, r.g c (vsAll c) tg, r.ss c body with
      | some iv, some g, some b => some (lkS (lockOf c it) (sFor iv g b))
      | _, _, _ => none
  | .While t body [] _ => match r.t c t, r.ss c body with
      | some t, some b => some (sWhile t b)
      | _, _ => none
  | _ => none
theorem passes {X : Cx} {c : Ct} (G : Good X c) : PassesOwn (model X.prog X.w) X.A X.env X.xe := by
  rw [G.xe]
  exact PassesOwn.never
theorem stS_ok (ro : TrOk r) {e : Stmt} {w : Sv} (G : Good X c) (h : stS r c e = some w) : PS X e (tS X.K w) := by
  have hnd : X.N.Nodup := by rw [G.N]; exact G.nd
  unfold stS at h
  split at h
  · cases h
    exact z_retN
  · obtain ⟨v, e1, rfl⟩ := map_inv h
    exact z_ret (ro.e _ _ _ _ G e1)
  · split at h
    · rename_i t a b e1 e2 e3
      cases h
      exact z_if (ro.t _ _ _ _ G e1) (ro.ss _ _ _ _ G e2) (ro.ss _ _ _ _ G e3)
    · cases h
  · cases h
    exact z_brk
  · cases h
    exact z_ct
  · cases h
    exact z_pass
  · split at h
    · cases h
    · rename_i hs
      obtain ⟨v, e1, rfl⟩ := map_inv h
      exact z_drop (by simpa using hs) (ro.e _ _ _ _ G e1)
  · split at h
    · rename_i hl
      split at h
      · rename_i i w1 e1 e2
        cases h
        exact lkS_ok (asg_comp ro G e2 hl e1)
      · cases h
    · cases h
  · split at h
    · rename_i hl
      simp only [Bool.and_eq_true, Bool.not_eq_true'] at hl
      split at h
      · rename_i i w1 e1 e2
        cases h
        obtain ⟨h1, h2⟩ := isLoc_ok G hl.1
        exact z_set hl.2 hnd (by rw [G.N]; exact ix_at e1) h1 h2 (ro.e _ _ _ _ G e2)
      · cases h
    · cases h
  · split at h
    · cases h
    · rename_i hs
      split at h
      · rename_i w1 wo wi e1 e2 e3
        cases h
        exact z_put G.hu (by simpa using hs) (ro.e _ _ _ _ G e1) (ro.e _ _ _ _ G e2) (ro.e _ _ _ _ G e3)
      · cases h
  · exact trPar_ok ro G h
  · split at h
    · cases h
    · rename_i hs
      simp only [Bool.or_eq_true, not_or, Bool.not_eq_true] at hs
      split at h
      · rename_i g w1 e1 e2
        cases h
        exact z_asg hs.1 (swapped_no hs.2) rfl (ro.e _ _ _ _ G e2) (ro.g _ _ _ _ _ G e1)
      · cases h
  · split at h
    · cases h
    · rename_i hs
      split at h
      · rename_i iv g b e1 e2 e3
        cases h
        exact lkS_ok (z_for (passes G) G.calm (ro.i _ _ _ _ _ G e1) (ro.g _ _ _ _ _ G e2) (ro.ss _ _ _ _ G e3) (folded_ok (by simpa using hs) _))
      · cases h
  · split at h
    · rename_i t b e1 e2
      cases h
      exact z_while (passes G) (ro.t _ _ _ _ G e1) (ro.ss _ _ _ _ G e2)
    · cases h
  · cases h
def stSs (r : Tr) (c : Ct) : List Stmt → Option Sv
  | [] => some sNil
  | [s] => r.s c s
  | s :: ss => match r.s c s, r.ss c ss with
    | some a, some b => some (sSeq a b)
    | _, _ => none
theorem stSs_ok (ro : TrOk r) {e : List Stmt} {w : Sv} (G : Good X c) (h : stSs r c e = some w) : PSs X e (tS X.K w) := by
  unfold stSs at h
  split at h
  · cases h
    exact z_snil
  · exact z_sone (ro.s _ _ _ _ G h)
  · split at h
    · rename_i a b e1 e2
      cases h
      exact z_scons (ro.s _ _ _ _ G e1) (ro.ss _ _ _ _ G e2)
    · cases h
end
/-! the knot -/
def tr0 : Tr := ⟨fun _ _ => none, fun _ _ => none, fun _ _ => none, fun _ _ _ => none, fun _ _ _ => none, fun _ _ _ => none, fun _ _ => none, fun _ _ => none⟩
def trN : Nat → Tr
  | 0 => tr0
  | n + 1 => ⟨stE (trN n), stT (trN n), stA (trN n), stI (trN n), stG (trN n), stGs (trN n), stS (trN n), stSs (trN n)⟩
theorem trN_ok : ∀ n, TrOk (trN n)
  | 0 => by constructor <;> (intros; rename_i h; exact absurd h (by simp [trN, tr0]))
  | n + 1 => ⟨fun _ _ _ _ G h => stE_ok (trN_ok n) G h, fun _ _ _ _ G h => stT_ok (trN_ok n) G h, fun _ _ _ _ G h => stA_ok (trN_ok n) G h, fun _ _ _ _ _ G h => stI_ok (trN_ok n) G h, fun _ _ _ _ _ G h => stG_ok (trN_ok n) G h, fun _ _ _ _ _ G h => stGs_ok (trN_ok n) G h, fun _ _ _ _ G h => stS_ok (trN_ok n) G h, fun _ _ _ _ G h => stSs_ok (trN_ok n) G h⟩
end Z

set_option Elab.async false
set_option linter.all false
set_option maxRecDepth 100000
/-! Z4: a def's promise by its body; what is forgotten at its end -/
namespace Z
open PySem PySem.Spec PyProof.Rows L2

mutual
def D.bel (n : Nat) : D → Bool
  | .ref i => decide (i < n)
  | .tup xs => D.bels n xs
  | .lst xs => D.bels n xs
  | .non => true
  | .bl _ => true
  | .int _ => true
  | .str _ => true
  | .scr _ => true
def D.bels (n : Nat) : List D → Bool
  | [] => true
  | x :: xs => D.bel n x && D.bels n xs
end
def O.bel (n : Nat) : O → Bool
  | .lst xs => D.bels n xs
  | .dic kvs => D.bels n (kvs.map (·.2))
  | .lck kvs => D.bels n (kvs.map (·.2))
mutual
theorem Rep.bel {F : PySem.W.Frag} {W : Vw} {H : Hp} : ∀ {d : D} {v : V}, Rep F W H d v → D.bel W.m.length d = true
  | .non, _, _ => by simp [D.bel]
  | .bl _, _, _ => by simp [D.bel]
  | .int _, _, _ => by simp [D.bel]
  | .str _, _, _ => by simp [D.bel]
  | .scr _, _, _ => by simp [D.bel]
  | .tup xs, v, h => by
    obtain ⟨a, vs, e, r, q⟩ := h.tup_inv
    rw [D.bel]
    exact Reps.bel q
  | .lst xs, v, h => by
    rw [Rep] at h
    obtain ⟨a, vs, e, r, q⟩ := h
    rw [D.bel]
    exact Reps.bel q
  | .ref n, v, h => by
    obtain ⟨a, e, q⟩ := ref_inv h
    rw [D.bel]
    exact decide_eq_true (List.getElem?_eq_some_iff.mp q).1
theorem Reps.bel {F : PySem.W.Frag} {W : Vw} {H : Hp} : ∀ {xs : List D} {vs : List V}, Reps F W H xs vs → D.bels W.m.length xs = true
  | [], _, _ => by simp [D.bels]
  | x :: xs, vs, h => by
    obtain ⟨y, ys, e, r, q⟩ := h.inv
    rw [D.bels, Rep.bel r, Reps.bel q]
    rfl
end
theorem RepO.bel {F : PySem.W.Frag} {W : Vw} {H : Hp} {o : O} {a : Addr} (h : RepO F W H o a) : o.bel W.m.length = true := by
  cases o with
  | lst xs => obtain ⟨vs, _, r⟩ := h; exact r.bel
  | dic kvs => obtain ⟨ks, _, r⟩ := h; exact r.2.bel
  | lck kvs => obtain ⟨ks, od, _, r⟩ := h; exact r.2.bel
/-- a smaller view -/
structure Cut (n : Nat) (W W' : Vw) : Prop where
  m : ∀ i < n, W.m[i]? = W'.m[i]?
  A : ∀ a, W'.A a → W.A a
mutual
theorem Rep.cut {F : PySem.W.Frag} {W W' : Vw} {H : Hp} {n : Nat} (c : Cut n W W') : ∀ {d : D} {v : V}, D.bel n d = true → Rep F W H d v → Rep F W' H d v
  | .non, _, _, h => by simpa [Rep] using h
  | .bl _, _, _, h => by simpa [Rep] using h
  | .int _, _, _, h => by simpa [Rep] using h
  | .str _, _, _, h => by simpa [Rep] using h
  | .tup xs, v, b, h => by
    rw [Rep] at h ⊢
    rw [D.bel] at b
    obtain ⟨a, vs, e, r, q⟩ := h
    refine ⟨a, vs, e, ?_, Reps.cut c b q⟩
    rcases r with ⟨z, r⟩ | r
    · exact .inl ⟨fun y => z (c.A a y), r⟩
    · exact .inr r
  | .lst xs, v, b, h => by
    rw [Rep] at h ⊢
    rw [D.bel] at b
    obtain ⟨a, vs, e, ⟨z, r⟩, q⟩ := h
    exact ⟨a, vs, e, ⟨fun y => z (c.A a y), r⟩, Reps.cut c b q⟩
  | .scr ns, v, _, h => by
    rw [Rep] at h ⊢
    obtain ⟨a, e, r | r⟩ := h
    · exact ⟨a, e, .inl ⟨fun y => r.1 (c.A a y), r.2⟩⟩
    · exact ⟨a, e, .inr r⟩
  | .ref i, v, b, h => by
    rw [Rep] at h ⊢
    rw [D.bel, decide_eq_true_eq] at b
    obtain ⟨a, e, q⟩ := h
    exact ⟨a, e, by rw [← c.m i b]; exact q⟩
theorem Reps.cut {F : PySem.W.Frag} {W W' : Vw} {H : Hp} {n : Nat} (c : Cut n W W') : ∀ {xs : List D} {vs : List V}, D.bels n xs = true → Reps F W H xs vs → Reps F W' H xs vs
  | [], _, _, h => by simpa [Reps] using h
  | x :: xs, vs, b, h => by
    rw [Reps] at h ⊢
    rw [D.bels, Bool.and_eq_true] at b
    obtain ⟨y, ys, e, r, q⟩ := h
    exact ⟨y, ys, e, Rep.cut c b.1 r, Reps.cut c b.2 q⟩
end
theorem RepO.cut {F : PySem.W.Frag} {W W' : Vw} {H : Hp} {n : Nat} (c : Cut n W W') {o : O} {a : Addr} (b : o.bel n = true) (h : RepO F W H o a) : RepO F W' H o a := by
  cases o with
  | lst xs => obtain ⟨vs, q, r⟩ := h; exact ⟨vs, q, r.cut c b⟩
  | dic kvs => obtain ⟨ks, q, r⟩ := h; exact ⟨ks, q, r.1, r.2.cut c b⟩
  | lck kvs => obtain ⟨ks, od, q, r⟩ := h; exact ⟨ks, od, q, r.1, r.2.cut c b⟩

mutual
theorem D.bel_mono {m n : Nat} (h : m ≤ n) : ∀ {d : D}, D.bel m d = true → D.bel n d = true
  | .ref i, e => by
    rw [D.bel, decide_eq_true_eq] at e ⊢
    omega
  | .tup xs, e => by
    rw [D.bel] at e ⊢
    exact D.bels_mono h e
  | .lst xs, e => by
    rw [D.bel] at e ⊢
    exact D.bels_mono h e
  | .non, _ => by simp [D.bel]
  | .bl _, _ => by simp [D.bel]
  | .int _, _ => by simp [D.bel]
  | .str _, _ => by simp [D.bel]
  | .scr _, _ => by simp [D.bel]
theorem D.bels_mono {m n : Nat} (h : m ≤ n) : ∀ {xs : List D}, D.bels m xs = true → D.bels n xs = true
  | [], _ => by simp [D.bels]
  | x :: xs, e => by
    rw [D.bels, Bool.and_eq_true] at e ⊢
    exact ⟨D.bel_mono h e.1, D.bels_mono h e.2⟩
end
theorem O.bel_mono {m n : Nat} (h : m ≤ n) {o : O} (e : o.bel m = true) : o.bel n = true := by
  cases o <;> exact D.bels_mono h e
/-- at a def's end: as it is; the new objects forgotten; a new list settled; some forgotten -/
def gcK (h : MH) (K : D → MH → Prop) (d : D) (h' : MH) : Prop :=
  K d h' ∨ ((∃ t, h' = h ++ t) ∧ d.bel h.length = true ∧ K d h) ∨ (∃ n xs t, h' = h ++ t ∧ d = .ref n ∧ h.length ≤ n ∧ h'[n]? = some (.lst xs) ∧ D.bels h.length xs = true ∧ K (.lst xs) h) ∨
    (∃ n, h.length ≤ n ∧ d.bel n = true ∧ (∀ (i : Nat) (o : O), (h'.take n)[i]? = some o → h[i]? = some o ∨ O.bel n o = true) ∧ K d (h'.take n))
theorem gcK_ok {F : PySem.W.Frag} {W W' : Vw} {H H' : Hp} {h h' : MH} {K0 : D → MH → Prop} {Q : VK} {d : D} {v : V} (R : RelH F W h H) (f : Fo F W H K0 Q) (g : gcK h K0 d h') (p : Pres W H W' H') (R' : RelH F W' h' H') (r : Rep F W' H' d v) : Q v H' := by
  obtain ⟨tm, em, nt⟩ := p.ext
  rcases g with k | ⟨⟨t, rfl⟩, b, k⟩ | ⟨n, xs, t, rfl, rfl, hn, hx, b, k⟩ | ⟨n, hn, b, bo, k⟩
  · exact f d h' W' H' v k p R' r
  · have c : Cut h.length W' ⟨W.m, W'.A⟩ := ⟨fun i hi => by rw [em, List.getElem?_append_left (by rw [R.len]; exact hi)], fun a z => z⟩
    refine f d h ⟨W.m, W'.A⟩ H' v k ⟨⟨[], by simp, by simp⟩, p.sub, p.keep, p.frz, p.hid⟩ ⟨R.len, R.nd, fun a z => p.sub a (R.sub a z), R'.trk, fun i o a e1 e2 => ?_⟩ (r.cut c b)
    have hi := (List.getElem?_eq_some_iff.mp e1).1
    have b1 := (R.at_ i o a e1 e2).bel
    rw [R.len] at b1
    exact (R'.at_ i o a (by rw [List.getElem?_append_left hi]; exact e1) (by rw [em, List.getElem?_append_left (by rw [R.len]; exact hi)]; exact e2)).cut c b1
  · obtain ⟨a, rfl, ea⟩ := ref_inv r
    obtain ⟨vs, q, rs⟩ := R'.at_ n _ a hx ea
    have hat : a ∈ tm := by
      rw [em, List.getElem?_append_right (by rw [R.len]; exact hn)] at ea
      exact List.mem_of_getElem? ea
    have nA : ¬ W.A a := nt a hat
    have c : Cut h.length W' ⟨W.m, fun b => W'.A b ∧ b ≠ a⟩ := ⟨fun i hi => by rw [em, List.getElem?_append_left (by rw [R.len]; exact hi)], fun a z => z.1⟩
    refine f _ h ⟨W.m, fun b => W'.A b ∧ b ≠ a⟩ H' _ k ⟨⟨[], by simp, by simp⟩, fun b z => ⟨p.sub b z, fun e => nA (by rw [← e]; exact z)⟩, fun b o nb e => ⟨(p.keep b o nb e).1, fun z => (p.keep b o nb e).2 z.1⟩, p.frz, p.hid⟩
      ⟨R.len, R.nd, fun b z => ⟨p.sub b (R.sub b z), fun e => nA (by rw [← e]; exact R.sub b z)⟩, fun b z => R'.trk b z.1, fun i o b e1 e2 => ?_⟩ ?_
    · have hi := (List.getElem?_eq_some_iff.mp e1).1
      have b1 := (R.at_ i o b e1 e2).bel
      rw [R.len] at b1
      exact (R'.at_ i o b (by rw [List.getElem?_append_left hi]; exact e1) (by rw [em, List.getElem?_append_left (by rw [R.len]; exact hi)]; exact e2)).cut c b1
    · rw [Rep]
      exact ⟨a, vs, rfl, ⟨fun z => z.2 rfl, q⟩, rs.cut c b⟩
  · have lm : W'.m.length = h'.length := R'.len
    have c : Cut n W' ⟨W'.m.take n, W'.A⟩ := ⟨fun i hi => by show _ = (W'.m.take n)[i]?; rw [List.getElem?_take, if_pos hi], fun a z => z⟩
    have et : W'.m.take n = W.m ++ tm.take (n - W.m.length) := by
      rw [em, List.take_append, List.take_of_length_le (by rw [R.len]; exact hn)]
    refine f d (h'.take n) ⟨W'.m.take n, W'.A⟩ H' v k ⟨⟨tm.take (n - W.m.length), et, fun a ha => nt a (List.mem_of_mem_take ha)⟩, p.sub, p.keep, p.frz, p.hid⟩
      ⟨by rw [List.length_take, List.length_take, lm], R'.nd.sublist (List.take_sublist _ _), fun a z => R'.sub a (List.mem_of_mem_take z), R'.trk, fun i o a e1 e2 => ?_⟩ (r.cut c b)
    have e2 : (W'.m.take n)[i]? = some a := e2
    rw [List.getElem?_take] at e1 e2
    split at e1
    · rename_i hi
      rw [if_pos hi] at e2
      refine (R'.at_ i o a e1 e2).cut c ?_
      rcases bo i o (by rw [List.getElem?_take, if_pos hi]; exact e1) with q | q
      · have hl := (List.getElem?_eq_some_iff.mp q).1
        have e3 : W.m[i]? = some a := by
          rw [em, List.getElem?_append_left (by rw [R.len]; exact hl)] at e2
          exact e2
        have := (R.at_ i o a q e3).bel
        rw [R.len] at this
        exact O.bel_mono hn this
      · exact q
    · cases e1
def startR (N : List Str) (ds : List D) : Rho := ds.map some ++ List.replicate (N.length - ds.length) none
/-- the promise of a def with n parameters, by its body -/
def bodyG (l n : Nat) (s : Sv) : Gs := fun ds h K => ds.length = n ∧ s { nx := fun _ h' => gcK h K .non h', rt := fun d h' => gcK h K d h', bk := fun _ _ => False, ct := fun _ _ => False } (ds.map some ++ List.replicate (l - ds.length) none) h
theorem relE_start {F : PySem.W.Frag} {W : Vw} {H : Hp} {N : List Str} {ds : List D} {vs : List V} (r : Reps F W H ds vs) : RelE F W H (ds.map some ++ List.replicate (N.length - ds.length) none) (L2.start N vs) := by
  have hl := r.length
  refine ⟨by simp [L2.start, hl], fun i d e => ?_⟩
  unfold L2.start
  by_cases hi : i < ds.length
  · rw [List.getElem?_append_left (by simpa using hi), List.getElem?_map] at e
    cases ed : ds[i]? with
    | none => rw [ed] at e; cases e
    | some x =>
      rw [ed] at e
      cases e
      obtain ⟨v, ev, rv⟩ := r.get ed
      exact ⟨v, by rw [List.getElem?_append_left (by simp [hl]; exact hi), List.getElem?_map, ev]; rfl, rv⟩
  · rw [List.getElem?_append_right (by simpa using hi)] at e
    have := List.mem_of_getElem? e
    rw [List.mem_replicate] at this
    cases this.2
theorem sp_body {F : PySem.W.Frag} {N : List Str} {n : Nat} {s : Sv} {vs : List V} {H : Hp} {Q : VK} {E : XK} (h : spG F (bodyG N.length n s) vs H Q E) : tS F s { nx := fun _ H' => Q .non H', rt := Q } (L2.start N vs) H := by
  obtain ⟨W, h, ds, K0, R, rs, ⟨hl, w⟩, f⟩ := h
  refine ⟨W, _, h, _, relE_start rs, R, w, ?_, ?_, ?_, ?_⟩
  · exact fun ρ' h' W' σ' H' k p E' R' => gcK_ok R f k p R' .non
  · exact fun d h' W' H' v k p R' r => gcK_ok R f k p R' r
  · exact fun ρ' h' W' σ' H' k => k.elim
  · exact fun ρ' h' W' σ' H' k => k.elim
theorem sp_len {F : PySem.W.Frag} {N ps : List Str} {s : Sv} {vs : List V} {H : Hp} {Q : VK} {E : XK} (h : spG F (bodyG N.length ps.length s) vs H Q E) : vs.length = ps.length := by
  obtain ⟨W, h, ds, K0, R, rs, w, f⟩ := h
  rw [rs.length]
  exact w.1
/-- a def that may be called -/
structure FnL (P : Program) (w : World) (K : PySem.W.Frag) (mg : Str → Option Value) (base : Heap) (k : Nat) (x : Str) (g : Gs) : Prop where
  gl : x ≠ "__debug__"
  ex : ∃ f : Addr, FnR P w K mg base CX0 k f (spG K g) ∧ PySem.W.keepIn K (.ref f) = true ∧ mg x = some (.ref f)
section
variable {P : Program} {w : World} {K : PySem.W.Frag} {mg : Str → Option Value} {base : Heap}
theorem FnL.mono {j k : Nat} {x : Str} {g : Gs} (F : FnL P w K mg base j x g) (h : j ≤ k) : FnL P w K mg base k x g := by
  obtain ⟨f, a, b, c⟩ := F.ex
  exact ⟨F.gl, f, a.mono h, b, c⟩
/-- another promise that asks more -/
theorem FnL.imp {k : Nat} {x : Str} {g g' : Gs} (F : FnL P w K mg base k x g) (h : ∀ ds hh K, g' ds hh K → g ds hh K) : FnL P w K mg base k x g' := by
  obtain ⟨f, a, b, c⟩ := F.ex
  refine ⟨F.gl, f, a.imp fun vs H Q E q => ?_, b, c⟩
  obtain ⟨W, hh, ds, K0, R, rs, w, fo⟩ := q
  exact ⟨W, hh, ds, K0, R, rs, h _ _ _ w, fo⟩
def SyL (P : Program) (w : World) (K : PySem.W.Frag) (mg : Str → Option Value) (base : Heap) (k : Nat) (x : Str) : Sy → Prop
  | .fn g => FnL P w K mg base k x g
  | .blt b => mg x = none ∧ x = b.name
  | .con d => (x == ("__debug__" : Str)) = false ∧ ∃ v u, mg x = some u ∧ RelV v u ∧ ∀ W H, Rep K W H d v
  | .gen g => ∀ X : Cx, X.prog = P → X.w = w → X.K = K → X.mg = mg → X.base = base → Room k X.A → (X.xe = fun _ _ => False) → X.calm = true → GnZ X x g
/-- the symbols of a def's globals -/
def GlL (P : Program) (w : World) (K : PySem.W.Frag) (mg : Str → Option Value) (base : Heap) (k : Nat) : List (Str × Sy) → Prop
  | [] => True
  | (x, s) :: r => SyL P w K mg base k x s ∧ GlL P w K mg base k r
theorem GlL.get {k : Nat} : ∀ {l : List (Str × Sy)} {x : Str} {s : Sy}, GlL P w K mg base k l → l.lookup x = some s → SyL P w K mg base k x s
  | (y, t) :: r, x, s, h, e => by
    rw [List.lookup_cons] at e
    split at e
    · rename_i hb
      cases e
      have : x = y := by simpa using hb
      rw [this]
      exact h.1
    · exact GlL.get h.2 e
def nbB (N : List Str) : Bool := N.all fun x => !(x == ("__debug__" : Str)) && !(x == ("__classdict__" : Str))
theorem good_cx {k : Nat} {N ps : List Str} {qual : Str} {scope : Scope} {f : Addr} {cdv : Value} {A : Around} {outer : List PySem.Env} {s : Shared} {H : Hp} {E : XK} {c : Ct} (S : FnScope N ps scope) (hr : Room k (A.deeper (envOfC qual scope s.heap.objs.size f cdv)))
    (hN : c.N = N) (hsc : c.sc = scope.names) (hfn : c.fn = none) (nb : nbB N = true) (gl : GlL P w K mg base k c.gl) : Good (cxOf CX0 P w K mg base N qual scope f cdv A outer s H E).nox c := by
  subst hN
  refine ⟨rfl, S.nd, hsc.symm, S.kind, fun x hx => rfl, rfl, ?_, rfl, fun x hx => ?_, fun x s e => ?_⟩
  · have := hr.un
    show (A.deeper (envOfC qual scope s.heap.objs.size f cdv)).units + 64 < cLine
    omega
  · have := List.all_eq_true.mp nb x hx
    simpa using this
  · have q := gl.get e
    cases s with
    | fn g =>
      obtain ⟨f, a, b, d⟩ := q.ex
      exact ⟨q.gl, k, f, a, hr, b, d⟩
    | blt b => exact q
    | con d => exact ⟨q.1, q.2⟩
    | gen g => exact q _ rfl rfl rfl rfl rfl hr rfl rfl
/-- THE RULE of a def -/
theorem fnL_of {k : Nat} {x : Str} {params : Arguments} {body : List Stmt} {scope : Scope} {f : Addr} {fd : FuncData} {N ps : List Str} {c : Ct} {s : Sv} {n : Nat} (F : FunD K x x params body scope [] [] f fd) (hm : mg x = some (.ref f)) (hd : x ≠ "__debug__")
    (hb : Binds K fd ps []) (S : FnScope N ps scope) (hN : c.N = N) (hsc : c.sc = scope.names) (hfn : c.fn = none) (nb : nbB N = true) (gl : GlL P w K mg base k c.gl) (ht : (trN n).ss c body = some s) : FnL P w K mg base (k + 1) x (bodyG N.length ps.length s) := by
  have ok : FnOk P w K mg base CX0 (k + 1) f fd ps (spG K (bodyG N.length ps.length s)) := F.ok S (fun vs H Q E h => sp_len h) fun cdv A outer s' H vs Q E hr h => ⟨_, PSs.nox ((trN_ok n).ss _ c body s (good_cx S hr hN hsc hfn nb gl) ht), sp_body h⟩
  have raw := ok.raw hb .nil
  refine ⟨hd, f, raw.imp fun vs H Q E h => ?_, F.kp, hm⟩
  rw [List.append_nil]
  exact h
end
end Z

set_option Elab.async false
set_option linter.all false
set_option maxRecDepth 100000
/-! M1: readings by simp; loops; typed data -/
namespace Z
open PySem PySem.Spec PyProof.Rows L2

section
variable {ρ : Rho} {h : MH} {Q : D → MH → Prop} {K : Kx}
@[simp] theorem w_var {i : Nat} : cVar i ρ h Q ↔ ∃ d, ρ[i]? = some (some d) ∧ Q d h := Iff.rfl
@[simp] theorem w_K {d : D} : cK d ρ h Q ↔ Q d h := Iff.rfl
@[simp] theorem w_bin {o : W2} {a b : Ev} : cBin o a b ρ h Q ↔ a ρ h fun x h1 => b ρ h1 fun y h2 => o h2 x y Q := Iff.rfl
@[simp] theorem w_un {o : D → (D → Prop) → Prop} {a : Ev} : cUn o a ρ h Q ↔ a ρ h fun d h1 => o d fun z => Q z h1 := Iff.rfl
@[simp] theorem w_neg {i : Int} {P : D → Prop} : uNeg (.int i) P ↔ P (.int (-i)) := Iff.rfl
@[simp] theorem w_not {i : Bool} {P : D → Prop} : uNot (.bl i) P ↔ P (.bl (!i)) := Iff.rfl
@[simp] theorem w_andV {a b : Ev} : cAndV a b ρ h Q ↔ a ρ h fun x h1 => match x with
  | .bl true => b ρ h1 Q
  | .bl false => Q (.bl false) h1
  | _ => False := Iff.rfl
@[simp] theorem w_orV {a b : Ev} : cOrV a b ρ h Q ↔ a ρ h fun x h1 => match x with
  | .bl true => Q (.bl true) h1
  | .bl false => b ρ h1 Q
  | _ => False := Iff.rfl
@[simp] theorem w_isN {neg : Bool} {a : Ev} : cIsN neg a ρ h Q ↔ a ρ h fun x h1 => Q (.bl (xor neg x.isN)) h1 := Iff.rfl
@[simp] theorem w_tup {as : Av} : cTup as ρ h Q ↔ as ρ h fun ds h1 => ds.length ≤ sizeLine ∧ Q (.tup ds) h1 := Iff.rfl
@[simp] theorem w_lst {mu : Bool} {as : Av} : cLst mu as ρ h Q ↔ as ρ h fun ds h1 => ds.length ≤ sizeLine ∧ mkL mu ds h1 Q := Iff.rfl
@[simp] theorem w_call {g : Gs} {as : Av} : cCall g as ρ h Q ↔ as ρ h fun ds h1 => g ds h1 Q := Iff.rfl
@[simp] theorem w_B {o : Wn} {as : Av} : cB o as ρ h Q ↔ as ρ h fun ds h1 => o h1 ds Q := Iff.rfl
@[simp] theorem w_dict : cDict ρ h Q ↔ Q (.ref h.length) (h ++ [.dic []]) := Iff.rfl
@[simp] theorem w_anil {P : List D → MH → Prop} : aNil ρ h P ↔ P [] h := Iff.rfl
@[simp] theorem w_acons {a : Ev} {r : Av} {P : List D → MH → Prop} : aCons a r ρ h P ↔ a ρ h fun d h1 => r ρ h1 fun ds h2 => P (d :: ds) h2 := Iff.rfl
@[simp] theorem w_astar {a : Ev} {r : Av} {P : List D → MH → Prop} : aStar a r ρ h P ↔ a ρ h fun d h1 => ∃ xs, seqOf h1 d = some xs ∧ r ρ h1 fun ds h2 => P (xs ++ ds) h2 := Iff.rfl
@[simp] theorem w_mkT {xs : List D} : mkL true xs h Q ↔ Q (.ref h.length) (h ++ [.lst xs]) := Iff.rfl
@[simp] theorem w_mkF {xs : List D} : mkL false xs h Q ↔ Q (.lst xs) h := Iff.rfl
@[simp] theorem w_test {a : Ev} {P : Bool → MH → Prop} : cTest a ρ h P ↔ a ρ h fun d h1 => match d with
  | .bl b => P b h1
  | _ => False := Iff.rfl
@[simp] theorem w_and {a b : Tv} {P : Bool → MH → Prop} : cAnd a b ρ h P ↔ a ρ h fun x h1 => match x with
  | true => b ρ h1 P
  | false => P false h1 := Iff.rfl
@[simp] theorem w_or {a b : Tv} {P : Bool → MH → Prop} : cOr a b ρ h P ↔ a ρ h fun x h1 => match x with
  | true => P true h1
  | false => b ρ h1 P := Iff.rfl
@[simp] theorem w_notT {a : Tv} {P : Bool → MH → Prop} : cNot a ρ h P ↔ a ρ h fun x h1 => P (!x) h1 := Iff.rfl
@[simp] theorem w_ifE {t : Tv} {a b : Ev} : cIfE t a b ρ h Q ↔ t ρ h fun x h1 => match x with
  | true => a ρ h1 Q
  | false => b ρ h1 Q := Iff.rfl
@[simp] theorem w_isi {Ts : List String} {a : Ev} : cIsi Ts a ρ h Q ↔ a ρ h fun x h1 => ∃ n, tyN h1 x = some n ∧ Q (.bl (Ts.any (isiT n))) h1 := Iff.rfl
@[simp] theorem w_sl {mu : Bool} {a : Ev} {lo hi : Option Ev} : cSl mu a lo hi ρ h Q ↔ a ρ h fun x h1 => oPart lo ρ h1 fun l h2 => oPart hi ρ h2 fun u h3 => wSl mu h3 x l u Q := Iff.rfl
@[simp] theorem w_part0 {P : Option Int → MH → Prop} : oPart none ρ h P ↔ P none h := Iff.rfl
@[simp] theorem w_part1 {a : Ev} {P : Option Int → MH → Prop} : oPart (some a) ρ h P ↔ a ρ h fun d h1 => match d with
  | .int i => P (some i) h1
  | _ => False := Iff.rfl
@[simp] theorem w_rev {mu : Bool} {a : Ev} : cRev mu a ρ h Q ↔ a ρ h fun x h1 => wRev mu h1 x Q := Iff.rfl
@[simp] theorem w_revL {mu : Bool} {xs : List D} : wRev mu h (.lst xs) Q ↔ ∃ ys, lstOf h (.lst xs) = some ys ∧ mkL mu ys.reverse h Q := Iff.rfl
@[simp] theorem w_revR {mu : Bool} {n : Nat} : wRev mu h (.ref n) Q ↔ ∃ ys, lstOf h (.ref n) = some ys ∧ mkL mu ys.reverse h Q := Iff.rfl
@[simp] theorem w_revT {mu : Bool} {xs : List D} : wRev mu h (.tup xs) Q ↔ Q (.tup xs.reverse) h := Iff.rfl
@[simp] theorem w_me {sup : List String} {o : String → Wm} {a : Ev} {as : Av} : cMe sup o a as ρ h Q ↔ a ρ h fun x h1 => ∃ T, tyD h1 x = some T ∧ T ∈ sup ∧ as ρ h1 fun ds h2 => o T h2 x ds Q := Iff.rfl
@[simp] theorem w_chain {o o' : W2} {a b c : Ev} : cChain o o' a b c ρ h Q ↔ a ρ h fun x h1 => b ρ h1 fun y h2 => o h2 x y fun z h3 => match z with
  | .bl true => c ρ h3 fun w h4 => o' h4 y w Q
  | .bl false => Q (.bl false) h3
  | _ => False := Iff.rfl
@[simp] theorem w_lock {i : Nat} {w : Ev} : cLock i w ρ h Q ↔ ∃ n kvs, ρ[i]? = some (some (.ref n)) ∧ h[n]? = some (.dic kvs) ∧
  w ρ (h.set n (.lck kvs)) fun d h' => h'[n]? = some (.lck kvs) ∧ Q d (h'.set n (.dic kvs)) := Iff.rfl
-- statements
@[simp] theorem w_snil : sNil K ρ h ↔ K.nx ρ h := Iff.rfl
@[simp] theorem w_seq {a b : Sv} : sSeq a b K ρ h ↔ a { K with nx := fun ρ' h' => b K ρ' h' } ρ h := Iff.rfl
@[simp] theorem w_set {i : Nat} {w : Ev} : sSet i w K ρ h ↔ w ρ h fun d h' => K.nx (ρ.set i (some d)) h' := Iff.rfl
@[simp] theorem w_asg {g : Gv} {w : Ev} : sAsg g w K ρ h ↔ w ρ h fun d h' => g d ρ h' K.nx := Iff.rfl
@[simp] theorem w_ret {w : Ev} : sRet w K ρ h ↔ w ρ h K.rt := Iff.rfl
@[simp] theorem w_retN : sRetN K ρ h ↔ K.rt .non h := Iff.rfl
@[simp] theorem w_if {t : Tv} {a b : Sv} : sIf t a b K ρ h ↔ t ρ h fun c h' => match c with
  | true => a K ρ h'
  | false => b K ρ h' := Iff.rfl
@[simp] theorem w_drop {w : Ev} : sDrop w K ρ h ↔ w ρ h fun _ h' => K.nx ρ h' := Iff.rfl
@[simp] theorem w_brk : sBrk K ρ h ↔ K.bk ρ h := Iff.rfl
@[simp] theorem w_ct : sCt K ρ h ↔ K.ct ρ h := Iff.rfl
@[simp] theorem w_put {o i w : Ev} : sPut o i w K ρ h ↔ w ρ h fun v h1 => o ρ h1 fun ov h2 => i ρ h2 fun iv h3 => wSet h3 ov iv v fun h4 => K.nx ρ h4 := Iff.rfl
@[simp] theorem w_par {is : List Nat} {as : Av} : sPar is as K ρ h ↔ as ρ h fun ds h1 => ds.length = is.length ∧ K.nx ((is.zip ds).foldl (fun r p => r.set p.1 (some p.2)) ρ) h1 := Iff.rfl
@[simp] theorem w_for {iv : Iv} {g : Gv} {b : Sv} : sFor iv g b K ρ h ↔ iv ρ h fun xs chk h1 => forL g b chk xs K ρ h1 := Iff.rfl
@[simp] theorem w_comp {mu : Bool} {iv : Iv} {g : Gv} {ts : Tv} {B : List D → Rho → MH → (List D → MH → Prop) → Prop} {vs : List Nat} : cComp mu iv g ts B vs ρ h Q ↔ iv ρ h fun xs chk h' => turns g ts B chk xs [] (wipeR ρ vs) h' fun acc h2 => mkL mu acc h2 Q := Iff.rfl
@[simp] theorem w_one {e : Ev} {acc : List D} {P : List D → MH → Prop} : bOne e acc ρ h P ↔ e ρ h fun y h' => acc.length < sizeLine ∧ P (acc ++ [y]) h' := Iff.rfl
@[simp] theorem w_inB {iv : Iv} {g : Gv} {ts : Tv} {vs : List Nat} {e : Ev} {acc : List D} {P : List D → MH → Prop} : bIn iv g ts vs e acc ρ h P ↔ iv ρ h fun xs chk h' => turns g ts (bOne e) chk xs acc (wipeR ρ vs) h' P := Iff.rfl
@[simp] theorem w_yes {P : Bool → MH → Prop} : tvYes ρ h P ↔ P true h := Iff.rfl
@[simp] theorem w_slock {i : Nat} {s : Sv} : sLock i s K ρ h ↔ ∃ n kvs, ρ[i]? = some (some (.ref n)) ∧ h[n]? = some (.dic kvs) ∧
  s { nx := fun ρ' h' => h'[n]? = some (.lck kvs) ∧ K.nx ρ' (h'.set n (.dic kvs)), rt := fun d h' => h'[n]? = some (.lck kvs) ∧ K.rt d (h'.set n (.dic kvs)),
      bk := fun ρ' h' => h'[n]? = some (.lck kvs) ∧ K.bk ρ' (h'.set n (.dic kvs)), ct := fun ρ' h' => h'[n]? = some (.lck kvs) ∧ K.ct ρ' (h'.set n (.dic kvs)) } ρ (h.set n (.lck kvs)) := Iff.rfl
-- targets
@[simp] theorem w_gname {i : Nat} {d : D} {P : Rho → MH → Prop} : gvName i d ρ h P ↔ P (ρ.set i (some d)) h := Iff.rfl
@[simp] theorem w_gnil {ds : List D} {P : Rho → MH → Prop} : gvNil ds ρ h P ↔ ds = [] ∧ P ρ h := Iff.rfl
@[simp] theorem w_gcons {g : Gv} {r : List D → Rho → MH → (Rho → MH → Prop) → Prop} {d : D} {ds : List D} {P : Rho → MH → Prop} : gvCons g r (d :: ds) ρ h P ↔ g d ρ h fun ρ' h' => r ds ρ' h' P := Iff.rfl
@[simp] theorem w_gtup {n : Nat} {g : List D → Rho → MH → (Rho → MH → Prop) → Prop} {xs : List D} {P : Rho → MH → Prop} : gvTup n g (.tup xs) ρ h P ↔ xs.length = n ∧ g xs ρ h P := Iff.rfl
-- what is walked
@[simp] theorem w_iVal {w : Ev} {R : List D → (MH → Prop) → MH → Prop} : iVal w ρ h R ↔ w ρ h fun d h1 => iW d h1 R := Iff.rfl
@[simp] theorem w_iWt {xs : List D} {R : List D → (MH → Prop) → MH → Prop} : iW (.tup xs) h R ↔ R xs (fun _ => True) h := Iff.rfl
@[simp] theorem w_iWl {xs : List D} {R : List D → (MH → Prop) → MH → Prop} : iW (.lst xs) h R ↔ R xs (fun _ => True) h := Iff.rfl
@[simp] theorem w_iWs {z : Str} {R : List D → (MH → Prop) → MH → Prop} : iW (.str z) h R ↔ R (z.cps.toList.map fun c => .str ⟨#[c]⟩) (fun _ => True) h := Iff.rfl
@[simp] theorem w_range1 {as : Av} {R : List D → (MH → Prop) → MH → Prop} : iRange1 as ρ h R ↔ as ρ h fun ds h1 => ∃ j : Int, ds = [.int j] ∧ -(2 ^ 62) ≤ j ∧ j < 2 ^ 62 ∧ R ((List.range j.toNat).map fun (i : Nat) => .int i) (fun _ => True) h1 := Iff.rfl
@[simp] theorem w_range2 {as : Av} {R : List D → (MH → Prop) → MH → Prop} : iRange2 as ρ h R ↔ as ρ h fun ds h1 => ∃ i j : Int, ds = [.int i, .int j] ∧ (-(2 ^ 62) ≤ i ∧ i < 2 ^ 62 ∧ -(2 ^ 62) ≤ j ∧ j < 2 ^ 62) ∧ R ((List.range (j - i).toNat).map fun (k : Nat) => .int (i + k)) (fun _ => True) h1 := Iff.rfl
@[simp] theorem w_enum {as : Av} {R : List D → (MH → Prop) → MH → Prop} : iEnumV as ρ h R ↔ as ρ h fun ds h1 => ∃ d xs, ds = [d] ∧ frzOf d = some xs ∧ R ((List.range xs.length).zip xs |>.map fun p => .tup [.int p.1, p.2]) (fun _ => True) h1 := Iff.rfl
@[simp] theorem w_zip {as : Av} {R : List D → (MH → Prop) → MH → Prop} : iZip as ρ h R ↔ as ρ h fun ds h1 => ∃ d d' xs ys, ds = [d, d'] ∧ eqKind d d' = true ∧ frzOf d = some xs ∧ frzOf d' = some ys ∧ R (xs.zip ys |>.map fun p => .tup [p.1, p.2]) (fun _ => True) h1 := Iff.rfl
@[simp] theorem frz_T {xs : List D} : frzOf (.tup xs) = some xs := rfl
@[simp] theorem frz_L {xs : List D} : frzOf (.lst xs) = some xs := rfl
-- operators at known kinds
@[simp] theorem w_addI {mu : Bool} {i j : Int} : wAdd mu h (.int i) (.int j) Q ↔ Q (.int (i + j)) h := Iff.rfl
@[simp] theorem w_addS {mu : Bool} {i j : Str} : wAdd mu h (.str i) (.str j) Q ↔ i.length + j.length ≤ sizeLine ∧ Q (.str (i ++ j)) h := Iff.rfl
@[simp] theorem w_addT {mu : Bool} {xs ys : List D} : wAdd mu h (.tup xs) (.tup ys) Q ↔ xs.length + ys.length ≤ sizeLine ∧ Q (.tup (xs ++ ys)) h := Iff.rfl
@[simp] theorem w_addL {mu : Bool} {xs ys : List D} : wAdd mu h (.lst xs) (.lst ys) Q ↔ xs.length + ys.length ≤ sizeLine ∧ mkL mu (xs ++ ys) h Q := by
  constructor
  · rintro ⟨_, _, e1, e2, q⟩
    cases e1
    cases e2
    exact q
  · exact fun q => ⟨_, _, rfl, rfl, q⟩
@[simp] theorem w_sub {i j : Int} : wSub h (.int i) (.int j) Q ↔ Q (.int (i - j)) h := by simp [wSub, wInt]
@[simp] theorem w_mul {i j : Int} : wMul h (.int i) (.int j) Q ↔ CMulW i j ∧ Q (.int (i * j)) h := Iff.rfl
@[simp] theorem w_mod {i j : Int} : wMod h (.int i) (.int j) Q ↔ 0 < j ∧ Q (.int (i % j)) h := Iff.rfl
@[simp] theorem w_div {i j : Int} : wDiv h (.int i) (.int j) Q ↔ CDivW i j ∧ Q (.int (i / j)) h := Iff.rfl
@[simp] theorem w_pow {i j : Int} : wPow h (.int i) (.int j) Q ↔ CPow i j ∧ Q (.int (i ^ j.toNat)) h := Iff.rfl
@[simp] theorem w_eqI {neg : Bool} {i j : Int} : wEq neg h (.int i) (.int j) Q ↔ Q (.bl (xor neg (decide (i = j)))) h := Iff.rfl
@[simp] theorem w_eqS {neg : Bool} {i j : Str} : wEq neg h (.str i) (.str j) Q ↔ Q (.bl (xor neg (decide (i = j)))) h := Iff.rfl
@[simp] theorem w_eqTD {neg : Bool} {xs : List D} {y : D} : wEq neg h (.tup xs) y Q ↔ wEqD neg h (.tup xs) y Q := by cases y <;> exact Iff.rfl
@[simp] theorem w_eqLD {neg : Bool} {xs : List D} {y : D} : wEq neg h (.lst xs) y Q ↔ wEqD neg h (.lst xs) y Q := by cases y <;> exact Iff.rfl
@[simp] theorem w_eqRD {neg : Bool} {n : Nat} {y : D} : wEq neg h (.ref n) y Q ↔ wEqD neg h (.ref n) y Q := by cases y <;> exact Iff.rfl
theorem w_eqBD {neg : Bool} {b : Bool} {y : D} : wEq neg h (.bl b) y Q ↔ wEqD neg h (.bl b) y Q := by cases y <;> exact Iff.rfl
theorem w_eqND {neg : Bool} {y : D} : wEq neg h .non y Q ↔ wEqD neg h .non y Q := by cases y <;> exact Iff.rfl
theorem w_eq_ok {neg : Bool} {x y : D} (hx : x.ok 60 = true) (hy : y.ok 60 = true) (k : Q (.bl (xor neg (x.eqv y))) h) : wEq neg h x y Q := by
  have : wEqD neg h x y Q := .inl ⟨hx, hy, k⟩
  cases x <;> cases y <;> first
    | exact this
    | (simp only [D.eqv, D.pd, PyData.eqv] at k
       first
         | exact k
         | (show Q _ _
            simpa [beq_eq_decide] using k))
@[simp] theorem w_eqBB {neg a b : Bool} : wEq neg h (.bl a) (.bl b) Q ↔ Q (.bl (xor neg (a == b))) h := by
  constructor
  · rintro (⟨_, _, q⟩ | ⟨x, y, e1, e2, _, _, q⟩)
    · exact q
    · cases e1
      cases e2
      exact q
  · exact fun q => w_eq_ok rfl rfl q
@[simp] theorem w_ixT {xs : List D} {i : Int} : wIx h (.tup xs) (.int i) Q ↔ ∃ v, atI xs i = some v ∧ Q v h := Iff.rfl
@[simp] theorem w_tupB {d : D} : bTuple h [d] Q ↔ ∃ xs, seqOf h d = some xs ∧ Q (.tup xs) h := Iff.rfl
@[simp] theorem w_seqT {xs : List D} : seqOf h (.tup xs) = some xs := rfl
@[simp] theorem w_seqL {xs : List D} : seqOf h (.lst xs) = some xs := rfl
@[simp] theorem w_lstL {xs : List D} : lstOf h (.lst xs) = some xs := rfl
@[simp] theorem w_bls {g : List Bool → Bool} {d : D} : bBools g h [d] Q ↔ ∃ bs : List Bool, lstOf h d = some (bs.map .bl) ∧ Q (.bl (g bs)) h := Iff.rfl
@[simp] theorem w_isNn : D.isN .non = true := rfl
@[simp] theorem w_isNi {i : Int} : D.isN (.int i) = false := rfl
end

/-! loops and comprehensions -/
theorem turns_map {α : Type} {enc : α → D} {g : Gv} {ts : Tv} {e : Ev} {chk : MH → Prop} {ρ : Rho} {h : MH} {K : List D → MH → Prop} (f : α → Option D) (hc : chk h) : ∀ (l : List α) (acc : List D), acc.length + l.length ≤ sizeLine →
    (∀ a ∈ l, ∀ (acc : List D) (K' : List D → MH → Prop), acc.length < sizeLine → K' (acc ++ (f a).toList) h → g (enc a) ρ h fun ρ1 h1 => ts ρ1 h1 fun b h2 => match b with
      | true => bOne e acc ρ1 h2 K'
      | false => K' acc h2) →
    K (acc ++ l.filterMap f) h → turns g ts (bOne e) chk (l.map enc) acc ρ h K
  | [], acc, _, _, k => ⟨hc, by simpa using k⟩
  | a :: l, acc, hl, st, k => by
    rw [List.length_cons] at hl
    refine ⟨hc, st a (List.mem_cons_self ..) acc _ (by omega) ?_⟩
    refine turns_map f hc l _ ?_ (fun b hb => st b (List.mem_cons_of_mem _ hb)) ?_
    · cases f a <;> simp <;> omega
    · cases e : f a <;> simpa [List.filterMap_cons, e] using k
/-- without a test -/
theorem turns_all {α : Type} {enc : α → D} {g : Gv} {e : Ev} {chk : MH → Prop} {ρ : Rho} {h : MH} {K : List D → MH → Prop} (f : α → D) (hc : chk h) (l : List α) (acc : List D) (hl : acc.length + l.length ≤ sizeLine)
    (st : ∀ a ∈ l, ∀ (acc : List D) (K' : List D → MH → Prop), acc.length < sizeLine → K' (acc ++ [f a]) h → g (enc a) ρ h fun ρ1 h1 => bOne e acc ρ1 h1 K')
    (k : K (acc ++ l.map f) h) : turns g tvYes (bOne e) chk (l.map enc) acc ρ h K := by
  refine turns_map (fun a => some (f a)) hc l acc hl (fun a ha acc K' h1 h2 => st a ha acc K' h1 h2) ?_
  rw [List.filterMap_eq_map']
  exact k
/-- with a test -/
theorem turns_filter {α : Type} {enc : α → D} {g : Gv} {ts : Tv} {e : Ev} {chk : MH → Prop} {ρ : Rho} {h : MH} {K : List D → MH → Prop} (p : α → Bool) (f : α → D) (hc : chk h) (l : List α) (acc : List D) (hl : acc.length + l.length ≤ sizeLine)
    (st : ∀ a ∈ l, ∀ (acc : List D) (K' : List D → MH → Prop), acc.length < sizeLine → (p a = true → K' (acc ++ [f a]) h) → (p a = false → K' acc h) → g (enc a) ρ h fun ρ1 h1 => ts ρ1 h1 fun b h2 => match b with
      | true => bOne e acc ρ1 h2 K'
      | false => K' acc h2)
    (k : K (acc ++ (l.filter p).map f) h) : turns g ts (bOne e) chk (l.map enc) acc ρ h K := by
  refine turns_map (fun a => if p a then some (f a) else none) hc l acc hl (fun a ha acc K' h1 h2 => st a ha acc K' h1 (fun e => by simpa [e] using h2) fun e => by simpa [e] using h2) ?_
  have : (l.filterMap fun a => if p a then some (f a) else none) = (l.filter p).map f := by
    clear st k hl
    induction l with
    | nil => rfl
    | cons a l ih =>
      by_cases e : p a = true
      · simp [List.filterMap_cons, e, ih]
      · simp [List.filterMap_cons, e, ih]
  rw [this]
  exact k
@[simp] theorem w_wipe0 {ρ : Rho} : wipeR ρ [] = ρ := rfl
@[simp] theorem w_wipe1 {ρ : Rho} {v : Nat} {vs : List Nat} : wipeR ρ (v :: vs) = (wipeR ρ vs).set v none := rfl
@[simp] theorem line0 : 0 ≤ sizeLine := by decide
@[simp] theorem line1 : 1 ≤ sizeLine := by decide
@[simp] theorem line2 : 2 ≤ sizeLine := by decide
@[simp] theorem line3 : 3 ≤ sizeLine := by decide
@[simp] theorem line4 : 4 ≤ sizeLine := by decide
@[simp] theorem line5 : 5 ≤ sizeLine := by decide
@[simp] theorem line6 : 6 ≤ sizeLine := by decide
@[simp] theorem line8 : 8 ≤ sizeLine := by decide
@[simp] theorem line10 : 10 ≤ sizeLine := by decide
@[simp] theorem line0' : 0 < sizeLine := by decide
theorem atI_of {α : Type} {xs : List α} (j : Nat) : atI xs (j : Int) = xs[j]? := by
  unfold atI ixN
  rw [if_pos (by omega)]
  by_cases h : j < xs.length
  · rw [if_pos (by omega)]
    simp
  · rw [if_neg (by omega)]
    simp
    omega
@[simp] theorem w_atI0 {α : Type} {x : α} {xs : List α} : atI (x :: xs) 0 = some x := atI_of 0
@[simp] theorem w_atI1 {α : Type} {x y : α} {xs : List α} : atI (x :: y :: xs) 1 = some y := atI_of 1
@[simp] theorem w_atI2 {α : Type} {x y z : α} {xs : List α} : atI (x :: y :: z :: xs) 2 = some z := atI_of 2
theorem forL_inv {α σ : Type} {enc : α → D} {g : Gv} {b : Sv} {chk : MH → Prop} {K : Kx} (P : σ → Rho → MH → Prop) (nxt : α → σ → σ) : ∀ (l : List α) (s : σ) (ρ : Rho) (h : MH), P s ρ h → (∀ s ρ h, P s ρ h → chk h) →
    (∀ a ∈ l, ∀ s ρ h (K' : Rho → MH → Prop), P s ρ h → (∀ ρ' h', P (nxt a s) ρ' h' → K' ρ' h') → g (enc a) ρ h fun ρ1 h1 => b { nx := K', rt := K.rt, bk := K.nx, ct := K' } ρ1 h1) →
    (∀ ρ' h', P (l.foldl (fun s a => nxt a s) s) ρ' h' → K.nx ρ' h') → forL g b chk (l.map enc) K ρ h
  | [], s, ρ, h, p, hc, _, k => ⟨hc s ρ h p, k ρ h p⟩
  | a :: l, s, ρ, h, p, hc, st, k => ⟨hc s ρ h p, st a (List.mem_cons_self ..) s ρ h _ p fun ρ' h' p' => forL_inv P nxt l (nxt a s) ρ' h' p' hc (fun b hb => st b (List.mem_cons_of_mem _ hb)) k⟩
theorem forL_pre' {α : Type} {enc : α → D} {g : Gv} {b : Sv} {chk : MH → Prop} {K : Kx} (P : List α → Rho → MH → Prop) (hc : ∀ p ρ h, P p ρ h → chk h) (l : List α)
    (st : ∀ p a q, l = p ++ a :: q → ∀ ρ h (K' : Rho → MH → Prop), P p ρ h → (∀ ρ' h', P (p ++ [a]) ρ' h' → K' ρ' h') → g (enc a) ρ h fun ρ1 h1 => b { nx := K', rt := K.rt, bk := K.nx, ct := K' } ρ1 h1)
    (k : ∀ ρ' h', P l ρ' h' → K.nx ρ' h') : ∀ (q p : List α), l = p ++ q → ∀ (ρ : Rho) (h : MH), P p ρ h → forL g b chk (q.map enc) K ρ h
  | [], p, e, ρ, h, hp => ⟨hc p ρ h hp, k ρ h (by rw [e, List.append_nil]; exact hp)⟩
  | a :: q, p, e, ρ, h, hp => ⟨hc p ρ h hp, st p a q e ρ h _ hp fun ρ' h' hp' => forL_pre' P hc l st k q (p ++ [a]) (by rw [e, List.append_assoc]; rfl) ρ' h' hp'⟩
/-- P: by what has been walked -/
theorem forL_pre {α : Type} {enc : α → D} {g : Gv} {b : Sv} {chk : MH → Prop} {K : Kx} (P : List α → Rho → MH → Prop) (l : List α) (ρ : Rho) (h : MH) (h0 : P [] ρ h) (hc : ∀ p ρ h, P p ρ h → chk h)
    (st : ∀ p a q, l = p ++ a :: q → ∀ ρ h (K' : Rho → MH → Prop), P p ρ h → (∀ ρ' h', P (p ++ [a]) ρ' h' → K' ρ' h') → g (enc a) ρ h fun ρ1 h1 => b { nx := K', rt := K.rt, bk := K.nx, ct := K' } ρ1 h1)
    (k : ∀ ρ' h', P l ρ' h' → K.nx ρ' h') : forL g b chk (l.map enc) K ρ h := forL_pre' P hc l st k l [] rfl ρ h h0
/-- xs.append -/
theorem w_app {h : MH} {n : Nat} {xs : List D} {d : D} {Q : D → MH → Prop} (e : h[n]? = some (.lst xs)) (hl : xs.length < sizeLine) (k : Q .non (h.set n (.lst (xs ++ [d])))) : mAppend h (.ref n) [d] Q := ⟨n, xs, d, rfl, rfl, e, hl, k⟩
@[simp] theorem get_new {h : MH} {o : O} {t : List O} : (h ++ o :: t)[h.length]? = some o := by simp
@[simp] theorem set_new {h : MH} {o o' : O} {t : List O} : (h ++ o :: t).set h.length o' = h ++ o' :: t := by simp
@[simp] theorem ty_new {h : MH} {xs : List D} {t : List O} : tyD (h ++ O.lst xs :: t) (.ref h.length) = some "list" := by simp [tyD]
@[simp] theorem seq_new {h : MH} {xs : List D} {t : List O} : seqOf (h ++ O.lst xs :: t) (.ref h.length) = some xs := by simp [seqOf, lstOf]
@[simp] theorem lst_new {h : MH} {xs : List D} {t : List O} : lstOf (h ++ O.lst xs :: t) (.ref h.length) = some xs := by simp [lstOf]
theorem gc_same {h h' : MH} {K : D → MH → Prop} {d : D} (k : K d h') : gcK h K d h' := .inl k
theorem gc_new {h t : MH} {K : D → MH → Prop} {d : D} (b : D.bel h.length d = true) (k : K d h) : gcK h K d (h ++ t) := .inr (.inl ⟨⟨t, rfl⟩, b, k⟩)
theorem gc_set {h t : MH} {K : D → MH → Prop} {xs : List D} (b : D.bels h.length xs = true) (k : K (.lst xs) h) : gcK h K (.ref h.length) (h ++ .lst xs :: t) := .inr (.inr (.inl ⟨_, xs, _, rfl, rfl, Nat.le_refl _, get_new, b, k⟩))
/-- h1: the caller's objects as they are now -/
theorem gc_mod {h h1 t : MH} {K : D → MH → Prop} {d : D} (hl : h1.length = h.length) (b : D.bel h.length d = true) (bo : ∀ (i : Nat) (o : O), h1[i]? = some o → h[i]? = some o ∨ O.bel h.length o = true) (k : K d h1) : gcK h K d (h1 ++ t) := by
  have e : (h1 ++ t).take h.length = h1 := by rw [← hl]; simp
  exact .inr (.inr (.inr ⟨h.length, Nat.le_refl _, b, by rw [e]; exact bo, by rw [e]; exact k⟩))
end Z

set_option Elab.async false
set_option linter.all false
set_option maxRecDepth 100000
/-! M2: typed data, sorting -/
namespace Z
open PySem PySem.Spec PyProof.Rows L2

/-! sorting typed data -/
def leE {α : Type} (enc : α → D) (a b : α) : Bool := PySem.W.dataLe false D.pd (enc a) (enc b)
def srt {α : Type} (enc : α → D) (l : List α) : List α := l.mergeSort (leE enc)
theorem sortD_map {α : Type} (enc : α → D) (l : List α) : sortD (l.map enc) = (srt enc l).map enc := by
  exact (List.map_mergeSort (r := leE enc) (s := PySem.W.dataLe false D.pd) (f := enc) (l := l) fun a _ b _ => rfl).symm
theorem srt_perm {α : Type} (enc : α → D) (l : List α) : (srt enc l).Perm l := List.mergeSort_perm _ _
theorem mem_srt {α : Type} {enc : α → D} {l : List α} {a : α} : a ∈ srt enc l ↔ a ∈ l := (srt_perm enc l).mem_iff
theorem srt_len {α : Type} {enc : α → D} {l : List α} : (srt enc l).length = l.length := (srt_perm enc l).length_eq
/-- values of one kind, fit to be sorted -/
structure SrtE {α : Type} (enc : α → D) (P : α → Prop) : Prop where
  ok : ∀ a, P a → (enc a).ok 50 = true
  al : ∀ a b, P a → P b → PySem.W.alike (enc a).pd (enc b).pd = true
  sb : (∀ a, P a → ∃ x r, (enc a).pd = .tuple (x :: r)) ∨ ∀ a, P a → (enc a).pd ≠ .none ∧ ∀ xs, (enc a).pd ≠ .tuple xs
theorem oks_map {α : Type} {enc : α → D} {n : Nat} : ∀ {l : List α}, (∀ a ∈ l, (enc a).ok n = true) → D.oks n (l.map enc) = true
  | [], _ => by simp [D.oks]
  | a :: l, h => by
    rw [List.map_cons, D.oks, h a (List.mem_cons_self ..), oks_map fun b hb => h b (List.mem_cons_of_mem _ hb)]
    rfl
theorem SrtE.srtOk {α : Type} {enc : α → D} {P : α → Prop} (S : SrtE enc P) {l : List α} (h : ∀ a ∈ l, P a) : srtOk (l.map enc) := by
  refine ⟨fun x hx y hy => ?_, ?_⟩
  · rw [List.map_map] at hx hy
    obtain ⟨a, ha, rfl⟩ := List.mem_map.mp hx
    obtain ⟨b, hb, rfl⟩ := List.mem_map.mp hy
    exact S.al a b (h a ha) (h b hb)
  · rw [List.map_map]
    rcases S.sb with q | q
    · refine .inl (.inl fun x hx => ?_)
      obtain ⟨a, ha, rfl⟩ := List.mem_map.mp hx
      exact q a (h a ha)
    · refine .inl (.inr fun x hx => ?_)
      obtain ⟨a, ha, rfl⟩ := List.mem_map.mp hx
      exact q a (h a ha)
theorem w_sorted {α : Type} {enc : α → D} {P : α → Prop} (S : SrtE enc P) {l : List α} (h : ∀ a ∈ l, P a) {mu : Bool} {hh : MH} {d : D} {Q : D → MH → Prop} (e : seqOf hh d = some (l.map enc)) (k : mkL mu ((srt enc l).map enc) hh Q) : bSorted2 mu hh [d] Q :=
  .inl ⟨l.map enc, e, oks_map fun a ha => S.ok a (h a ha), S.srtOk h, by rw [sortD_map]; exact k⟩
/-! equality of data -/
mutual
/-- ints, texts and tuples of these -/
def D.smp : D → Bool
  | .int _ => true
  | .str _ => true
  | .tup xs => D.smps xs
  | .lst xs => D.smps xs
  | .non => true
  | .bl _ => false
  | .scr _ => false
  | .ref _ => false
def D.smps : List D → Bool
  | [] => true
  | x :: xs => D.smp x && D.smps xs
end
mutual
theorem eqv_iff : ∀ (x y : D), x.smp = true → y.smp = true → (D.eqv x y = true ↔ x = y)
  | .int a, y, hx, hy => by cases y <;> simp_all [D.eqv, D.pd, PyData.eqv, D.smp]
  | .str a, y, hx, hy => by cases y <;> simp_all [D.eqv, D.pd, PyData.eqv, D.smp]
  | .non, y, hx, hy => by cases y <;> simp_all [D.eqv, D.pd, PyData.eqv, D.smp]
  | .tup xs, y, hx, hy => by
    cases y with
    | tup ys =>
      have := eqvs_iff xs ys (by simpa [D.smp] using hx) (by simpa [D.smp] using hy)
      simpa [D.eqv, D.pd, PyData.eqv] using this
    | _ => simp_all [D.eqv, D.pd, PyData.eqv, D.smp]
  | .lst xs, y, hx, hy => by
    cases y with
    | lst ys =>
      have := eqvs_iff xs ys (by simpa [D.smp] using hx) (by simpa [D.smp] using hy)
      simpa [D.eqv, D.pd, PyData.eqv] using this
    | _ => simp_all [D.eqv, D.pd, PyData.eqv, D.smp]
  | .bl _, _, hx, _ => by simp [D.smp] at hx
  | .scr _, _, hx, _ => by simp [D.smp] at hx
  | .ref _, _, hx, _ => by simp [D.smp] at hx
theorem eqvs_iff : ∀ (xs ys : List D), D.smps xs = true → D.smps ys = true → (PyData.eqvAll (D.pds xs) (D.pds ys) = true ↔ xs = ys)
  | [], [], _, _ => by simp [D.pds, PyData.eqvAll]
  | [], y :: ys, _, _ => by simp [D.pds, PyData.eqvAll]
  | x :: xs, [], _, _ => by simp [D.pds, PyData.eqvAll]
  | x :: xs, y :: ys, hx, hy => by
    simp only [D.smps, Bool.and_eq_true] at hx hy
    have h1 := eqv_iff x y hx.1 hy.1
    have h2 := eqvs_iff xs ys hx.2 hy.2
    rw [D.eqv] at h1
    simp only [D.pds, PyData.eqvAll, Bool.and_eq_true, List.cons.injEq]
    rw [h1, h2]
end
mutual
theorem bel_smp {n : Nat} : ∀ {d : D}, d.smp = true → D.bel n d = true
  | .int _, _ => by simp [D.bel]
  | .str _, _ => by simp [D.bel]
  | .non, _ => by simp [D.bel]
  | .tup xs, h => by
    rw [D.bel]
    exact bels_smp (by simpa [D.smp] using h)
  | .lst xs, h => by
    rw [D.bel]
    exact bels_smp (by simpa [D.smp] using h)
  | .bl _, h => by simp [D.smp] at h
  | .scr _, h => by simp [D.smp] at h
  | .ref _, h => by simp [D.smp] at h
theorem bels_smp {n : Nat} : ∀ {xs : List D}, D.smps xs = true → D.bels n xs = true
  | [], _ => by simp [D.bels]
  | x :: xs, h => by
    simp only [D.smps, Bool.and_eq_true] at h
    rw [D.bels, bel_smp h.1, bels_smp h.2]
    rfl
end
theorem eqv_dec {α : Type} [DecidableEq α] {enc : α → D} (inj : ∀ a b, enc a = enc b → a = b) (hs : ∀ a, (enc a).smp = true) (a b : α) : D.eqv (enc a) (enc b) = decide (a = b) := by
  have := eqv_iff (enc a) (enc b) (hs a) (hs b)
  by_cases e : a = b
  · subst e
    rw [decide_eq_true rfl, this]
  · rw [decide_eq_false e, Bool.eq_false_iff]
    intro q
    exact e (inj a b (this.mp q))
theorem smps_map {α : Type} {enc : α → D} (hs : ∀ a, (enc a).smp = true) : ∀ l : List α, D.smps (l.map enc) = true
  | [] => by simp [D.smps]
  | a :: l => by
    rw [List.map_cons, D.smps, hs a, smps_map hs l]
    rfl
theorem map_inj {α β : Type} {f : α → β} (inj : ∀ a b, f a = f b → a = b) {l m : List α} (e : l.map f = m.map f) : l = m := List.map_inj_right (f := f) (fun a b => inj a b) |>.mp e

/-! names, groups, files, disks -/
abbrev Fl := List Str × Int
abbrev Dk := List Fl
def eS (x : Str) : D := .str x
def eNs (g : List Str) : D := .tup (g.map eS)
def eFl (f : Fl) : D := .tup [eNs f.1, .int f.2]
def eDk (d : Dk) : D := .tup (d.map eFl)
def eO : Option Int → D
  | none => .non
  | some i => .int i
theorem eS_inj : ∀ a b, eS a = eS b → a = b := fun a b h => by injection h
theorem eNs_inj : ∀ a b, eNs a = eNs b → a = b := fun a b h => by
  injection h with h
  exact map_inj eS_inj h
theorem eFl_inj : ∀ a b, eFl a = eFl b → a = b := fun a b h => by
  injection h with h
  injection h with h1 h
  injection h with h2 _
  injection h2 with h2
  exact Prod.ext (eNs_inj _ _ h1) h2
theorem eDk_inj : ∀ a b, eDk a = eDk b → a = b := fun a b h => by
  injection h with h
  exact map_inj eFl_inj h
theorem smp_S (a : Str) : (eS a).smp = true := by simp [eS, D.smp]
theorem smp_Ns (g : List Str) : (eNs g).smp = true := by
  rw [eNs, D.smp]
  exact smps_map smp_S g
theorem smp_Fl (f : Fl) : (eFl f).smp = true := by
  rw [eFl, D.smp, D.smps, smp_Ns]
  simp [D.smps, D.smp]
theorem smp_Dk (d : Dk) : (eDk d).smp = true := by
  rw [eDk, D.smp]
  exact smps_map smp_Fl d
def okN (n : Str) : Prop := PyData.strOk n = true
def okNs (g : List Str) : Prop := ∀ n ∈ g, okN n
theorem ok_S {n : Nat} {a : Str} (h : okN a) : (eS a).ok n = true := by
  unfold okN at h
  cases n <;> simpa [eS, D.ok] using h
theorem ok_Ns {n : Nat} {g : List Str} (h : okNs g) : (eNs g).ok (n + 1) = true := by
  rw [eNs, D.ok]
  exact oks_map fun a ha => ok_S (h a ha)
theorem ok_Fl {n : Nat} {f : Fl} (h : okNs f.1) : (eFl f).ok (n + 2) = true := by
  rw [eFl, D.ok]
  simp [D.oks, ok_Ns h, D.ok]
theorem ok_Dk {n : Nat} {d : Dk} (h : ∀ f ∈ d, okNs f.1) : (eDk d).ok (n + 3) = true := by
  rw [eDk, D.ok]
  exact oks_map fun a ha => ok_Fl (h a ha)
theorem alikes_S : ∀ (a b : List Str), PySem.W.alikeAll (D.pds (a.map eS)) (D.pds (b.map eS)) = true
  | [], _ => by simp [D.pds, PySem.W.alikeAll]
  | _ :: _, [] => by simp [D.pds, PySem.W.alikeAll]
  | x :: xs, y :: ys => by simp [D.pds, PySem.W.alikeAll, eS, D.pd, PySem.W.alike, alikes_S xs ys]
theorem alike_Ns (a b : List Str) : PySem.W.alike (eNs a).pd (eNs b).pd = true := by
  simp only [eNs, D.pd, PySem.W.alike]
  exact alikes_S a b
theorem srtE_S : SrtE eS okN := ⟨fun a h => ok_S h, fun a b _ _ => by simp [eS, D.pd, PySem.W.alike], .inr fun a _ => by simp [eS, D.pd]⟩
theorem srtE_Fl : SrtE eFl (fun f => okNs f.1) := by
  refine ⟨fun a h => ok_Fl h, fun a b _ _ => ?_, .inl fun a _ => ⟨_, _, by simp [eFl, D.pd, D.pds]; exact ⟨rfl, rfl⟩⟩⟩
  have := alike_Ns a.1 b.1
  simp [eFl, D.pd, D.pds, PySem.W.alike, PySem.W.alikeAll, this]
theorem srtE_Ns : SrtE eNs (fun g => okNs g ∧ g ≠ []) := by
  refine ⟨fun a h => ok_Ns h.1, fun a b _ _ => alike_Ns a b, .inl fun a h => ?_⟩
  cases a with
  | nil => exact (h.2 rfl).elim
  | cons x r => exact ⟨_, _, by simp [eNs, D.pd, D.pds]; exact ⟨rfl, rfl⟩⟩
section
variable {h : MH} {Q : D → MH → Prop}
@[simp] theorem w_iNs {g : List Str} {R : List D → (MH → Prop) → MH → Prop} : iW (eNs g) h R ↔ R (g.map eS) (fun _ => True) h := Iff.rfl
@[simp] theorem w_iDk {d : Dk} {R : List D → (MH → Prop) → MH → Prop} : iW (eDk d) h R ↔ R (d.map eFl) (fun _ => True) h := Iff.rfl
@[simp] theorem w_seqNs {g : List Str} : seqOf h (eNs g) = some (g.map eS) := rfl
@[simp] theorem w_seqDk {d : Dk} : seqOf h (eDk d) = some (d.map eFl) := rfl
@[simp] theorem w_eqNs {neg : Bool} {g : List Str} {y : D} : wEq neg h (eNs g) y Q ↔ wEqD neg h (eNs g) y Q := w_eqTD
@[simp] theorem w_eqDk {neg : Bool} {g : Dk} {y : D} : wEq neg h (eDk g) y Q ↔ wEqD neg h (eDk g) y Q := w_eqTD
@[simp] theorem w_eqFl {neg : Bool} {g : Fl} {y : D} : wEq neg h (eFl g) y Q ↔ wEqD neg h (eFl g) y Q := w_eqTD
theorem any_eqv {α : Type} [DecidableEq α] {enc : α → D} (inj : ∀ a b, enc a = enc b → a = b) (hs : ∀ a, (enc a).smp = true) (a : α) (l : List α) : ((l.map enc).any fun z => z.eqv (enc a)) = decide (a ∈ l) := by
  induction l with
  | nil => simp
  | cons b l ih =>
    rw [List.map_cons, List.any_cons, ih, eqv_dec inj hs]
    by_cases e : b = a
    · simp [e]
    · have : a ≠ b := fun q => e q.symm
      simp [e, this]
/-- x in a tuple or list of such -/
theorem w_inE {α : Type} [DecidableEq α] {enc : α → D} (inj : ∀ a b, enc a = enc b → a = b) (hs : ∀ a, (enc a).smp = true) {neg : Bool} {a : α} {l : List α} {y : D} (hy : ∀ z, y ≠ .str z) (e : seqOf h y = some (l.map enc)) (ha : (enc a).ok 50 = true) (hl : ∀ b ∈ l, (enc b).ok 50 = true)
    (k : Q (.bl (xor neg (decide (a ∈ l)))) h) : wIn neg h (enc a) y Q := by
  have : ((∃ kvs k, dicOf h y = some kvs ∧ toKey (enc a) = some k ∧ Q (.bl (xor neg (getKV kvs k).isSome)) h) ∨
    (∃ xs, seqOf h y = some xs ∧ (enc a).ok 50 = true ∧ D.oks 50 xs = true ∧ Q (.bl (xor neg (xs.any fun z => z.eqv (enc a)))) h)) :=
    .inr ⟨_, e, ha, oks_map hl, by rw [any_eqv inj hs]; exact k⟩
  cases y <;> first | exact this | exact (hy _ rfl).elim
theorem w_inNs {neg : Bool} {n : Str} {g : List Str} (hn : okN n) (hg : okNs g) (k : Q (.bl (xor neg (decide (n ∈ g)))) h) : wIn neg h (.str n) (eNs g) Q :=
  w_inE (enc := eS) eS_inj smp_S (a := n) (fun z e => by cases e) rfl (ok_S hn) (fun b hb => ok_S (hg b hb)) k
/-- == of such -/
theorem w_eqE {α : Type} [DecidableEq α] {enc : α → D} (inj : ∀ a b, enc a = enc b → a = b) (hs : ∀ a, (enc a).smp = true) {neg : Bool} {a b : α} (ha : (enc a).ok 60 = true) (hb : (enc b).ok 60 = true) (k : Q (.bl (xor neg (decide (a = b)))) h) : wEqD neg h (enc a) (enc b) Q :=
  .inl ⟨ha, hb, by rw [eqv_dec inj hs]; exact k⟩
end
end Z

set_option Elab.async false
set_option linter.all false
set_option maxRecDepth 100000
/-! S: the defs' terms, printed by genall.py -/
namespace Z
open PySem PySem.Spec PyProof.Rows L2
def c_LETTERS : D := .str "abcdefghijklmnopqrstuvwxyz"
def c_MOST_CONTENT : D := .int 1000000
def c_MOST_NAMES : D := .int 10
def c_MOST_DEEDS : D := .int 8
def c_MOST_MENTIONED : D := .int 5
def c_WITH_VALUE : D := .tup [.str "write", .str "save"]
def c_WITH_TWO : D := .tup [.str "link", .str "move", .str "copy", .str "renew"]
def N_is_name : List Str := ["value", "letter"]
def s_is_name : Sv := (sRet (cAndV (cIsi ["str"] (cVar 0)) (cAndV (cChain wLe wLe (cK (.int 1)) (cB bLen (aCons (cVar 0) aNil)) (cK (.int 4))) (cB (bBools fun bs => bs.all id) (aCons (cComp false (iVal (cVar 0)) (gvName 1) tvYes (bOne (cBin (wIn false) (cVar 1) (cK c_LETTERS))) [1]) aNil)))))
def N_is_content : List Str := ["value"]
def s_is_content : Sv := (sRet (cAndV (cIsi ["int"] (cVar 0)) (cAndV (cUn uNot (cIsi ["bool"] (cVar 0))) (cChain wLe wLe (cUn uNeg (cK c_MOST_CONTENT)) (cVar 0) (cK c_MOST_CONTENT)))))
def N_rises : List Str := ["items", "one", "other"]
def s_rises : Sv := (sRet (cB (bBools fun bs => bs.all id) (aCons (cComp false (iZip (aCons (cVar 0) (aCons (cSl false (cVar 0) (some (cK (.int 1))) none) aNil))) (gvTup 2 (gvCons (gvName 1) (gvCons (gvName 2) gvNil))) tvYes (bOne (cBin wLt (cVar 1) (cVar 2))) [1, 2]) aNil)))
def N_is_group : List Str := ["value", "name"]
def s_is_group (G_rises G_is_name : Gs) : Sv := (sRet (cAndV (cIsi ["tuple"] (cVar 0)) (cAndV (cBin (wEq true) (cVar 0) (cTup aNil)) (cAndV (cB (bBools fun bs => bs.all id) (aCons (cComp false (iVal (cVar 0)) (gvName 1) tvYes (bOne (cCall G_is_name (aCons (cVar 1) aNil))) [1]) aNil)) (cCall G_rises (aCons (cVar 0) aNil))))))
def N_is_disk : List Str := ["value", "file"]
def s_is_disk (G_is_form G_is_content : Gs) : Sv := (sSeq (sIf (cOr (cNot (cTest (cIsi ["tuple"] (cVar 0)))) (cNot (cTest (cB (bBools fun bs => bs.all id) (aCons (cComp false (iVal (cVar 0)) (gvName 1) tvYes (bOne (cAndV (cIsi ["tuple"] (cVar 1)) (cBin (wEq false) (cB bLen (aCons (cVar 1) aNil)) (cK (.int 2))))) [1]) aNil))))) (sRet (cK (.bl false))) sNil) (sRet (cAndV (cB (bBools fun bs => bs.all id) (aCons (cComp false (iVal (cVar 0)) (gvName 1) tvYes (bOne (cCall G_is_content (aCons (cBin wIx (cVar 1) (cK (.int 1))) aNil))) [1]) aNil)) (cCall G_is_form (aCons (cB bTuple (aCons (cComp false (iVal (cVar 0)) (gvName 1) tvYes (bOne (cBin wIx (cVar 1) (cK (.int 0)))) [1]) aNil)) aNil)))))
def N_is_deed : List Str := ["value"]
def s_is_deed (G_is_name G_is_content : Gs) : Sv := (sSeq (sIf (cOr (cNot (cTest (cIsi ["tuple"] (cVar 0)))) (cOr (cTest (cBin wLt (cB bLen (aCons (cVar 0) aNil)) (cK (.int 2)))) (cOr (cNot (cTest (cIsi ["str"] (cBin wIx (cVar 0) (cK (.int 0)))))) (cNot (cTest (cCall G_is_name (aCons (cBin wIx (cVar 0) (cK (.int 1))) aNil))))))) (sRet (cK (.bl false))) sNil) (sSeq (sIf (cTest (cBin (wEq false) (cBin wIx (cVar 0) (cK (.int 0))) (cK (.str "remove")))) (sRet (cBin (wEq false) (cB bLen (aCons (cVar 0) aNil)) (cK (.int 2)))) sNil) (sSeq (sIf (cTest (cBin (wEq true) (cB bLen (aCons (cVar 0) aNil)) (cK (.int 3)))) (sRet (cK (.bl false))) sNil) (sRet (cOrV (cAndV (cBin (wIn false) (cBin wIx (cVar 0) (cK (.int 0))) (cK c_WITH_VALUE)) (cCall G_is_content (aCons (cBin wIx (cVar 0) (cK (.int 2))) aNil))) (cAndV (cBin (wIn false) (cBin wIx (cVar 0) (cK (.int 0))) (cK c_WITH_TWO)) (cCall G_is_name (aCons (cBin wIx (cVar 0) (cK (.int 2))) aNil))))))))
def N_L_draw : List Str := ["tape", "many", "prime", "found", "cell"]
def s_L_draw : Sv := (sSeq (sSet 2 (cK (.int 2305843009213693951))) (sSeq (sIf (cTest (cBin wLt (cBin wIx (cVar 0) (cK (.int 2))) (cVar 1))) (sSeq (sSet 4 (cK (.int 0))) (sSeq (sIf (cTest (cBin wGt (cB bLen (aCons (cBin wIx (cVar 0) (cK (.int 0))) aNil)) (cK (.int 0)))) (sSet 4 (cBin wIx (cBin wIx (cVar 0) (cK (.int 0))) (cBin wMod (cBin wIx (cVar 0) (cK (.int 1))) (cB bLen (aCons (cBin wIx (cVar 0) (cK (.int 0))) aNil))))) sNil) (sSeq (sIf (cOr (cTest (cBin wGe (cBin wIx (cVar 0) (cK (.int 1))) (cB bLen (aCons (cBin wIx (cVar 0) (cK (.int 0))) aNil)))) (cTest (cBin wLt (cVar 4) (cBin wPow (cK (.int 10)) (cK (.int 18)))))) (sSeq (sSet 4 (cBin wMod (cBin (wAdd false) (cVar 4) (cBin wMul (cK (.int 1000003)) (cBin wIx (cVar 0) (cK (.int 1))))) (cVar 2))) (sSeq (sSet 4 (cBin wMod (cBin (wAdd false) (cBin (wAdd false) (cBin wMul (cVar 4) (cVar 4)) (cBin wMul (cK (.int 1181783497276652981)) (cVar 4))) (cK (.int 2049848353892358983))) (cVar 2))) (sSet 4 (cBin wMod (cBin (wAdd false) (cBin wMul (cVar 4) (cVar 4)) (cK (.int 1442695040888963407))) (cVar 2))))) sNil) (sSeq (sPut (cVar 0) (cK (.int 1)) (cBin (wAdd false) (cBin wIx (cVar 0) (cK (.int 1))) (cK (.int 1)))) (sPut (cVar 0) (cK (.int 2)) (cVar 4)))))) sNil) (sSeq (sSet 3 (cBin wMod (cBin wIx (cVar 0) (cK (.int 2))) (cVar 1))) (sSeq (sPut (cVar 0) (cK (.int 2)) (cBin wDiv (cBin wIx (cVar 0) (cK (.int 2))) (cVar 1))) (sRet (cVar 3))))))
def N_L_whole : List Str := ["item"]
def s_L_whole : Sv := (sRet (cAndV (cIsi ["int"] (cVar 0)) (cUn uNot (cIsi ["bool"] (cVar 0)))))
def N_L_within : List Str := ["item", "low", "high"]
def s_L_within (G_L_whole : Gs) : Sv := (sRet (cAndV (cCall G_L_whole (aCons (cVar 0) aNil)) (cChain wLe wLe (cVar 1) (cVar 0) (cVar 2))))
def N_L_like : List Str := ["one", "two", "k"]
def s_L_like (G_L_like : Gs) : Sv := (sSeq (sIf (cTest (cIsi ["list", "tuple"] (cVar 0))) (sSeq (sIf (cOr (cTest (cBin (wEq true) (cIsi ["list"] (cVar 0)) (cIsi ["list"] (cVar 1)))) (cTest (cBin (wEq true) (cIsi ["tuple"] (cVar 0)) (cIsi ["tuple"] (cVar 1))))) (sRet (cK (.bl false))) sNil) (sSeq (sIf (cTest (cBin (wEq true) (cB bLen (aCons (cVar 0) aNil)) (cB bLen (aCons (cVar 1) aNil)))) (sRet (cK (.bl false))) sNil) (sRet (cBin (wEq false) (cComp false (iRange1 (aCons (cB bLen (aCons (cVar 0) aNil)) aNil)) (gvName 2) (cNot (cTest (cCall G_L_like (aCons (cBin wIx (cVar 0) (cVar 2)) (aCons (cBin wIx (cVar 1) (cVar 2)) aNil))))) (bOne (cVar 2)) [2]) (cLst false aNil))))) sNil) (sSeq (sIf (cTest (cIsi ["list", "tuple"] (cVar 1))) (sRet (cK (.bl false))) sNil) (sRet (cAndV (cBin (wEq false) (cIsi ["bool"] (cVar 0)) (cIsi ["bool"] (cVar 1))) (cBin (wEq false) (cVar 0) (cVar 1))))))
def N_L_content : List Str := ["tape"]
def s_L_content (G_L_draw : Gs) : Sv := (sRet (cBin wIx (cLst false (aCons (cK (.int 0)) (aCons (cK (.int 1)) (aCons (cK (.int 2)) (aCons (cK (.int 3)) (aCons (cK (.int 7)) (aCons (cUn uNeg (cK (.int 5))) (aCons (cBin wPow (cK (.int 10)) (cK (.int 6))) (aCons (cUn uNeg (cBin wPow (cK (.int 10)) (cK (.int 6)))) aNil))))))))) (cCall G_L_draw (aCons (cVar 0) (aCons (cK (.int 8)) aNil)))))
def N_L_deed : List Str := ["tape", "names", "word", "name", "other"]
def s_L_deed (G_L_content G_L_draw : Gs) : Sv := (sSeq (sSet 2 (cBin wIx (cLst false (aCons (cK (.str "write")) (aCons (cK (.str "save")) (aCons (cK (.str "link")) (aCons (cK (.str "link")) (aCons (cK (.str "move")) (aCons (cK (.str "move")) (aCons (cK (.str "copy")) (aCons (cK (.str "renew")) (aCons (cK (.str "remove")) (aCons (cK (.str "write")) aNil))))))))))) (cCall G_L_draw (aCons (cVar 0) (aCons (cK (.int 10)) aNil))))) (sSeq (sPar [3, 4] (aCons (cBin wIx (cVar 1) (cCall G_L_draw (aCons (cVar 0) (aCons (cB bLen (aCons (cVar 1) aNil)) aNil)))) (aCons (cBin wIx (cVar 1) (cCall G_L_draw (aCons (cVar 0) (aCons (cB bLen (aCons (cVar 1) aNil)) aNil)))) aNil))) (sSeq (sIf (cTest (cBin (wEq false) (cVar 2) (cK (.str "remove")))) (sRet (cTup (aCons (cVar 2) (aCons (cVar 3) aNil)))) sNil) (sRet (cTup (aCons (cVar 2) (aCons (cVar 3) (aCons (cIfE (cTest (cBin (wIn false) (cVar 2) (cTup (aCons (cK (.str "write")) (aCons (cK (.str "save")) aNil))))) (cCall G_L_content (aCons (cVar 0) aNil)) (cVar 4)) aNil))))))))
def N_L_names : List Str := ["tape", "most", "words"]
def s_L_names (G_L_draw : Gs) : Sv := (sSeq (sSet 2 (cSl false (cLst false (aCons (cK (.str "a")) (aCons (cK (.str "bb")) (aCons (cK (.str "c")) (aCons (cK (.str "dog")) (aCons (cK (.str "e")) aNil)))))) none (some (cBin (wAdd false) (cK (.int 1)) (cCall G_L_draw (aCons (cVar 0) (aCons (cVar 1) aNil))))))) (sRet (cIfE (cTest (cBin (wEq false) (cCall G_L_draw (aCons (cVar 0) (aCons (cK (.int 2)) aNil))) (cK (.int 0)))) (cRev false (cVar 2)) (cVar 2))))
def N_L_disk : List Str := ["tape", "names", "files", "name", "way", "some", "content"]
def s_L_disk (G_L_draw G_L_content : Gs) : Sv := (sSeq (sSet 2 (cLst true aNil)) (sSeq (sFor (iVal (cVar 1)) (gvName 3) (sSeq (sSet 4 (cCall G_L_draw (aCons (cVar 0) (aCons (cK (.int 4)) aNil)))) (sIf (cAnd (cTest (cBin (wEq false) (cVar 4) (cK (.int 1)))) (cTest (cBin (wEq true) (cVar 2) (cLst false aNil)))) (sDrop (cMe ["list"] (fun _ => mAppend) (cBin wIx (cBin wIx (cVar 2) (cCall G_L_draw (aCons (cVar 0) (aCons (cB bLen (aCons (cVar 2) aNil)) aNil)))) (cK (.int 0))) (aCons (cVar 3) aNil))) (sIf (cTest (cBin wGt (cVar 4) (cK (.int 0)))) (sDrop (cMe ["list"] (fun _ => mAppend) (cVar 2) (aCons (cTup (aCons (cLst true (aCons (cVar 3) aNil)) (aCons (cCall G_L_content (aCons (cVar 0) aNil)) aNil))) aNil))) sNil)))) (sRet (cB bTuple (aCons (cB (bSorted2 false) (aCons (cComp false (iVal (cVar 2)) (gvTup 2 (gvCons (gvName 5) (gvCons (gvName 6) gvNil))) tvYes (bOne (cTup (aCons (cB bTuple (aCons (cB (bSorted2 false) (aCons (cVar 5) aNil)) aNil)) (aCons (cVar 6) aNil)))) [5, 6]) aNil)) aNil)))))
def N_L_in_groups : List Str := ["row", "found", "group"]
def s_L_in_groups : Sv := (sSeq (sSet 1 (cLst false aNil)) (sSeq (sFor (iVal (cVar 0)) (gvName 2) (sSet 1 (cBin (wAdd false) (cVar 1) (cB (bList false) (aCons (cVar 2) aNil))))) (sRet (cVar 1))))
def N_L_is_word : List Str := ["value", "sign"]
def s_L_is_word : Sv := (sRet (cAndV (cIsi ["str"] (cVar 0)) (cAndV (cChain wLt wLt (cK (.int 0)) (cB bLen (aCons (cVar 0) aNil)) (cK (.int 5))) (cBin (wEq false) (cComp false (iVal (cVar 0)) (gvName 1) (cNot (cTest (cChain wLe wLe (cK (.str "a")) (cVar 1) (cK (.str "z"))))) (bOne (cVar 1)) [1]) (cLst false aNil)))))
def N_L_is_deed : List Str := ["value"]
def s_L_is_deed (G_L_is_word G_L_within : Gs) : Sv := (sSeq (sIf (cOr (cNot (cTest (cIsi ["tuple"] (cVar 0)))) (cOr (cNot (cTest (cChain wLt wLt (cK (.int 1)) (cB bLen (aCons (cVar 0) aNil)) (cK (.int 4))))) (cNot (cTest (cIsi ["str"] (cBin wIx (cVar 0) (cK (.int 0)))))))) (sRet (cK (.bl false))) sNil) (sSeq (sIf (cNot (cTest (cCall G_L_is_word (aCons (cBin wIx (cVar 0) (cK (.int 1))) aNil)))) (sRet (cK (.bl false))) sNil) (sSeq (sIf (cTest (cBin (wEq false) (cB bLen (aCons (cVar 0) aNil)) (cK (.int 2)))) (sRet (cBin (wEq false) (cBin wIx (cVar 0) (cK (.int 0))) (cK (.str "remove")))) sNil) (sSeq (sIf (cTest (cBin (wIn false) (cBin wIx (cVar 0) (cK (.int 0))) (cTup (aCons (cK (.str "write")) (aCons (cK (.str "save")) aNil))))) (sRet (cCall G_L_within (aCons (cBin wIx (cVar 0) (cK (.int 2))) (aCons (cUn uNeg (cBin wPow (cK (.int 10)) (cK (.int 6)))) (aCons (cBin wPow (cK (.int 10)) (cK (.int 6))) aNil))))) sNil) (sRet (cAndV (cBin (wIn false) (cBin wIx (cVar 0) (cK (.int 0))) (cTup (aCons (cK (.str "link")) (aCons (cK (.str "move")) (aCons (cK (.str "copy")) (aCons (cK (.str "renew")) aNil)))))) (cCall G_L_is_word (aCons (cBin wIx (cVar 0) (cK (.int 2))) aNil))))))))
def N_shown : List Str := ["disk", "name", "names", "content"]
def s_shown : Sv := (sSeq (sFor (iVal (cVar 0)) (gvTup 2 (gvCons (gvName 2) (gvCons (gvName 3) gvNil))) (sIf (cTest (cBin (wIn false) (cVar 1) (cVar 2))) (sRet (cVar 3)) sNil)) (sRet (cK .non)))
def N_are_same : List Str := ["disk", "name", "other", "names", "content"]
def s_are_same : Sv := (sRet (cB (bBools fun bs => bs.any id) (aCons (cComp false (iVal (cVar 0)) (gvTup 2 (gvCons (gvName 3) (gvCons (gvName 4) gvNil))) tvYes (bOne (cAndV (cBin (wIn false) (cVar 1) (cVar 3)) (cBin (wIn false) (cVar 2) (cVar 3)))) [3, 4]) aNil)))
def N_without : List Str := ["disk", "name", "rest", "names", "content", "file", "own"]
def s_without : Sv := (sSeq (sSet 2 (cComp false (iVal (cVar 0)) (gvTup 2 (gvCons (gvName 3) (gvCons (gvName 4) gvNil))) tvYes (bOne (cTup (aCons (cB bTuple (aCons (cComp false (iVal (cVar 3)) (gvName 6) (cTest (cBin (wEq true) (cVar 6) (cVar 1))) (bOne (cVar 6)) [6]) aNil)) (aCons (cVar 4) aNil)))) [3, 4])) (sRet (cB bTuple (aCons (cComp false (iVal (cVar 2)) (gvName 5) (cTest (cBin (wEq true) (cBin wIx (cVar 5) (cK (.int 0))) (cTup aNil))) (bOne (cVar 5)) [5]) aNil))))
def N_with_file : List Str := ["disk", "name", "content"]
def s_with_file (G_without : Gs) : Sv := (sRet (cB bTuple (aCons (cB (bSorted2 false) (aCons (cLst false (aStar (cCall G_without (aCons (cVar 0) (aCons (cVar 1) aNil))) (aCons (cTup (aCons (cTup (aCons (cVar 1) aNil)) (aCons (cVar 2) aNil))) aNil))) aNil)) aNil)))
def N_joined : List Str := ["disk", "name", "other", "found", "names", "content"]
def s_joined (G_without : Gs) : Sv := (sSeq (sSet 3 (cLst true aNil)) (sSeq (sFor (iVal (cCall G_without (aCons (cVar 0) (aCons (cVar 2) aNil)))) (gvTup 2 (gvCons (gvName 4) (gvCons (gvName 5) gvNil))) (sDrop (cMe ["list"] (fun _ => mAppend) (cVar 3) (aCons (cTup (aCons (cIfE (cTest (cBin (wIn false) (cVar 1) (cVar 4))) (cB bTuple (aCons (cB (bSorted2 false) (aCons (cLst false (aStar (cVar 4) (aCons (cVar 2) aNil))) aNil)) aNil)) (cVar 4)) (aCons (cVar 5) aNil))) aNil)))) (sRet (cB bTuple (aCons (cB (bSorted2 false) (aCons (cVar 3) aNil)) aNil)))))
def N_written : List Str := ["disk", "name", "content", "names", "own"]
def s_written (G_shown G_with_file : Gs) : Sv := (sSeq (sIf (cTest (cIsN false (cCall G_shown (aCons (cVar 0) (aCons (cVar 1) aNil))))) (sRet (cCall G_with_file (aCons (cVar 0) (aCons (cVar 1) (aCons (cVar 2) aNil))))) sNil) (sRet (cB bTuple (aCons (cComp false (iVal (cVar 0)) (gvTup 2 (gvCons (gvName 3) (gvCons (gvName 4) gvNil))) tvYes (bOne (cTup (aCons (cVar 3) (aCons (cIfE (cTest (cBin (wIn false) (cVar 1) (cVar 3))) (cVar 2) (cVar 4)) aNil)))) [3, 4]) aNil))))
def N_pair_done : List Str := ["disk", "word", "name", "other", "later"]
def s_pair_done (G_without G_joined G_are_same G_with_file G_shown G_written : Gs) : Sv := (sSeq (sIf (cTest (cBin (wEq false) (cVar 1) (cK (.str "copy")))) (sRet (cCall G_written (aCons (cVar 0) (aCons (cVar 3) (aCons (cCall G_shown (aCons (cVar 0) (aCons (cVar 2) aNil))) aNil))))) sNil) (sSeq (sIf (cTest (cBin (wEq false) (cVar 1) (cK (.str "renew")))) (sRet (cCall G_with_file (aCons (cVar 0) (aCons (cVar 3) (aCons (cCall G_shown (aCons (cVar 0) (aCons (cVar 2) aNil))) aNil))))) sNil) (sSeq (sIf (cTest (cCall G_are_same (aCons (cVar 0) (aCons (cVar 2) (aCons (cVar 3) aNil))))) (sRet (cVar 0)) sNil) (sSeq (sSet 4 (cCall G_joined (aCons (cVar 0) (aCons (cVar 2) (aCons (cVar 3) aNil))))) (sRet (cIfE (cTest (cBin (wEq false) (cVar 1) (cK (.str "move")))) (cCall G_without (aCons (cVar 4) (aCons (cVar 2) aNil))) (cVar 4)))))))
def N_done : List Str := ["disk", "deed"]
def s_done (G_pair_done G_without G_shown G_with_file G_written : Gs) : Sv := (sSeq (sIf (cTest (cBin (wEq false) (cBin wIx (cVar 1) (cK (.int 0))) (cK (.str "write")))) (sRet (cCall G_written (aCons (cVar 0) (aCons (cBin wIx (cVar 1) (cK (.int 1))) (aCons (cBin wIx (cVar 1) (cK (.int 2))) aNil))))) sNil) (sSeq (sIf (cTest (cBin (wEq false) (cBin wIx (cVar 1) (cK (.int 0))) (cK (.str "save")))) (sRet (cCall G_with_file (aCons (cVar 0) (aCons (cBin wIx (cVar 1) (cK (.int 1))) (aCons (cBin wIx (cVar 1) (cK (.int 2))) aNil))))) sNil) (sSeq (sIf (cTest (cIsN false (cCall G_shown (aCons (cVar 0) (aCons (cBin wIx (cVar 1) (cK (.int 1))) aNil))))) (sRet (cVar 0)) sNil) (sSeq (sIf (cTest (cBin (wEq false) (cBin wIx (cVar 1) (cK (.int 0))) (cK (.str "remove")))) (sRet (cB bTuple (aCons (cB (bSorted2 false) (aCons (cCall G_without (aCons (cVar 0) (aCons (cBin wIx (cVar 1) (cK (.int 1))) aNil))) aNil)) aNil))) sNil) (sRet (cB bTuple (aCons (cB (bSorted2 false) (aCons (cCall G_pair_done (aCons (cVar 0) (aCons (cBin wIx (cVar 1) (cK (.int 0))) (aCons (cBin wIx (cVar 1) (cK (.int 1))) (aCons (cBin wIx (cVar 1) (cK (.int 2))) aNil))))) aNil)) aNil)))))))
def N_after : List Str := ["disk", "program", "deed"]
def s_after (G_done : Gs) : Sv := (sSeq (sFor (iVal (cVar 1)) (gvName 2) (sSet 0 (cCall G_done (aCons (cVar 0) (aCons (cVar 2) aNil))))) (sRet (cVar 0)))
def N_L_held : List Str := ["disk", "owner", "contents", "number", "names", "content", "name"]
def s_L_held : Sv := (sSeq (sPar [1, 2] (aCons cDict (aCons cDict aNil))) (sSeq (sFor (iEnumV (aCons (cVar 0) aNil)) (gvTup 2 (gvCons (gvName 3) (gvCons (gvTup 2 (gvCons (gvName 4) (gvCons (gvName 5) gvNil))) gvNil))) (sSeq (sPut (cVar 2) (cVar 3) (cVar 5)) (sFor (iVal (cVar 4)) (gvName 6) (sPut (cVar 1) (cVar 6) (cVar 3))))) (sRet (cTup (aCons (cVar 1) (aCons (cVar 2) aNil))))))
def N_L_shown : List Str := ["held", "owner", "contents", "groups", "name", "number"]
def s_L_shown : Sv := (sSeq (sAsg (gvTup 2 (gvCons (gvName 1) (gvCons (gvName 2) gvNil))) (cVar 0)) (sSeq (sSet 3 cDict) (sSeq (sFor (iVal (cB (bSorted2 false) (aCons (cVar 1) aNil))) (gvName 4) (sPut (cVar 3) (cBin wIx (cVar 1) (cVar 4)) (cBin (wAdd false) (cMe ["dict"] (fun _ => mGet) (cVar 3) (aCons (cBin wIx (cVar 1) (cVar 4)) (aCons (cTup aNil) aNil))) (cTup (aCons (cVar 4) aNil))))) (sRet (cB bTuple (aCons (cB (bSorted2 false) (aCons (cLock 3 (cComp false (iVal (cVar 3)) (gvName 5) tvYes (bOne (cTup (aCons (cBin wIx (cVar 3) (cVar 5)) (aCons (cBin wIx (cVar 2) (cVar 5)) aNil)))) [5])) aNil)) aNil))))))
def N_L_fresh : List Str := ["held", "name", "content", "owner", "contents", "number"]
def s_L_fresh : Sv := (sSeq (sAsg (gvTup 2 (gvCons (gvName 3) (gvCons (gvName 4) gvNil))) (cVar 0)) (sSeq (sSet 5 (cB bLen (aCons (cVar 4) aNil))) (sSeq (sPut (cVar 4) (cVar 5) (cVar 2)) (sPut (cVar 3) (cVar 1) (cVar 5)))))
def N_L_do : List Str := ["held", "deed", "owner", "contents", "word", "name", "last"]
def s_L_do (G_L_fresh : Gs) : Sv := (sSeq (sAsg (gvTup 2 (gvCons (gvName 2) (gvCons (gvName 3) gvNil))) (cVar 0)) (sSeq (sPar [4, 5, 6] (aCons (cBin wIx (cVar 1) (cK (.int 0))) (aCons (cBin wIx (cVar 1) (cK (.int 1))) (aCons (cBin wIx (cVar 1) (cUn uNeg (cK (.int 1)))) aNil)))) (sIf (cOr (cTest (cBin (wEq false) (cVar 4) (cK (.str "save")))) (cAnd (cTest (cBin (wEq false) (cVar 4) (cK (.str "write")))) (cTest (cBin (wIn true) (cVar 5) (cVar 2))))) (sDrop (cCall G_L_fresh (aCons (cVar 0) (aCons (cVar 5) (aCons (cVar 6) aNil))))) (sIf (cTest (cBin (wEq false) (cVar 4) (cK (.str "write")))) (sPut (cVar 3) (cBin wIx (cVar 2) (cVar 5)) (cVar 6)) (sIf (cTest (cBin (wIn false) (cVar 5) (cVar 2))) (sIf (cTest (cBin (wEq false) (cVar 4) (cK (.str "remove")))) (sDrop (cMe ["list", "dict"] (fun T => if T = "list" then mPopL else mPopD) (cVar 2) (aCons (cVar 5) aNil))) (sIf (cOr (cTest (cBin (wEq false) (cVar 4) (cK (.str "renew")))) (cAnd (cTest (cBin (wEq false) (cVar 4) (cK (.str "copy")))) (cTest (cBin (wIn true) (cVar 6) (cVar 2))))) (sDrop (cCall G_L_fresh (aCons (cVar 0) (aCons (cVar 6) (aCons (cBin wIx (cVar 3) (cBin wIx (cVar 2) (cVar 5))) aNil))))) (sIf (cTest (cBin (wEq false) (cVar 4) (cK (.str "copy")))) (sPut (cVar 3) (cBin wIx (cVar 2) (cVar 6)) (cBin wIx (cVar 3) (cBin wIx (cVar 2) (cVar 5)))) (sIf (cOr (cTest (cBin (wIn true) (cVar 6) (cVar 2))) (cTest (cBin (wEq true) (cBin wIx (cVar 2) (cVar 6)) (cBin wIx (cVar 2) (cVar 5))))) (sSeq (sPut (cVar 2) (cVar 6) (cBin wIx (cVar 2) (cVar 5))) (sIf (cTest (cBin (wEq false) (cVar 4) (cK (.str "move")))) (sDrop (cMe ["list", "dict"] (fun T => if T = "list" then mPopL else mPopD) (cVar 2) (aCons (cVar 5) aNil))) sNil)) sNil)))) sNil)))))
def N_L_after : List Str := ["disk", "program", "held", "deed"]
def s_L_after (G_L_shown G_L_do G_L_held : Gs) : Sv := (sSeq (sSet 2 (cCall G_L_held (aCons (cVar 0) aNil))) (sSeq (sFor (iVal (cVar 1)) (gvName 3) (sDrop (cCall G_L_do (aCons (cVar 2) (aCons (cVar 3) aNil))))) (sRet (cCall G_L_shown (aCons (cVar 2) aNil)))))
def N_L_content_of : List Str := ["disk", "name", "names", "content"]
def s_L_content_of : Sv := (sSeq (sFor (iVal (cVar 0)) (gvTup 2 (gvCons (gvName 2) (gvCons (gvName 3) gvNil))) (sIf (cTest (cBin (wIn false) (cVar 1) (cVar 2))) (sRet (cVar 3)) sNil)) (sRet (cK .non)))
def N_L_program : List Str := ["tape", "names", "most", "found", "turn"]
def s_L_program (G_L_draw G_L_deed : Gs) : Sv := (sSeq (sSet 3 (cTup aNil)) (sSeq (sFor (iRange1 (aCons (cCall G_L_draw (aCons (cVar 0) (aCons (cBin (wAdd false) (cVar 2) (cK (.int 1))) aNil))) aNil)) (gvName 4) (sSet 3 (cBin (wAdd false) (cVar 3) (cTup (aCons (cCall G_L_deed (aCons (cVar 0) (aCons (cVar 1) aNil))) aNil))))) (sRet (cVar 3))))
def N_form_of : List Str := ["disk", "names", "content"]
def s_form_of : Sv := (sRet (cB bTuple (aCons (cComp false (iVal (cVar 0)) (gvTup 2 (gvCons (gvName 1) (gvCons (gvName 2) gvNil))) tvYes (bOne (cVar 1)) [1, 2]) aNil)))
def N_names_of : List Str := ["disk", "names", "content", "name"]
def s_names_of : Sv := (sRet (cB bTuple (aCons (cB (bSorted2 false) (aCons (cComp false (iVal (cVar 0)) (gvTup 2 (gvCons (gvName 1) (gvCons (gvName 2) gvNil))) tvYes (bIn (iVal (cVar 1)) (gvName 3) tvYes [3] (cVar 3)) [1, 2, 3]) aNil)) aNil)))
def N_all_forms : List Str := ["names", "found", "name", "longer", "form", "at"]
def s_all_forms : Sv := (sSeq (sSet 1 (cLst false (aCons (cTup aNil) aNil))) (sSeq (sFor (iVal (cVar 0)) (gvName 2) (sSeq (sSet 3 (cLst true aNil)) (sSeq (sFor (iVal (cVar 1)) (gvName 4) (sSeq (sSet 3 (cBin (wAdd true) (cVar 3) (cLst false (aCons (cVar 4) (aCons (cTup (aStar (cVar 4) (aCons (cTup (aCons (cVar 2) aNil)) aNil))) aNil))))) (sFor (iRange1 (aCons (cB bLen (aCons (cVar 4) aNil)) aNil)) (gvName 5) (sDrop (cMe ["list"] (fun _ => mAppend) (cVar 3) (aCons (cTup (aStar (cSl false (cVar 4) none (some (cVar 5))) (aCons (cTup (aStar (cBin wIx (cVar 4) (cVar 5)) (aCons (cVar 2) aNil))) (aStar (cSl false (cVar 4) (some (cBin (wAdd false) (cVar 5) (cK (.int 1)))) none) aNil)))) aNil)))))) (sSet 1 (cVar 3))))) (sRet (cB (bSorted2 false) (aCons (cComp false (iVal (cVar 1)) (gvName 4) tvYes (bOne (cB bTuple (aCons (cB (bSorted2 false) (aCons (cVar 4) aNil)) aNil))) [4]) aNil)))))
def N_L_groupings : List Str := ["names", "found", "name", "longer", "row", "at"]
def s_L_groupings : Sv := (sSeq (sSet 1 (cLst false (aCons (cTup aNil) aNil))) (sSeq (sFor (iVal (cVar 0)) (gvName 2) (sSeq (sSet 3 (cB (bList true) (aCons (cVar 1) aNil))) (sSeq (sFor (iVal (cVar 1)) (gvName 4) (sSeq (sDrop (cMe ["list"] (fun _ => mAppend) (cVar 3) (aCons (cBin (wAdd false) (cVar 4) (cTup (aCons (cTup (aCons (cVar 2) aNil)) aNil))) aNil))) (sFor (iRange1 (aCons (cB bLen (aCons (cVar 4) aNil)) aNil)) (gvName 5) (sDrop (cMe ["list"] (fun _ => mAppend) (cVar 3) (aCons (cBin (wAdd false) (cBin (wAdd false) (cSl false (cVar 4) none (some (cVar 5))) (cTup (aCons (cBin (wAdd false) (cBin wIx (cVar 4) (cVar 5)) (cTup (aCons (cVar 2) aNil))) aNil))) (cSl false (cVar 4) (some (cBin (wAdd false) (cVar 5) (cK (.int 1)))) none)) aNil)))))) (sSet 1 (cVar 3))))) (sRet (cVar 1))))
def N_further_names : List Str := ["names", "many", "some", "one", "other", "name"]
def s_further_names : Sv := (sSeq (sSet 2 (cComp false (iVal (cLst false (aCons (cK (.str "")) (aStarS (cK c_LETTERS) aNil)))) (gvName 3) tvYes (bIn (iVal (cK c_LETTERS)) (gvName 4) tvYes [4] (cBin (wAdd false) (cVar 3) (cVar 4))) [3, 4])) (sRet (cSl false (cComp false (iVal (cVar 2)) (gvName 5) (cTest (cBin (wIn true) (cVar 5) (cVar 0))) (bOne (cVar 5)) [5]) none (some (cVar 1)))))
def N_own_contents : List Str := ["programs", "many", "there", "program", "deed", "content"]
def s_own_contents : Sv := (sSeq (sSet 2 (cComp false (iVal (cVar 0)) (gvName 3) tvYes (bIn (iVal (cVar 3)) (gvName 4) tvYes [4] (cBin wIx (cVar 4) (cUn uNeg (cK (.int 1))))) [3, 4])) (sRet (cSl false (cComp false (iRange1 (aCons (cBin (wAdd false) (cBin (wAdd false) (cB bLen (aCons (cVar 2) aNil)) (cVar 1)) (cK (.int 1))) aNil)) (gvName 5) (cTest (cBin (wIn true) (cVar 5) (cVar 2))) (bOne (cVar 5)) [5]) none (some (cVar 1)))))
def N_own_disk : List Str := ["form", "programs", "marked", "names", "further", "contents", "files", "at", "group", "own"]
def s_own_disk (G_own_contents G_further_names G_mentioned : Gs) : Sv := (sSeq (sSet 3 (cCall G_mentioned (aStar (cVar 1) aNil))) (sSeq (sPar [4, 5] (aCons (cCall G_further_names (aCons (cVar 3) (aCons (cB bLen (aCons (cVar 0) aNil)) aNil))) (aCons (cCall G_own_contents (aCons (cVar 1) (aCons (cB bLen (aCons (cVar 0) aNil)) aNil))) aNil))) (sSeq (sSet 6 (cLst true aNil)) (sSeq (sFor (iEnumV (aCons (cVar 0) aNil)) (gvTup 2 (gvCons (gvName 7) (gvCons (gvName 8) gvNil))) (sSeq (sSet 9 (cIfE (cTest (cBin (wIn false) (cVar 7) (cVar 2))) (cTup (aStar (cVar 8) (aCons (cBin wIx (cVar 4) (cVar 7)) aNil))) (cVar 8))) (sDrop (cMe ["list"] (fun _ => mAppend) (cVar 6) (aCons (cTup (aCons (cB bTuple (aCons (cB (bSorted2 false) (aCons (cVar 9) aNil)) aNil)) (aCons (cBin wIx (cVar 5) (cVar 7)) aNil))) aNil))))) (sRet (cB bTuple (aCons (cB (bSorted2 false) (aCons (cVar 6) aNil)) aNil)))))))
def N_alike : List Str := ["one", "other", "disk"]
def s_alike (G_own_disks G_after : Gs) : Sv := (sRet (cB (bBools fun bs => bs.all id) (aCons (cComp false (iVal (cCall G_own_disks (aCons (cVar 0) (aCons (cVar 1) aNil)))) (gvName 2) tvYes (bOne (cBin (wEq false) (cCall G_after (aCons (cVar 2) (aCons (cVar 0) aNil))) (cCall G_after (aCons (cVar 2) (aCons (cVar 1) aNil))))) [2]) aNil)))
def N_L_mentioned : List Str := ["program", "found", "deed"]
def s_L_mentioned : Sv := (sSeq (sSet 1 cDict) (sSeq (sFor (iVal (cVar 0)) (gvName 2) (sSeq (sPut (cVar 1) (cBin wIx (cVar 2) (cK (.int 1))) (cK (.bl true))) (sIf (cTest (cBin (wIn true) (cBin wIx (cVar 2) (cK (.int 0))) (cTup (aCons (cK (.str "write")) (aCons (cK (.str "save")) (aCons (cK (.str "remove")) aNil)))))) (sPut (cVar 1) (cBin wIx (cVar 2) (cK (.int 2))) (cK (.bl true))) sNil))) (sRet (cB (bSorted2 false) (aCons (cVar 1) aNil)))))
def N_L_labelled : List Str := ["row", "marked", "files", "at", "group", "more"]
def s_L_labelled : Sv := (sSeq (sSet 2 (cLst true aNil)) (sSeq (sFor (iEnumV (aCons (cVar 0) aNil)) (gvTup 2 (gvCons (gvName 3) (gvCons (gvName 4) gvNil))) (sSeq (sSet 5 (cIfE (cTest (cBin (wIn false) (cVar 3) (cVar 1))) (cTup (aCons (cBin (wAdd false) (cK (.str "z")) (cBin wIx (cK (.str "abcdefghij")) (cVar 3))) aNil)) (cTup aNil))) (sDrop (cMe ["list"] (fun _ => mAppend) (cVar 2) (aCons (cTup (aCons (cB bTuple (aCons (cB (bSorted2 false) (aCons (cBin (wAdd false) (cVar 4) (cVar 5)) aNil)) aNil)) (aCons (cBin (wAdd false) (cK (.int 500)) (cVar 3)) aNil))) aNil))))) (sRet (cB bTuple (aCons (cB (bSorted2 false) (aCons (cVar 2) aNil)) aNil)))))
def N_L_same : List Str := ["one", "other", "disk"]
def s_L_same (G_L_proving G_L_mentioned G_L_after : Gs) : Sv := (sSeq (sFor (iVal (cCall G_L_proving (aCons (cCall G_L_mentioned (aCons (cBin (wAdd false) (cVar 0) (cVar 1)) aNil)) aNil))) (gvName 2) (sIf (cTest (cBin (wEq true) (cCall G_L_after (aCons (cVar 2) (aCons (cVar 0) aNil))) (cCall G_L_after (aCons (cVar 2) (aCons (cVar 1) aNil))))) (sRet (cK (.bl false))) sNil)) (sRet (cK (.bl true))))
def N_L_near : List Str := ["tape", "program", "names", "at", "way", "deed"]
def s_L_near (G_L_deed G_L_draw : Gs) : Sv := (sSeq (sPar [3, 4] (aCons (cCall G_L_draw (aCons (cVar 0) (aCons (cBin (wAdd false) (cB bLen (aCons (cVar 1) aNil)) (cK (.int 1))) aNil))) (aCons (cCall G_L_draw (aCons (cVar 0) (aCons (cK (.int 4)) aNil))) aNil))) (sSeq (sSet 5 (cCall G_L_deed (aCons (cVar 0) (aCons (cVar 2) aNil)))) (sSeq (sIf (cAnd (cTest (cBin (wEq false) (cVar 4) (cK (.int 0)))) (cTest (cBin wLt (cB bLen (aCons (cVar 1) aNil)) (cK (.int 8))))) (sRet (cBin (wAdd false) (cBin (wAdd false) (cSl false (cVar 1) none (some (cVar 3))) (cTup (aCons (cVar 5) aNil))) (cSl false (cVar 1) (some (cVar 3)) none))) sNil) (sSeq (sIf (cTest (cBin (wEq false) (cVar 4) (cK (.int 1)))) (sRet (cBin (wAdd false) (cSl false (cVar 1) none (some (cVar 3))) (cSl false (cVar 1) (some (cBin (wAdd false) (cVar 3) (cK (.int 1)))) none))) sNil) (sSeq (sIf (cAnd (cTest (cBin (wEq false) (cVar 4) (cK (.int 2)))) (cTest (cBin wLt (cVar 3) (cB bLen (aCons (cVar 1) aNil))))) (sRet (cBin (wAdd false) (cBin (wAdd false) (cSl false (cVar 1) none (some (cVar 3))) (cTup (aCons (cVar 5) aNil))) (cSl false (cVar 1) (some (cBin (wAdd false) (cVar 3) (cK (.int 1)))) none))) sNil) (sRet (cBin (wAdd false) (cRev false (cSl false (cVar 1) none (some (cVar 3)))) (cSl false (cVar 1) (some (cVar 3)) none))))))))
def N_marks : List Str := ["many", "found", "place", "own"]
def s_marks : Sv := (sSeq (sSet 1 (cLst false (aCons (cTup aNil) aNil))) (sSeq (sFor (iRange1 (aCons (cVar 0) aNil)) (gvName 2) (sSet 1 (cBin (wAdd false) (cVar 1) (cComp false (iVal (cVar 1)) (gvName 3) tvYes (bOne (cTup (aStar (cVar 3) (aCons (cVar 2) aNil)))) [3])))) (sRet (cVar 1))))
def N_telling_disk : List Str := ["one", "other", "best", "form", "marked", "disk"]
def s_telling_disk (G_all_forms G_mentioned G_marks G_names_of G_after G_own_disk : Gs) : Sv := (sSeq (sSet 2 (cK .non)) (sSeq (sFor (iVal (cCall G_all_forms (aCons (cCall G_mentioned (aCons (cVar 0) (aCons (cVar 1) aNil))) aNil))) (gvName 3) (sFor (iVal (cCall G_marks (aCons (cB bLen (aCons (cVar 3) aNil)) aNil))) (gvName 4) (sSeq (sSet 5 (cCall G_own_disk (aCons (cVar 3) (aCons (cTup (aCons (cVar 0) (aCons (cVar 1) aNil))) (aCons (cVar 4) aNil))))) (sIf (cOr (cTest (cIsN false (cVar 2))) (cTest (cBin wLt (cB bLen (aCons (cCall G_names_of (aCons (cVar 5) aNil)) aNil)) (cB bLen (aCons (cCall G_names_of (aCons (cVar 2) aNil)) aNil))))) (sIf (cTest (cBin (wEq true) (cCall G_after (aCons (cVar 5) (aCons (cVar 0) aNil))) (cCall G_after (aCons (cVar 5) (aCons (cVar 1) aNil))))) (sSet 2 (cVar 5)) sNil) sNil)))) (sRet (cVar 2))))
def N_L_least : List Str := ["one", "other", "best", "row", "chosen", "at", "marked", "disk"]
def s_L_least (G_L_groupings G_L_mentioned G_L_count G_L_after G_L_labelled : Gs) : Sv := (sSeq (sSet 2 (cK .non)) (sSeq (sFor (iVal (cCall G_L_groupings (aCons (cCall G_L_mentioned (aCons (cBin (wAdd false) (cVar 0) (cVar 1)) aNil)) aNil))) (gvName 3) (sSeq (sSet 4 (cLst false (aCons (cTup aNil) aNil))) (sSeq (sFor (iRange1 (aCons (cB bLen (aCons (cVar 3) aNil)) aNil)) (gvName 5) (sSet 4 (cBin (wAdd false) (cVar 4) (cComp false (iVal (cVar 4)) (gvName 6) tvYes (bOne (cBin (wAdd false) (cVar 6) (cTup (aCons (cVar 5) aNil)))) [6])))) (sFor (iVal (cVar 4)) (gvName 6) (sSeq (sSet 7 (cCall G_L_labelled (aCons (cVar 3) (aCons (cVar 6) aNil)))) (sIf (cOr (cTest (cIsN false (cVar 2))) (cTest (cBin wLt (cCall G_L_count (aCons (cVar 7) aNil)) (cVar 2)))) (sIf (cTest (cBin (wEq true) (cCall G_L_after (aCons (cVar 7) (aCons (cVar 0) aNil))) (cCall G_L_after (aCons (cVar 7) (aCons (cVar 1) aNil))))) (sSet 2 (cCall G_L_count (aCons (cVar 7) aNil))) sNil) sNil)))))) (sRet (cVar 2))))
def N_commute : List Str := ["one", "other"]
def s_commute (G_alike : Gs) : Sv := (sRet (cCall G_alike (aCons (cTup (aStar (cVar 0) (aStar (cVar 1) aNil))) (aCons (cTup (aStar (cVar 1) (aStar (cVar 0) aNil))) aNil))))
def N_needless : List Str := ["program", "at"]
def s_needless (G_alike : Gs) : Sv := (sRet (cComp false (iRange1 (aCons (cB bLen (aCons (cVar 0) aNil)) aNil)) (gvName 1) (cTest (cCall G_alike (aCons (cVar 0) (aCons (cBin (wAdd false) (cSl false (cVar 0) none (some (cVar 1))) (cSl false (cVar 0) (some (cBin (wAdd false) (cVar 1) (cK (.int 1)))) none)) aNil)))) (bOne (cVar 1)) [1]))
def N_pairs_of : List Str := ["program", "names", "one", "other"]
def s_pairs_of (G_mentioned : Gs) : Sv := (sSeq (sSet 1 (cCall G_mentioned (aCons (cVar 0) aNil))) (sRet (cComp false (iVal (cVar 1)) (gvName 2) tvYes (bIn (iVal (cVar 1)) (gvName 3) (cTest (cBin wLt (cVar 2) (cVar 3))) [3] (cTup (aCons (cVar 2) (aCons (cVar 3) aNil)))) [2, 3])))
def N_sure_shared : List Str := ["program", "disks", "disk", "pair"]
def s_sure_shared (G_pairs_of G_are_same G_own_disks G_after : Gs) : Sv := (sSeq (sSet 1 (cComp false (iVal (cCall G_own_disks (aCons (cVar 0) aNil))) (gvName 2) tvYes (bOne (cCall G_after (aCons (cVar 2) (aCons (cVar 0) aNil)))) [2])) (sRet (cComp false (iVal (cCall G_pairs_of (aCons (cVar 0) aNil))) (gvName 3) (cTest (cB (bBools fun bs => bs.all id) (aCons (cComp false (iVal (cVar 1)) (gvName 2) tvYes (bOne (cCall G_are_same (aCons (cVar 2) (aCons (cBin wIx (cVar 3) (cK (.int 0))) (aCons (cBin wIx (cVar 3) (cK (.int 1))) aNil))))) [2]) aNil))) (bOne (cVar 3)) [3])))
def N_never_shared : List Str := ["program", "disks", "disk", "pair"]
def s_never_shared (G_pairs_of G_are_same G_own_disks G_after : Gs) : Sv := (sSeq (sSet 1 (cComp false (iVal (cCall G_own_disks (aCons (cVar 0) aNil))) (gvName 2) tvYes (bOne (cCall G_after (aCons (cVar 2) (aCons (cVar 0) aNil)))) [2])) (sRet (cComp false (iVal (cCall G_pairs_of (aCons (cVar 0) aNil))) (gvName 3) (cNot (cTest (cB (bBools fun bs => bs.any id) (aCons (cComp false (iVal (cVar 1)) (gvName 2) tvYes (bOne (cCall G_are_same (aCons (cVar 2) (aCons (cBin wIx (cVar 3) (cK (.int 0))) (aCons (cBin wIx (cVar 3) (cK (.int 1))) aNil))))) [2]) aNil)))) (bOne (cVar 3)) [3])))
def N_L_together : List Str := ["disk", "name", "other", "names", "content"]
def s_L_together : Sv := (sRet (cBin (wEq true) (cComp false (iVal (cVar 0)) (gvTup 2 (gvCons (gvName 3) (gvCons (gvName 4) gvNil))) (cAnd (cTest (cBin (wIn false) (cVar 1) (cVar 3))) (cTest (cBin (wIn false) (cVar 2) (cVar 3)))) (bOne (cK (.int 1))) [3, 4]) (cLst false aNil)))
def N_sure_names : List Str := ["program", "disks", "disk", "name"]
def s_sure_names (G_mentioned G_shown G_own_disks G_after : Gs) : Sv := (sSeq (sSet 1 (cComp false (iVal (cCall G_own_disks (aCons (cVar 0) aNil))) (gvName 2) tvYes (bOne (cCall G_after (aCons (cVar 2) (aCons (cVar 0) aNil)))) [2])) (sRet (cComp false (iVal (cCall G_mentioned (aCons (cVar 0) aNil))) (gvName 3) (cTest (cB (bBools fun bs => bs.all id) (aCons (cComp false (iVal (cVar 1)) (gvName 2) tvYes (bOne (cIsN true (cCall G_shown (aCons (cVar 2) (aCons (cVar 3) aNil))))) [2]) aNil))) (bOne (cVar 3)) [3])))
def N_gone_names : List Str := ["program", "disks", "disk", "name"]
def s_gone_names (G_mentioned G_shown G_own_disks G_after : Gs) : Sv := (sSeq (sSet 1 (cComp false (iVal (cCall G_own_disks (aCons (cVar 0) aNil))) (gvName 2) tvYes (bOne (cCall G_after (aCons (cVar 2) (aCons (cVar 0) aNil)))) [2])) (sRet (cComp false (iVal (cCall G_mentioned (aCons (cVar 0) aNil))) (gvName 3) (cTest (cB (bBools fun bs => bs.all id) (aCons (cComp false (iVal (cVar 1)) (gvName 2) tvYes (bOne (cIsN false (cCall G_shown (aCons (cVar 2) (aCons (cVar 3) aNil))))) [2]) aNil))) (bOne (cVar 3)) [3])))
def N_partners : List Str := ["program", "disk", "name", "names", "group", "content", "own"]
def s_partners (G_mentioned : Gs) : Sv := (sSeq (sSet 3 (cCall G_mentioned (aCons (cVar 0) aNil))) (sRet (cComp false (iVal (cVar 1)) (gvTup 2 (gvCons (gvName 4) (gvCons (gvName 5) gvNil))) (cTest (cBin (wIn false) (cVar 2) (cVar 4))) (bIn (iVal (cVar 4)) (gvName 6) (cTest (cBin (wIn true) (cVar 6) (cVar 3))) [6] (cVar 6)) [4, 5, 6])))
def N_kept_links : List Str := ["program", "found", "name", "good", "disk", "later", "own"]
def s_kept_links (G_mentioned G_own_disks G_partners G_are_same G_after : Gs) : Sv := (sSeq (sSet 1 (cLst true aNil)) (sSeq (sFor (iVal (cCall G_mentioned (aCons (cVar 0) aNil))) (gvName 2) (sSeq (sSet 3 (cK (.bl true))) (sSeq (sFor (iVal (cCall G_own_disks (aCons (cVar 0) aNil))) (gvName 4) (sSeq (sSet 5 (cCall G_after (aCons (cVar 4) (aCons (cVar 0) aNil)))) (sSet 3 (cAndV (cVar 3) (cB (bBools fun bs => bs.all id) (aCons (cComp false (iVal (cCall G_partners (aCons (cVar 0) (aCons (cVar 4) (aCons (cVar 2) aNil))))) (gvName 6) tvYes (bOne (cCall G_are_same (aCons (cVar 5) (aCons (cVar 2) (aCons (cVar 6) aNil))))) [6]) aNil)))))) (sIf (cTest (cVar 3)) (sDrop (cMe ["list"] (fun _ => mAppend) (cVar 1) (aCons (cVar 2) aNil))) sNil)))) (sRet (cVar 1))))
def N_spoiled : List Str := ["program", "found", "name", "bad", "disk", "later", "own"]
def s_spoiled (G_mentioned G_own_disks G_partners G_shown G_after : Gs) : Sv := (sSeq (sSet 1 (cLst true aNil)) (sSeq (sFor (iVal (cCall G_mentioned (aCons (cVar 0) aNil))) (gvName 2) (sSeq (sSet 3 (cK (.bl false))) (sSeq (sFor (iVal (cCall G_own_disks (aCons (cVar 0) aNil))) (gvName 4) (sSeq (sSet 5 (cCall G_after (aCons (cVar 4) (aCons (cVar 0) aNil)))) (sSet 3 (cOrV (cVar 3) (cB (bBools fun bs => bs.any id) (aCons (cComp false (iVal (cCall G_partners (aCons (cVar 0) (aCons (cVar 4) (aCons (cVar 2) aNil))))) (gvName 6) tvYes (bOne (cBin (wEq true) (cCall G_shown (aCons (cVar 5) (aCons (cVar 6) aNil))) (cCall G_shown (aCons (cVar 4) (aCons (cVar 6) aNil))))) [6]) aNil)))))) (sIf (cTest (cVar 3)) (sDrop (cMe ["list"] (fun _ => mAppend) (cVar 1) (aCons (cVar 2) aNil))) sNil)))) (sRet (cVar 1))))
def N_L_outside : List Str := ["disk", "name", "some", "found", "names", "content", "own"]
def s_L_outside : Sv := (sSeq (sSet 3 (cLst false aNil)) (sSeq (sFor (iVal (cVar 0)) (gvTup 2 (gvCons (gvName 4) (gvCons (gvName 5) gvNil))) (sIf (cTest (cBin (wIn false) (cVar 1) (cVar 4))) (sSet 3 (cComp false (iVal (cVar 4)) (gvName 6) (cTest (cBin (wIn true) (cVar 6) (cVar 2))) (bOne (cVar 6)) [6])) sNil)) (sRet (cVar 3))))
def N_is_whole : List Str := ["program", "name", "disk", "before", "last", "now"]
def s_is_whole (G_own_disks G_track G_shown G_after : Gs) : Sv := (sSeq (sFor (iVal (cCall G_own_disks (aCons (cVar 0) aNil))) (gvName 2) (sSeq (sAsg (gvTup 2 (gvCons (gvName 3) (gvCons (gvName 4) gvNil))) (cTup (aCons (cCall G_shown (aCons (cVar 2) (aCons (cVar 1) aNil))) (aCons (cCall G_shown (aCons (cCall G_after (aCons (cVar 2) (aCons (cVar 0) aNil))) (aCons (cVar 1) aNil))) aNil)))) (sIf (cAnd (cTest (cIsN true (cVar 3))) (cTest (cB (bBools fun bs => bs.any id) (aCons (cComp false (iVal (cCall G_track (aCons (cVar 2) (aCons (cVar 0) aNil)))) (gvName 5) tvYes (bOne (cBin (wIn true) (cCall G_shown (aCons (cVar 5) (aCons (cVar 1) aNil))) (cTup (aCons (cVar 3) (aCons (cVar 4) aNil))))) [5]) aNil)))) (sRet (cK (.bl false))) sNil))) (sRet (cK (.bl true))))
def N_L_cuts : List Str := ["disk", "program", "many"]
def s_L_cuts (G_L_after : Gs) : Sv := (sRet (cComp false (iRange1 (aCons (cBin (wAdd false) (cB bLen (aCons (cVar 1) aNil)) (cK (.int 1))) aNil)) (gvName 2) tvYes (bOne (cCall G_L_after (aCons (cVar 0) (aCons (cSl false (cVar 1) none (some (cVar 2))) aNil)))) [2]))
def N_run_cycle : List Str := ["disk", "program", "seen", "rows", "now"]
def s_run_cycle (G_after : Gs) : Sv := (sSeq (sPar [2, 3, 4] (aCons cDict (aCons (cLst true aNil) (aCons (cVar 0) aNil)))) (sSeq (sWhile (cTest (cBin (wIn true) (cVar 4) (cVar 2))) (sSeq (sPut (cVar 2) (cVar 4) (cB bLen (aCons (cVar 3) aNil))) (sSeq (sDrop (cMe ["list"] (fun _ => mAppend) (cVar 3) (aCons (cVar 4) aNil))) (sSet 4 (cCall G_after (aCons (cVar 4) (aCons (cVar 1) aNil))))))) (sRet (cTup (aCons (cVar 3) (aCons (cBin wIx (cVar 2) (cVar 4)) aNil))))))
def N_common : List Str := ["one", "other", "first", "second"]
def s_common : Sv := (sSeq (sPar [2, 3] (aCons (cVar 0) (aCons (cVar 1) aNil))) (sSeq (sWhile (cTest (cBin wGt (cVar 3) (cK (.int 0)))) (sPar [2, 3] (aCons (cVar 3) (aCons (cBin wMod (cVar 2) (cVar 3)) aNil)))) (sRet (cBin wDiv (cBin wMul (cVar 0) (cVar 1)) (cVar 2)))))
def N_far : List Str := ["disk", "program", "times", "rows", "first"]
def s_far (G_run_cycle : Gs) : Sv := (sSeq (sAsg (gvTup 2 (gvCons (gvName 3) (gvCons (gvName 4) gvNil))) (cCall G_run_cycle (aCons (cVar 0) (aCons (cVar 1) aNil)))) (sSeq (sIf (cTest (cBin wLt (cVar 2) (cB bLen (aCons (cVar 3) aNil)))) (sRet (cBin wIx (cVar 3) (cVar 2))) sNil) (sRet (cBin wIx (cVar 3) (cBin (wAdd false) (cVar 4) (cBin wMod (cBin wSub (cVar 2) (cVar 4)) (cBin wSub (cB bLen (aCons (cVar 3) aNil)) (cVar 4))))))))
def N_twice_same : List Str := ["program"]
def s_twice_same (G_alike : Gs) : Sv := (sRet (cCall G_alike (aCons (cVar 0) (aCons (cTup (aStar (cVar 0) (aStar (cVar 0) aNil))) aNil))))
def N_L_common : List Str := ["one", "other", "found"]
def s_L_common : Sv := (sSeq (sSet 2 (cVar 0)) (sSeq (sWhile (cTest (cBin (wEq true) (cBin wMod (cVar 2) (cVar 1)) (cK (.int 0)))) (sSet 2 (cBin (wAdd false) (cVar 2) (cVar 0)))) (sRet (cVar 2))))
def N_form_deeds : List Str := ["names", "found", "pairs", "one", "other", "name", "word"]
def s_form_deeds : Sv := (sSeq (sSet 1 (cBin (wAdd false) (cComp false (iVal (cVar 0)) (gvName 5) tvYes (bOne (cTup (aCons (cK (.str "save")) (aCons (cVar 5) (aCons (cK (.int 0)) aNil))))) [5]) (cComp false (iVal (cVar 0)) (gvName 5) tvYes (bOne (cTup (aCons (cK (.str "remove")) (aCons (cVar 5) aNil)))) [5]))) (sSeq (sSet 2 (cComp false (iVal (cVar 0)) (gvName 3) tvYes (bIn (iVal (cVar 0)) (gvName 4) (cTest (cBin (wEq true) (cVar 3) (cVar 4))) [4] (cTup (aCons (cVar 3) (aCons (cVar 4) aNil)))) [3, 4])) (sRet (cBin (wAdd false) (cVar 1) (cComp false (iVal (cVar 2)) (gvTup 2 (gvCons (gvName 3) (gvCons (gvName 4) gvNil))) tvYes (bIn (iVal (cTup (aCons (cK (.str "link")) (aCons (cK (.str "move")) aNil)))) (gvName 6) tvYes [6] (cTup (aCons (cVar 6) (aCons (cVar 3) (aCons (cVar 4) aNil))))) [3, 4, 6])))))
def N_fewest_deeds : List Str := ["form", "goal"]
def s_fewest_deeds (G_routes : Gs) : Sv := (sRet (cB bLen (aCons (cBin wIx (cCall G_routes (aCons (cVar 0) (aCons (cVar 1) aNil))) (cVar 1)) aNil)))
def N_plan : List Str := ["form", "goal"]
def s_plan (G_routes : Gs) : Sv := (sRet (cBin wIx (cCall G_routes (aCons (cVar 0) (aCons (cVar 1) aNil))) (cVar 1)))
def N_L_form : List Str := ["tape", "names", "file"]
def s_L_form (G_L_disk : Gs) : Sv := (sRet (cB bTuple (aCons (cComp false (iVal (cCall G_L_disk (aCons (cVar 0) (aCons (cVar 1) aNil)))) (gvName 2) tvYes (bOne (cBin wIx (cVar 2) (cK (.int 0)))) [2]) aNil)))
def N_L_steps : List Str := ["names", "found", "name", "other", "word"]
def s_L_steps : Sv := (sSeq (sSet 1 (cLst false aNil)) (sSeq (sFor (iVal (cVar 0)) (gvName 2) (sSeq (sSet 1 (cBin (wAdd false) (cVar 1) (cLst false (aCons (cTup (aCons (cK (.str "remove")) (aCons (cVar 2) aNil))) (aCons (cTup (aCons (cK (.str "write")) (aCons (cVar 2) (aCons (cK (.int 1)) aNil)))) (aCons (cTup (aCons (cK (.str "save")) (aCons (cVar 2) (aCons (cK (.int 1)) aNil)))) aNil)))))) (sFor (iVal (cVar 0)) (gvName 3) (sSet 1 (cBin (wAdd false) (cVar 1) (cComp false (iVal (cTup (aCons (cK (.str "link")) (aCons (cK (.str "move")) (aCons (cK (.str "copy")) (aCons (cK (.str "renew")) aNil)))))) (gvName 4) tvYes (bOne (cTup (aCons (cVar 4) (aCons (cVar 2) (aCons (cVar 3) aNil))))) [4])))))) (sRet (cVar 1))))
def N_shows_just : List Str := ["disk", "seen", "name"]
def s_shows_just (G_names_of G_shown : Gs) : Sv := (sRet (cBin (wEq false) (cComp false (iVal (cCall G_names_of (aCons (cVar 0) aNil))) (gvName 2) tvYes (bOne (cTup (aCons (cVar 2) (aCons (cCall G_shown (aCons (cVar 0) (aCons (cVar 2) aNil))) aNil)))) [2]) (cB (bList false) (aCons (cVar 1) aNil))))
def N_L_fits : List Str := ["row", "known", "group", "name"]
def s_L_fits : Sv := (sSeq (sFor (iVal (cVar 0)) (gvName 2) (sIf (cTest (cBin (wEq true) (cComp false (iVal (cVar 2)) (gvName 3) (cTest (cBin (wEq true) (cBin wIx (cVar 1) (cVar 3)) (cBin wIx (cVar 1) (cBin wIx (cVar 2) (cK (.int 0)))))) (bOne (cVar 3)) [3]) (cLst false aNil))) (sRet (cK (.bl false))) sNil)) (sRet (cK (.bl true))))
def N_L_disk_of : List Str := ["row", "known", "group"]
def s_L_disk_of : Sv := (sRet (cB bTuple (aCons (cB (bSorted2 false) (aCons (cComp false (iVal (cVar 0)) (gvName 2) tvYes (bOne (cTup (aCons (cB bTuple (aCons (cB (bSorted2 false) (aCons (cVar 2) aNil)) aNil)) (aCons (cBin wIx (cVar 1) (cBin wIx (cVar 2) (cK (.int 0)))) aNil)))) [2]) aNil)) aNil)))
def N_fill : List Str := ["groups", "names", "apart", "most", "name", "at", "found"]
def s_fill (G_fill G_fits : Gs) : Sv := (sSeq (sIf (cTest (cBin (wEq false) (cVar 1) (cTup aNil))) (sRet (cVar 0)) sNil) (sSeq (sSet 4 (cBin wIx (cVar 1) (cK (.int 0)))) (sSeq (sFor (iRange1 (aCons (cB bLen (aCons (cVar 0) aNil)) aNil)) (gvName 5) (sIf (cTest (cCall G_fits (aCons (cVar 0) (aCons (cVar 5) (aCons (cVar 4) (aCons (cVar 2) aNil)))))) (sSeq (sSet 6 (cCall G_fill (aCons (cTup (aStar (cSl false (cVar 0) none (some (cVar 5))) (aCons (cTup (aStar (cBin wIx (cVar 0) (cVar 5)) (aCons (cVar 4) aNil))) (aStar (cSl false (cVar 0) (some (cBin (wAdd false) (cVar 5) (cK (.int 1)))) none) aNil)))) (aCons (cSl false (cVar 1) (some (cK (.int 1))) none) (aCons (cVar 2) (aCons (cVar 3) aNil)))))) (sIf (cTest (cIsN true (cVar 6))) (sRet (cVar 6)) sNil)) sNil)) (sSeq (sIf (cTest (cBin wLt (cB bLen (aCons (cVar 0) aNil)) (cVar 3))) (sRet (cCall G_fill (aCons (cTup (aStar (cVar 0) (aCons (cTup (aCons (cVar 4) aNil)) aNil))) (aCons (cSl false (cVar 1) (some (cK (.int 1))) none) (aCons (cVar 2) (aCons (cVar 3) aNil)))))) sNil) (sRet (cK .non))))))
def N_fewest_groups : List Str := ["names", "apart", "most", "found", "name"]
def s_fewest_groups (G_fill : Gs) : Sv := (sSeq (sFor (iRange1 (aCons (cBin (wAdd false) (cB bLen (aCons (cVar 0) aNil)) (cK (.int 1))) aNil)) (gvName 2) (sSeq (sSet 3 (cCall G_fill (aCons (cTup aNil) (aCons (cVar 0) (aCons (cVar 1) (aCons (cVar 2) aNil)))))) (sIf (cTest (cIsN true (cVar 3))) (sRet (cVar 3)) sNil))) (sRet (cB bTuple (aCons (cComp false (iVal (cVar 0)) (gvName 4) tvYes (bOne (cTup (aCons (cVar 4) aNil))) [4]) aNil))))
def N_fewest_files : List Str := ["contents", "apart"]
def s_fewest_files (G_arranged : Gs) : Sv := (sRet (cB bLen (aCons (cCall G_arranged (aCons (cVar 0) (aCons (cVar 1) aNil))) aNil)))
def N_is_program : List Str := ["value", "deed"]
def s_is_program (G_mentioned G_is_deed : Gs) : Sv := (sSeq (sIf (cOr (cNot (cTest (cIsi ["tuple"] (cVar 0)))) (cOr (cTest (cBin wGt (cB bLen (aCons (cVar 0) aNil)) (cK c_MOST_DEEDS))) (cNot (cTest (cB (bBools fun bs => bs.all id) (aCons (cComp false (iVal (cVar 0)) (gvName 1) tvYes (bOne (cCall G_is_deed (aCons (cVar 1) aNil))) [1]) aNil)))))) (sRet (cK (.bl false))) sNil) (sRet (cBin wLe (cB bLen (aCons (cCall G_mentioned (aCons (cVar 0) aNil)) aNil)) (cK c_MOST_MENTIONED))))
def N_L_renamed : List Str := ["deed", "names"]
def s_L_renamed : Sv := (sSeq (sIf (cTest (cBin (wIn false) (cBin wIx (cVar 0) (cK (.int 0))) (cTup (aCons (cK (.str "link")) (aCons (cK (.str "move")) (aCons (cK (.str "copy")) (aCons (cK (.str "renew")) aNil))))))) (sRet (cTup (aCons (cBin wIx (cVar 0) (cK (.int 0))) (aCons (cBin wIx (cVar 1) (cBin wIx (cVar 0) (cK (.int 1)))) (aCons (cBin wIx (cVar 1) (cBin wIx (cVar 0) (cK (.int 2)))) aNil))))) sNil) (sRet (cBin (wAdd false) (cTup (aCons (cBin wIx (cVar 0) (cK (.int 0))) (aCons (cBin wIx (cVar 1) (cBin wIx (cVar 0) (cK (.int 1)))) aNil))) (cSl false (cVar 0) (some (cK (.int 2))) none))))
def N_L_renamed_disk : List Str := ["disk", "names", "files", "some", "content", "own"]
def s_L_renamed_disk : Sv := (sSeq (sSet 2 (cComp false (iVal (cVar 0)) (gvTup 2 (gvCons (gvName 3) (gvCons (gvName 4) gvNil))) tvYes (bOne (cTup (aCons (cB bTuple (aCons (cB (bSorted2 false) (aCons (cComp false (iVal (cVar 3)) (gvName 5) tvYes (bOne (cBin wIx (cVar 1) (cVar 5))) [5]) aNil)) aNil)) (aCons (cVar 4) aNil)))) [3, 4])) (sRet (cB bTuple (aCons (cB (bSorted2 false) (aCons (cVar 2) aNil)) aNil))))
def N_L_left_out : List Str := ["disk", "names", "files", "some", "content", "file", "own"]
def s_L_left_out : Sv := (sSeq (sSet 2 (cComp false (iVal (cVar 0)) (gvTup 2 (gvCons (gvName 3) (gvCons (gvName 4) gvNil))) tvYes (bOne (cTup (aCons (cB bTuple (aCons (cComp false (iVal (cVar 3)) (gvName 6) (cTest (cBin (wIn true) (cVar 6) (cVar 1))) (bOne (cVar 6)) [6]) aNil)) (aCons (cVar 4) aNil)))) [3, 4])) (sRet (cB bTuple (aCons (cB (bSorted2 false) (aCons (cComp false (iVal (cVar 2)) (gvName 5) (cTest (cBin (wEq true) (cBin wIx (cVar 5) (cK (.int 0))) (cTup aNil))) (bOne (cVar 5)) [5]) aNil)) aNil))))
end Z

set_option Elab.async false
set_option linter.all false
set_option maxRecDepth 100000
/-! M3: what the program's defs about disks compute -/
namespace Z
open PySem PySem.Spec PyProof.Rows L2

/-- a disk of bounded size with lawful names -/
def okD (n : Nat) (d : Dk) : Prop := d.length ≤ n ∧ ∀ f ∈ d, f.1.length ≤ n ∧ okNs f.1
theorem okD.mono {m n : Nat} {d : Dk} (h : okD m d) (hn : m ≤ n) : okD n d := ⟨Nat.le_trans h.1 hn, fun f hf => ⟨Nat.le_trans (h.2 f hf).1 hn, (h.2 f hf).2⟩⟩
abbrev BIG : Nat := 1000000
theorem big_line : BIG + 1000 ≤ sizeLine := by decide
def shown (d : Dk) (n : Str) : Option Int := match d with
  | [] => none
  | f :: r => if n ∈ f.1 then some f.2 else shown r n
def areSame (d : Dk) (a b : Str) : Bool := d.any fun f => decide (a ∈ f.1) && decide (b ∈ f.1)
def cutN (n : Str) (f : Fl) : Fl := (f.1.filter fun x => !decide (x = n), f.2)
def without (d : Dk) (n : Str) : Dk := (d.map (cutN n)).filter fun f => !decide (f.1 = [])
def withFile (d : Dk) (n : Str) (c : Int) : Dk := srt eFl (without d n ++ [([n], c)])
def joined (d : Dk) (n o : Str) : Dk := srt eFl ((without d o).map fun f => (if n ∈ f.1 then srt eS (f.1 ++ [o]) else f.1, f.2))
def written (d : Dk) (n : Str) (c : Int) : Dk := match shown d n with
  | none => withFile d n c
  | some _ => d.map fun f => (f.1, if n ∈ f.1 then c else f.2)

/-- the promise of a def that makes nothing and changes nothing -/
def pureG {α : Type} (args : α → List D) (dom : α → Prop) (res : α → D) : Gs := fun ds h K => ∃ a, ds = args a ∧ dom a ∧ K (res a) h

def G_shown : Gs := pureG (fun a : Dk × Str => [eDk a.1, .str a.2]) (fun a => okD BIG a.1 ∧ okN a.2) fun a => eO (shown a.1 a.2)
theorem p_shown {ds : List D} {h : MH} {K : D → MH → Prop} (g : G_shown ds h K) : bodyG 4 2 s_shown ds h K := by
  obtain ⟨⟨d, n⟩, rfl, ⟨hd, hn⟩, k⟩ := g
  dsimp only at *
  refine ⟨rfl, ?_⟩
  have loop : ∀ (d : Dk), (∀ f ∈ d, okNs f.1) → ∀ (D : D) x y (K' : Kx), K'.rt = (fun d h' => gcK h K d h') → (∀ i, shown d n = some i → K (.int i) h) → (shown d n = none → ∀ x y, K'.nx [some D, some (.str n), x, y] h) →
      forL (gvTup 2 (gvCons (gvName 2) (gvCons (gvName 3) gvNil))) (sIf (cTest (cBin (wIn false) (cVar 1) (cVar 2))) (sRet (cVar 3)) sNil) (fun _ => True) (d.map eFl) K' [some D, some (.str n), x, y] h := by
    intro d
    induction d with
    | nil => exact fun _ D x y K' _ _ k2 => ⟨trivial, k2 rfl x y⟩
    | cons f r ih =>
      intro hr D x y K' hK k1 k2
      refine ⟨trivial, ?_⟩
      simp [eFl]
      refine w_inNs hn (hr f (List.mem_cons_self ..)) ?_
      by_cases hm : n ∈ f.1
      · simp [hm, hK]
        exact .inl (k1 f.2 (by simp [shown, hm]))
      · simp [hm]
        exact ih (fun f hf => hr f (List.mem_cons_of_mem _ hf)) D _ _ K' hK (fun i e => k1 i (by simpa [shown, hm] using e)) fun e => k2 (by simpa [shown, hm] using e)
  simp [s_shown, List.replicate]
  refine loop d (fun f hf => (hd.2 f hf).2) _ _ _ _ rfl (fun i e => ?_) fun e x y => ?_
  · simpa [e, eO] using k
  · simp
    exact .inl (by simpa [e, eO] using k)

theorem len_line {n : Nat} (h : n ≤ BIG + 1000) : n ≤ sizeLine := Nat.le_trans h big_line
def G_are_same : Gs := pureG (fun a : Dk × Str × Str => [eDk a.1, .str a.2.1, .str a.2.2]) (fun a => okD BIG a.1 ∧ okN a.2.1 ∧ okN a.2.2) fun a => .bl (areSame a.1 a.2.1 a.2.2)
theorem p_are_same {ds : List D} {h : MH} {K : D → MH → Prop} (g : G_are_same ds h K) : bodyG 5 3 s_are_same ds h K := by
  obtain ⟨⟨d, a, b⟩, rfl, ⟨hd, ha, hb⟩, k⟩ := g
  dsimp only at *
  refine ⟨rfl, ?_⟩
  simp [s_are_same, List.replicate, wipeR]
  refine turns_all (fun f : Fl => .bl (decide (a ∈ f.1) && decide (b ∈ f.1))) trivial d [] (by simpa using len_line (Nat.le_trans hd.1 (by decide))) (fun f hf acc K' hl k' => ?_) ?_
  · simp [eFl]
    refine w_inNs ha (hd.2 f hf).2 ?_
    by_cases h1 : a ∈ f.1
    · simp [h1]
      refine w_inNs hb (hd.2 f hf).2 ?_
      simpa [h1, hl] using k'
    · simpa [h1, hl] using k'
  · refine ⟨d.map fun f => decide (a ∈ f.1) && decide (b ∈ f.1), by simp, .inl ?_⟩
    have : (d.map fun f => decide (a ∈ f.1) && decide (b ∈ f.1)).any id = areSame d a b := by
      rw [areSame, List.any_map]
      rfl
    rw [this]
    exact k
def G_without : Gs := pureG (fun a : Dk × Str => [eDk a.1, .str a.2]) (fun a => okD BIG a.1 ∧ okN a.2) fun a => eDk (without a.1 a.2)
theorem p_without {ds : List D} {h : MH} {K : D → MH → Prop} (g : G_without ds h K) : bodyG 7 2 s_without ds h K := by
  obtain ⟨⟨d, n⟩, rfl, ⟨hd, hn⟩, k⟩ := g
  dsimp only at *
  refine ⟨rfl, ?_⟩
  simp [s_without, List.replicate]
  have hdl : d.length ≤ sizeLine := len_line (Nat.le_trans hd.1 (by decide))
  refine turns_all (fun f : Fl => eFl (cutN n f)) trivial d [] (by simpa using hdl) (fun f hf acc K' hl k' => ?_) ?_
  · simp [eFl]
    refine turns_filter (enc := eS) (fun x => !decide (x = n)) eS trivial f.1 [] (by simpa using len_line (Nat.le_trans (hd.2 f hf).1 (by decide))) (fun x hx acc2 K2 hl2 k2 k3 => ?_) ?_
    · by_cases e : x = n
      · simpa [eS, e] using k3
      · simpa [eS, e, hl2] using k2
    · simpa [hl, eFl, eNs, cutN] using k'
  · have e0 : (d.map fun f : Fl => eFl (cutN n f)) = (d.map (cutN n)).map eFl := by simp
    rw [List.nil_append, e0]
    refine turns_filter (enc := eFl) (fun f : Fl => !decide (f.1 = [])) eFl trivial _ [] (by simpa using hdl) (fun f hf acc2 K2 hl2 k2 k3 => ?_) ?_
    · have hf1 : okNs f.1 := by
        obtain ⟨g, hg, rfl⟩ := List.mem_map.mp hf
        exact fun x hx => (hd.2 g hg).2 x (List.mem_filter.mp hx).1
      simp [eFl]
      refine w_eqE (a := f.1) (b := []) (enc := eNs) eNs_inj smp_Ns (ok_Ns hf1) (ok_Ns (by simp [okNs])) ?_
      by_cases e : f.1 = []
      · simpa [e] using k3
      · simpa [e, hl2, eFl] using k2
    · simp
      exact .inl k

/-! bounds of what comes out -/
theorem without_ok {n : Nat} {d : Dk} {x : Str} (h : okD n d) : okD n (without d x) := by
  refine ⟨Nat.le_trans (List.length_filter_le _ _) (by simpa using h.1), fun f hf => ?_⟩
  obtain ⟨g, hg, rfl⟩ := List.mem_map.mp (List.mem_filter.mp hf).1
  exact ⟨Nat.le_trans (List.length_filter_le _ _) (h.2 g hg).1, fun y hy => (h.2 g hg).2 y (List.mem_filter.mp hy).1⟩
theorem without_ne {d : Dk} {x : Str} {f : Fl} (hf : f ∈ without d x) : f.1 ≠ [] := by
  have := (List.mem_filter.mp hf).2
  simpa using this
theorem srt_ok {n : Nat} {d : Dk} (h : okD n d) : okD n (srt eFl d) := ⟨by rw [srt_len]; exact h.1, fun f hf => h.2 f (mem_srt.mp hf)⟩
theorem withFile_ok {n : Nat} {d : Dk} {x : Str} {c : Int} (h : okD n d) (hx : okN x) : okD (n + 1) (withFile d x c) := by
  have w := without_ok (x := x) h
  refine srt_ok ⟨by simpa using w.1, fun f hf => ?_⟩
  rcases List.mem_append.mp hf with hf | hf
  · exact ⟨Nat.le_succ_of_le (w.2 f hf).1, (w.2 f hf).2⟩
  · have : f = ([x], c) := by simpa using hf
    subst this
    exact ⟨by simp, fun y hy => by
      have : y = x := by simpa using hy
      subst this
      exact hx⟩
def G_with_file : Gs := pureG (fun a : Dk × Str × Int => [eDk a.1, .str a.2.1, .int a.2.2]) (fun a => okD BIG a.1 ∧ okN a.2.1) fun a => eDk (withFile a.1 a.2.1 a.2.2)
theorem p_with_file {ds : List D} {h : MH} {K : D → MH → Prop} (g : G_with_file ds h K) : bodyG 3 3 (s_with_file G_without) ds h K := by
  obtain ⟨⟨d, n, c⟩, rfl, ⟨hd, hn⟩, k⟩ := g
  dsimp only at *
  refine ⟨rfl, ?_⟩
  have w := without_ok (x := n) hd
  simp [s_with_file, List.replicate]
  refine ⟨(d, n), rfl, ⟨hd, hn⟩, _, rfl, by simpa using len_line (Nat.le_trans (Nat.succ_le_succ w.1) (by decide)), ?_⟩
  have e : (without d n).map eFl ++ [D.tup [D.tup [D.str n], D.int c]] = (without d n ++ [([n], c)]).map eFl := by simp [eFl, eNs, eS]
  rw [e]
  refine w_sorted srtE_Fl (fun f hf => ?_) rfl ?_
  · rcases List.mem_append.mp hf with hf | hf
    · exact (w.2 f hf).2
    · have : f = ([n], c) := by simpa using hf
      subst this
      exact fun y hy => by
        have : y = n := by simpa using hy
        subst this
        exact hn
  · simp
    exact .inl k
theorem joined_ok {n : Nat} {d : Dk} {x y : Str} (h : okD n d) (hy : okN y) : okD (n + 1) (joined d x y) := by
  have w := without_ok (x := y) h
  refine srt_ok ⟨by simpa using Nat.le_succ_of_le w.1, fun f hf => ?_⟩
  obtain ⟨g, hg, rfl⟩ := List.mem_map.mp hf
  have := w.2 g hg
  by_cases e : x ∈ g.1
  · simp only [e, if_true, srt_len]
    refine ⟨by simpa using this.1, fun z hz => ?_⟩
    rcases List.mem_append.mp (mem_srt.mp hz) with hz | hz
    · exact this.2 z hz
    · have : z = y := by simpa using hz
      subst this
      exact hy
  · simp only [e, if_false]
    exact ⟨Nat.le_succ_of_le this.1, this.2⟩
def G_joined : Gs := pureG (fun a : Dk × Str × Str => [eDk a.1, .str a.2.1, .str a.2.2]) (fun a => okD BIG a.1 ∧ okN a.2.1 ∧ okN a.2.2) fun a => eDk (joined a.1 a.2.1 a.2.2)
def joinF (n o : Str) (f : Fl) : Fl := (if n ∈ f.1 then srt eS (f.1 ++ [o]) else f.1, f.2)
theorem p_joined {ds : List D} {h : MH} {K : D → MH → Prop} (g : G_joined ds h K) : bodyG 6 3 (s_joined G_without) ds h K := by
  obtain ⟨⟨d, n, o⟩, rfl, ⟨hd, hn, ho⟩, k⟩ := g
  dsimp only at *
  refine ⟨rfl, ?_⟩
  have w := without_ok (x := o) hd
  have wl := len_line (Nat.le_trans (Nat.succ_le_succ w.1) (by decide))
  simp [s_joined, List.replicate]
  refine ⟨(d, o), rfl, ⟨hd, ho⟩, ?_⟩
  simp only [w_iDk]
  refine forL_pre (enc := eFl) (fun p ρ h' => (∃ x y, ρ = [some (eDk d), some (.str n), some (.str o), some (.ref h.length), x, y]) ∧ h' = h ++ [.lst ((p.map (joinF n o)).map eFl)])
    (without d o) _ _ ⟨⟨_, _, rfl⟩, rfl⟩ (fun _ _ _ _ => trivial) (fun p f q e ρ' h' K' hP k' => ?_) fun ρ' h' hP => ?_
  · obtain ⟨⟨x, y, rfl⟩, rfl⟩ := hP
    have hf : f ∈ without d o := by rw [e]; simp
    have hpl : p.length < (without d o).length := by
      rw [e]
      simp
    have k' := k' _ _ ⟨⟨some (eNs f.1), some (.int f.2), rfl⟩, rfl⟩
    simp [eFl]
    refine w_inNs hn (w.2 f hf).2 ?_
    by_cases hm : n ∈ f.1
    · simp [hm]
      refine ⟨by simpa using len_line (Nat.le_trans (Nat.succ_le_succ (w.2 f hf).1) (by decide)), ?_⟩
      have e1 : f.1.map eS ++ [D.str o] = (f.1 ++ [o]).map eS := by simp [eS]
      rw [e1]
      refine w_sorted srtE_S (fun z hz => ?_) rfl ?_
      · rcases List.mem_append.mp hz with hz | hz
        · exact (w.2 f hf).2 z hz
        · have : z = o := by simpa using hz
          subst this
          exact ho
      · simp
        refine w_app get_new (by simp; omega) ?_
        simpa [joinF, hm, eFl, eNs] using k'
    · simp [hm]
      refine w_app get_new (by simp; omega) ?_
      simpa [joinF, hm, eFl] using k'
  · obtain ⟨⟨x, y, rfl⟩, rfl⟩ := hP
    simp
    refine w_sorted (l := (without d o).map (joinF n o)) srtE_Fl (fun f hf => ?_) (by simp) ?_
    · have := (joined_ok (x := n) hd ho).2
      exact (this f (mem_srt.mpr hf)).2
    · simp
      exact gc_new (bel_smp (smp_Dk _)) k
theorem written_ok {n : Nat} {d : Dk} {x : Str} {c : Int} (h : okD n d) (hx : okN x) : okD (n + 1) (written d x c) := by
  unfold written
  split
  · exact withFile_ok h hx
  · refine ⟨by simpa using Nat.le_succ_of_le h.1, fun f hf => ?_⟩
    obtain ⟨g, hg, rfl⟩ := List.mem_map.mp hf
    exact ⟨Nat.le_succ_of_le (h.2 g hg).1, (h.2 g hg).2⟩
def G_written : Gs := pureG (fun a : Dk × Str × Int => [eDk a.1, .str a.2.1, .int a.2.2]) (fun a => okD BIG a.1 ∧ okN a.2.1) fun a => eDk (written a.1 a.2.1 a.2.2)
theorem p_written {ds : List D} {h : MH} {K : D → MH → Prop} (g : G_written ds h K) : bodyG 5 3 (s_written G_shown G_with_file) ds h K := by
  obtain ⟨⟨d, n, c⟩, rfl, ⟨hd, hn⟩, k⟩ := g
  dsimp only at *
  refine ⟨rfl, ?_⟩
  simp [s_written, List.replicate]
  refine ⟨(d, n), rfl, ⟨hd, hn⟩, ?_⟩
  unfold written at k
  dsimp only
  cases e : shown d n with
  | none =>
    simp only [e] at k
    simp [eO]
    exact ⟨(d, n, c), rfl, ⟨hd, hn⟩, .inl k⟩
  | some i =>
    simp only [e] at k
    simp [eO]
    refine turns_all (fun f : Fl => eFl (f.1, if n ∈ f.1 then c else f.2)) trivial d [] (by simpa using len_line (Nat.le_trans hd.1 (by decide))) (fun f hf acc K' hl k' => ?_) ?_
    · simp [eFl]
      refine w_inNs hn (hd.2 f hf).2 ?_
      by_cases hm : n ∈ f.1
      · simpa [hm, hl, eFl] using k'
      · simpa [hm, hl, eFl] using k'
    · simp
      exact .inl (by simpa [eDk, Function.comp_def] using k)
/-- what two-name deeds do where the first name is there -/
def pairDone (d : Dk) (w : Str) (n o : Str) (c : Int) : Dk :=
  if w = "copy" then written d o c else if w = "renew" then withFile d o c else if areSame d n o then d else if w = "move" then without (joined d n o) n else joined d n o
def G_pair_done : Gs := pureG (fun a : Dk × Str × Str × Str × Int => [eDk a.1, .str a.2.1, .str a.2.2.1, .str a.2.2.2.1]) (fun a => okD 1000 a.1 ∧ okN a.2.2.1 ∧ okN a.2.2.2.1 ∧ shown a.1 a.2.2.1 = some a.2.2.2.2) fun a => eDk (pairDone a.1 a.2.1 a.2.2.1 a.2.2.2.1 a.2.2.2.2)
theorem p_pair_done {ds : List D} {h : MH} {K : D → MH → Prop} (g : G_pair_done ds h K) : bodyG 5 4 (s_pair_done G_without G_joined G_are_same G_with_file G_shown G_written) ds h K := by
  obtain ⟨⟨d, w, n, o, c⟩, rfl, ⟨hd, hn, ho, hs⟩, k⟩ := g
  dsimp only at *
  have hB := hd.mono (show 1000 ≤ BIG by decide)
  refine ⟨rfl, ?_⟩
  simp [s_pair_done, List.replicate]
  unfold pairDone at k
  by_cases e1 : w = "copy"
  · simp [e1] at k ⊢
    exact ⟨(d, n), rfl, ⟨hB, hn⟩, (d, o, c), by simp [hs, eO], ⟨hB, ho⟩, .inl k⟩
  · by_cases e2 : w = "renew"
    · simp [e1, e2] at k ⊢
      exact ⟨(d, n), rfl, ⟨hB, hn⟩, (d, o, c), by simp [hs, eO], ⟨hB, ho⟩, .inl k⟩
    · simp [e1, e2] at k ⊢
      refine ⟨(d, n, o), rfl, ⟨hB, hn, ho⟩, ?_⟩
      by_cases e3 : areSame d n o = true
      · simp [e3] at k ⊢
        exact .inl k
      · simp [e3] at k ⊢
        refine ⟨(d, n, o), rfl, ⟨hB, hn, ho⟩, ?_⟩
        by_cases e4 : w = "move"
        · simp [e4] at k ⊢
          exact ⟨(joined d n o, n), rfl, ⟨(joined_ok hd ho).mono (by decide), hn⟩, .inl k⟩
        · simp [e4] at k ⊢
          exact .inl k

/-! deeds -/
inductive Dd where
  | wr (n : Str) (c : Int) | sv (n : Str) (c : Int) | lk (n o : Str) | mv (n o : Str) | cp (n o : Str) | rn (n o : Str) | rm (n : Str)
  deriving DecidableEq
def eDd : Dd → D
  | .wr n c => .tup [.str "write", .str n, .int c]
  | .sv n c => .tup [.str "save", .str n, .int c]
  | .lk n o => .tup [.str "link", .str n, .str o]
  | .mv n o => .tup [.str "move", .str n, .str o]
  | .cp n o => .tup [.str "copy", .str n, .str o]
  | .rn n o => .tup [.str "renew", .str n, .str o]
  | .rm n => .tup [.str "remove", .str n]
def Dd.fst : Dd → Str
  | .wr n _ => n | .sv n _ => n | .lk n _ => n | .mv n _ => n | .cp n _ => n | .rn n _ => n | .rm n => n
def Dd.names : Dd → List Str
  | .wr n _ => [n] | .sv n _ => [n] | .lk n o => [n, o] | .mv n o => [n, o] | .cp n o => [n, o] | .rn n o => [n, o] | .rm n => [n]
def Dd.ok (d : Dd) : Prop := okNs d.names
def two (d : Dk) (w n o : Str) : Dk := match shown d n with
  | none => d
  | some c => srt eFl (pairDone d w n o c)
def done (d : Dk) : Dd → Dk
  | .wr n c => written d n c
  | .sv n c => withFile d n c
  | .rm n => match shown d n with
    | none => d
    | some _ => srt eFl (without d n)
  | .lk n o => two d "link" n o
  | .mv n o => two d "move" n o
  | .cp n o => two d "copy" n o
  | .rn n o => two d "renew" n o
def after (d : Dk) (p : List Dd) : Dk := p.foldl done d
theorem pairDone_ok {n : Nat} {d : Dk} {w x y : Str} {c : Int} (h : okD n d) (hx : okN x) (hy : okN y) : okD (n + 1) (pairDone d w x y c) := by
  unfold pairDone
  split
  · exact written_ok h hy
  · split
    · exact withFile_ok h hy
    · split
      · exact h.mono (by omega)
      · split
        · exact without_ok (joined_ok h hy)
        · exact joined_ok h hy
theorem two_ok {n : Nat} {d : Dk} {w x y : Str} (h : okD n d) (hx : okN x) (hy : okN y) : okD (n + 1) (two d w x y) := by
  unfold two
  split
  · exact h.mono (by omega)
  · exact srt_ok (pairDone_ok h hx hy)
theorem done_ok {n : Nat} {d : Dk} {a : Dd} (h : okD n d) (ha : a.ok) : okD (n + 1) (done d a) := by
  cases a with
  | wr x c => exact written_ok h (ha x (by simp [Dd.names]))
  | sv x c => exact withFile_ok h (ha x (by simp [Dd.names]))
  | rm x =>
    show okD (n + 1) (match shown d x with
      | none => d
      | some _ => srt eFl (without d x))
    cases shown d x with
    | none => exact h.mono (Nat.le_succ n)
    | some _ => exact (srt_ok (without_ok h)).mono (Nat.le_succ n)
  | lk x y => exact two_ok h (ha x (by simp [Dd.names])) (ha y (by simp [Dd.names]))
  | mv x y => exact two_ok h (ha x (by simp [Dd.names])) (ha y (by simp [Dd.names]))
  | cp x y => exact two_ok h (ha x (by simp [Dd.names])) (ha y (by simp [Dd.names]))
  | rn x y => exact two_ok h (ha x (by simp [Dd.names])) (ha y (by simp [Dd.names]))
def G_done : Gs := pureG (fun a : Dk × Dd => [eDk a.1, eDd a.2]) (fun a => okD 1000 a.1 ∧ a.2.ok) fun a => eDk (done a.1 a.2)
theorem p_two {d : Dk} {w x y : Str} {h : MH} {K : D → MH → Prop} (hd : okD 1000 d) (hx : okN x) (hy : okN y) (k : K (eDk (two d w x y)) h) (h1 : w ≠ "write") (h2 : w ≠ "save") (h3 : w ≠ "remove") :
    bodyG 2 2 (s_done G_pair_done G_without G_shown G_with_file G_written) [eDk d, .tup [.str w, .str x, .str y]] h K := by
  have hB := hd.mono (show 1000 ≤ BIG by decide)
  refine ⟨rfl, ?_⟩
  simp [s_done, List.replicate, h1, h2, h3]
  refine ⟨(d, x), rfl, ⟨hB, hx⟩, ?_⟩
  dsimp only
  unfold two at k
  cases e : shown d x with
  | none =>
    simp only [e] at k
    simp [eO]
    exact .inl k
  | some c =>
    simp only [e] at k
    simp [eO]
    refine ⟨(d, w, x, y, c), rfl, ⟨hd, hx, hy, e⟩, ?_⟩
    refine w_sorted srtE_Fl (fun f hf => ((pairDone_ok hd hx hy).2 f hf).2) rfl ?_
    simp
    exact .inl k
theorem p_done {ds : List D} {h : MH} {K : D → MH → Prop} (g : G_done ds h K) : bodyG 2 2 (s_done G_pair_done G_without G_shown G_with_file G_written) ds h K := by
  obtain ⟨⟨d, a⟩, rfl, ⟨hd, ha⟩, k⟩ := g
  dsimp only at *
  have hB := hd.mono (show 1000 ≤ BIG by decide)
  cases a with
  | wr x c =>
    refine ⟨rfl, ?_⟩
    simp [s_done, List.replicate, eDd]
    exact ⟨(d, x, c), rfl, ⟨hB, ha x (by simp [Dd.names])⟩, .inl k⟩
  | sv x c =>
    refine ⟨rfl, ?_⟩
    simp [s_done, List.replicate, eDd]
    exact ⟨(d, x, c), rfl, ⟨hB, ha x (by simp [Dd.names])⟩, .inl k⟩
  | rm x =>
    have hx := ha x (by simp [Dd.names])
    refine ⟨rfl, ?_⟩
    simp [s_done, List.replicate, eDd]
    refine ⟨(d, x), rfl, ⟨hB, hx⟩, ?_⟩
    dsimp only
    unfold done at k
    cases e : shown d x with
    | none =>
      simp only [e] at k
      simp [eO]
      exact .inl k
    | some c =>
      simp only [e] at k
      simp [eO]
      refine ⟨(d, x), rfl, ⟨hB, hx⟩, ?_⟩
      refine w_sorted srtE_Fl (fun f hf => ((without_ok hd).2 f hf).2) rfl ?_
      simp
      exact .inl k
  | lk x y => exact p_two hd (ha x (by simp [Dd.names])) (ha y (by simp [Dd.names])) k (by decide) (by decide) (by decide)
  | mv x y => exact p_two hd (ha x (by simp [Dd.names])) (ha y (by simp [Dd.names])) k (by decide) (by decide) (by decide)
  | cp x y => exact p_two hd (ha x (by simp [Dd.names])) (ha y (by simp [Dd.names])) k (by decide) (by decide) (by decide)
  | rn x y => exact p_two hd (ha x (by simp [Dd.names])) (ha y (by simp [Dd.names])) k (by decide) (by decide) (by decide)
def eP (p : List Dd) : D := .tup (p.map eDd)
@[simp] theorem w_iP {p : List Dd} {h : MH} {R : List D → (MH → Prop) → MH → Prop} : iW (eP p) h R ↔ R (p.map eDd) (fun _ => True) h := Iff.rfl
/-- each disk on the way is of bounded size -/
def okRun (d : Dk) (p : List Dd) : Prop := (∀ q r, p = q ++ r → okD 1000 (after d q)) ∧ ∀ a ∈ p, a.ok
theorem okRun_small {n : Nat} {d : Dk} {p : List Dd} (hd : okD n d) (hn : n + p.length ≤ 1000) (hp : ∀ a ∈ p, a.ok) : okRun d p := by
  refine ⟨?_, hp⟩
  intro q r e
  have hq : ∀ a ∈ q, a.ok := fun a ha => hp a (by rw [e]; exact List.mem_append_left _ ha)
  have hl : n + q.length ≤ 1000 := by
    rw [e, List.length_append] at hn
    omega
  clear e hn hp
  induction q generalizing n d with
  | nil => exact hd.mono (by omega)
  | cons a q ih => exact ih (done_ok hd (hq a (List.mem_cons_self ..))) (fun b hb => hq b (List.mem_cons_of_mem _ hb)) (by rw [List.length_cons] at hl; omega)
def G_after : Gs := pureG (fun a : Dk × List Dd => [eDk a.1, eP a.2]) (fun a => okRun a.1 a.2) fun a => eDk (after a.1 a.2)
theorem p_after {ds : List D} {h : MH} {K : D → MH → Prop} (g : G_after ds h K) : bodyG 3 2 (s_after G_done) ds h K := by
  obtain ⟨⟨d, p⟩, rfl, hr, k⟩ := g
  dsimp only at *
  refine ⟨rfl, ?_⟩
  simp [s_after, List.replicate]
  refine forL_pre (enc := eDd) (fun q ρ h' => (∃ x, ρ = [some (eDk (after d q)), some (eP p), x]) ∧ h' = h) p _ _ ⟨⟨_, rfl⟩, rfl⟩ (fun _ _ _ _ => trivial) (fun q a r e ρ' h' K' hP k' => ?_) fun ρ' h' hP => ?_
  · obtain ⟨⟨x, rfl⟩, rfl⟩ := hP
    have k' := k' _ _ ⟨⟨some (eDd a), rfl⟩, rfl⟩
    simp
    refine ⟨(after d q, a), rfl, ⟨hr.1 q (a :: r) e, hr.2 a (by rw [e]; simp)⟩, ?_⟩
    simpa [after, List.foldl_append] using k'
  · obtain ⟨⟨x, rfl⟩, rfl⟩ := hP
    simp
    exact .inl k
end Z

set_option Elab.async false
set_option linter.all false
set_option maxRecDepth 100000
/-! M4: what the laws' own helpers compute -/
namespace Z
open PySem PySem.Spec PyProof.Rows L2

section
variable {h : MH} {Q : D → MH → Prop}
theorem w_ixR {t : Nat} {xs : List D} {i : Int} (e : h[t]? = some (.lst xs)) : wIx h (.ref t) (.int i) Q ↔ ∃ v, atI xs i = some v ∧ Q v h := by
  have e1 : lstOf h (.ref t) = some xs := by simp [lstOf, e]
  have e2 : dicOf h (.ref t) = none := by simp [dicOf, e]
  constructor
  · rintro (⟨ys, j, v, a, b, c, q⟩ | ⟨kvs, k, v, a, _⟩)
    · rw [e1] at a
      cases a
      cases b
      exact ⟨v, c, q⟩
    · rw [e2] at a
      cases a
  · rintro ⟨v, c, q⟩
    exact .inl ⟨xs, i, v, e1, rfl, c, q⟩
@[simp] theorem w_ixL {xs : List D} {i : Int} : wIx h (.lst xs) (.int i) Q ↔ ∃ v, atI xs i = some v ∧ Q v h := by
  constructor
  · rintro (⟨ys, j, v, a, b, c, q⟩ | ⟨kvs, k, v, a, _⟩)
    · cases a
      cases b
      exact ⟨v, c, q⟩
    · cases a
  · rintro ⟨v, c, q⟩
    exact .inl ⟨xs, i, v, rfl, rfl, c, q⟩
@[simp] theorem w_lenL {xs : List D} : bLen h [.lst xs] Q ↔ (xs.length ≤ sizeLine → Q (.int xs.length) h) := by
  constructor
  · rintro (⟨ys, e, q⟩ | ⟨_, e, _⟩)
    · cases e
      exact q
    · cases e
  · exact fun q => .inl ⟨xs, rfl, q⟩
@[simp] theorem w_lenT {xs : List D} : bLen h [.tup xs] Q ↔ (xs.length ≤ sizeLine → Q (.int xs.length) h) := by
  constructor
  · rintro (⟨ys, e, q⟩ | ⟨_, e, _⟩)
    · cases e
      exact q
    · cases e
  · exact fun q => .inl ⟨xs, rfl, q⟩
@[simp] theorem w_ltI {i j : Int} : wLt h (.int i) (.int j) Q ↔ Q (.bl (decide (i < j))) h := Iff.rfl
@[simp] theorem w_leI {i j : Int} : wLe h (.int i) (.int j) Q ↔ Q (.bl (decide (i ≤ j))) h := Iff.rfl
@[simp] theorem w_gtI {i j : Int} : wGt h (.int i) (.int j) Q ↔ Q (.bl (decide (j < i))) h := Iff.rfl
@[simp] theorem w_geI {i j : Int} : wGe h (.int i) (.int j) Q ↔ Q (.bl (decide (j ≤ i))) h := Iff.rfl
/-- len of a list or tuple -/
theorem w_len {d : D} {xs : List D} (e : seqOf h d = some xs) (k : xs.length ≤ sizeLine → Q (.int xs.length) h) : bLen h [d] Q := by
  have : bLen1 h d Q := by
    unfold bLen1
    split
    · cases e
    · exact .inl ⟨xs, e, k⟩
  exact this
/-- xs[i] = v -/
theorem w_setR {t : Nat} {xs : List D} {k : Int} {j : Nat} {v : D} {K : MH → Prop} (e : h[t]? = some (.lst xs)) (ej : ixN xs.length k = some j) (q : K (h.set t (.lst (xs.set j v)))) : wSet h (.ref t) (.int k) v K := ⟨t, rfl, .inl ⟨xs, k, j, rfl, e, ej, q⟩⟩
/-- d[k] = v -/
theorem w_setD {t : Nat} {kvs : List (Key × D)} {kd : D} {k : Key} {v : D} {K : MH → Prop} (e : h[t]? = some (.dic kvs)) (ek : toKey kd = some k) (hl : kvs.length < sizeLine) (q : K (h.set t (.dic (putKV kvs k v)))) : wSet h (.ref t) kd v K := ⟨t, rfl, .inr ⟨kvs, k, e, ek, hl, q⟩⟩
end

@[simp] theorem w_slL {h : MH} {Q : D → MH → Prop} {mu : Bool} {xs : List D} {lo hi : Option Int} : wSl mu h (.lst xs) lo hi Q ↔ mkL mu (cutL xs lo hi) h Q := by
  constructor
  · rintro ⟨ys, e, q⟩
    cases e
    exact q
  · exact fun q => ⟨xs, rfl, q⟩
@[simp] theorem w_slT {h : MH} {Q : D → MH → Prop} {mu : Bool} {xs : List D} {lo hi : Option Int} : wSl mu h (.tup xs) lo hi Q ↔ Q (.tup (cutL xs lo hi)) h := Iff.rfl
theorem cutL_take {α : Type} (xs : List α) (k : Nat) : cutL xs none (some (k : Int)) = xs.take k := by
  unfold cutL
  rw [HT.sIx_none, HT.sIx_nat]
  simp [List.take_eq_take_iff]
theorem cutL_drop {α : Type} (xs : List α) (k : Nat) : cutL xs (some (k : Int)) none = xs.drop k := by
  unfold cutL
  rw [HT.sIx_none, HT.sIx_nat]
  by_cases h : k ≤ xs.length
  · rw [Nat.min_eq_left h, List.take_of_length_le (by simp)]
  · simp [Nat.min_eq_right (show xs.length ≤ k by omega), List.drop_of_length_le (show xs.length ≤ k by omega)]

/-! the tape -/
abbrev TB : Nat := 2 ^ 100000
def tape (ns : List Int) (i c : Int) : O := .lst [.lst (ns.map .int), .int i, .int c]
/-- a tape at t from which b numbers may be drawn -/
def Tp (h : MH) (t b : Nat) : Prop := ∃ (ns : List Int) (i : Nat) (c : Int), h[t]? = some (tape ns i c) ∧ i + b ≤ TB
theorem Tp.mono {h : MH} {t b b' : Nat} (x : Tp h t b) (hb : b' ≤ b) : Tp h t b' := by
  obtain ⟨ns, i, c, e, l⟩ := x
  exact ⟨ns, i, c, e, by omega⟩
theorem Tp.lt {h : MH} {t b : Nat} (x : Tp h t b) : t < h.length := by
  obtain ⟨ns, i, c, e, l⟩ := x
  exact (List.getElem?_eq_some_iff.mp e).1
/-- a number is drawn, whichever -/
def G_L_draw : Gs := fun ds h K => ∃ (t b : Nat) (m : Int), ds = [.ref t, .int m] ∧ 0 < m ∧ m < 1000000 ∧ Tp h t (b + 1) ∧ ∀ (r : Int) (o : O), 0 ≤ r → r < m → Tp (h.set t o) t b → K (.int r) (h.set t o)
theorem mulW {i j : Int} (hi : i.natAbs < 2 ^ 100001) (hj : j.natAbs < 2 ^ 64) : CMulW i j := wide_mul hi hj (by decide) (by decide) (by decide)
theorem set_self {h : MH} {t : Nat} {o : O} (e : h[t]? = some o) : h.set t o = h := by
  obtain ⟨hl, e⟩ := List.getElem?_eq_some_iff.mp e
  rw [← e, List.set_getElem_self]
theorem ixN_of {n j : Nat} (h : j < n) : ixN n (j : Int) = some j := by
  unfold ixN
  rw [if_pos (by omega), if_pos (by omega)]
  simp
theorem p_draw {ds : List D} {h : MH} {K : D → MH → Prop} (g : G_L_draw ds h K) : bodyG 5 2 s_L_draw ds h K := by
  obtain ⟨t, b, m, rfl, m0, m1, ⟨ns, i, c, e, hb⟩, k⟩ := g
  refine ⟨rfl, ?_⟩
  have hlt := (List.getElem?_eq_some_iff.mp e).1
  have dv : ∀ c', CDivW c' m := fun c' => wide_div m0 (b := 64) (by omega) (by decide) (by decide)
  -- the end
  have fin : ∀ (c' : Int) (i' : Nat) (p x y : Option D), i' + b ≤ TB →
      sSeq (sSet 3 (cBin wMod (cBin wIx (cVar 0) (cK (.int 2))) (cVar 1))) (sSeq (sPut (cVar 0) (cK (.int 2)) (cBin wDiv (cBin wIx (cVar 0) (cK (.int 2))) (cVar 1))) (sRet (cVar 3)))
        { nx := fun _ h' => gcK h K .non h', rt := fun d h' => gcK h K d h', bk := fun _ _ => False, ct := fun _ _ => False } [some (.ref t), some (.int m), p, x, y] (h.set t (tape ns i' c')) := by
    intro c' i' p x y hi
    have e1 : (h.set t (tape ns i' c'))[t]? = some (.lst [.lst (ns.map .int), .int i', .int c']) := by rw [List.getElem?_set_self hlt]; rfl
    simp [w_ixR e1]
    refine ⟨m0, dv c', ?_⟩
    refine w_setR (j := 2) e1 (by simp [ixN]) ?_
    simp [List.set_set]
    refine .inl (k _ _ (Int.emod_nonneg _ (by omega)) (Int.emod_lt_of_pos _ m0) ⟨ns, i', c' / m, ?_, hi⟩)
    rw [List.getElem?_set_self hlt]
    rfl
  have e0 : h[t]? = some (.lst [.lst (ns.map .int), .int i, .int c]) := e
  simp only [s_L_draw, List.map_cons, List.map_nil, List.length_cons, List.length_nil, w_seq, w_set, w_K, w_if, w_test, w_bin, w_var]
  simp [List.replicate, w_ixR e0, wLt]
  by_cases hc : c < m
  · simp [hc]
    have hi1 : i + 1 + b ≤ TB := by omega
    have l1 : CMulW 1000003 (i : Int) := by
      have h1 : i ≤ TB := by omega
      have h2 : (TB : Nat) < 2 ^ 100001 := Nat.pow_lt_pow_right (by decide) (by decide)
      exact wide_mul (a := 21) (b := 100001) (by decide) (by simpa using Nat.lt_of_le_of_lt h1 h2) (by decide) (by decide) (by decide)
    have l2 : ∀ x : Int, CMulW (x % 2305843009213693951) (x % 2305843009213693951) := fun x => by
      have h1 := Int.emod_nonneg x (show (2305843009213693951 : Int) ≠ 0 by decide)
      have h2 := Int.emod_lt_of_pos x (show (0 : Int) < 2305843009213693951 by decide)
      exact wide_mul (a := 64) (b := 64) (by omega) (by omega) (by decide) (by decide) (by decide)
    have l3 : ∀ x : Int, CMulW 1181783497276652981 (x % 2305843009213693951) := fun x => by
      have h1 := Int.emod_nonneg x (show (2305843009213693951 : Int) ≠ 0 by decide)
      have h2 := Int.emod_lt_of_pos x (show (0 : Int) < 2305843009213693951 by decide)
      exact wide_mul (a := 64) (b := 64) (by decide) (by omega) (by decide) (by decide) (by decide)
    have fin2 : ∀ (cc : Int), wSet h (.ref t) (.int 1) (.int (i + 1)) fun h4 => wSet h4 (.ref t) (.int 2) (.int cc) fun h4 => wIx h4 (.ref t) (.int 2) fun x h1 => wMod h1 x (.int m) fun d h' => wIx h' (.ref t) (.int 2) fun x h1 => wDiv h1 x (.int m) fun v h1 =>
        wSet h1 (.ref t) (.int 2) v fun h4 => gcK h K d h4 := by
      intro cc
      refine w_setR (j := 1) e0 (ixN_of (j := 1) (by simp)) ?_
      refine w_setR (j := 2) (by rw [List.getElem?_set_self hlt]) (ixN_of (j := 2) (by simp)) ?_
      rw [List.set_set]
      have := fin cc (i + 1) none none none hi1
      simpa [tape] using this
    intro hz
    have pp : (0 : Int) < 2305843009213693951 := by decide
    have cp : CPow 10 18 := ⟨by decide, by decide, by decide⟩
    by_cases hn : 0 < ns.length
    · simp [hn, w_ixR e0]
      intro _
      have hj : i % ns.length < ns.length := Nat.mod_lt _ hn
      refine ⟨.int ns[i % ns.length], ?_, fun _ => ?_⟩
      · have : ((i : Int) % (ns.length : Int)) = ((i % ns.length : Nat) : Int) := (Int.natCast_emod i ns.length).symm
        rw [this, atI_of, List.getElem?_map, List.getElem?_eq_getElem hj]
        rfl
      · generalize ns[i % ns.length] = z
        cases decide (ns.length ≤ i) with
        | true =>
          refine ⟨l1, pp, l2 _, l3 _, pp, l2 _, pp, ?_⟩
          simp [w_ixR e0]
          exact fin2 _
        | false =>
          refine ⟨cp, ?_⟩
          show match decide (z < 1000000000000000000) with | true => _ | false => _
          cases decide (z < 1000000000000000000) with
          | true =>
            refine ⟨l1, pp, l2 _, l3 _, pp, l2 _, pp, ?_⟩
            simp [w_ixR e0]
            exact fin2 _
          | false => exact fin2 _
    · simp [hn, w_ixR e0]
      intro _
      cases decide (ns.length ≤ i) with
      | true => exact ⟨l1, l2 _, l3 _, l2 _, fin2 _⟩
      | false => exact ⟨cp, l1, l2 _, l3 _, l2 _, fin2 _⟩
  · simp [hc]
    have := fin c i none none none (by omega)
    rw [show tape ns i c = O.lst [.lst (ns.map .int), .int i, .int c] from rfl, set_self e0] at this
    simpa [w_ixR e0] using this

theorem draw_call {h : MH} {t b : Nat} {m : Int} {K : D → MH → Prop} (m0 : 0 < m) (m1 : m < 1000000) (x : Tp h t (b + 1)) (k : ∀ (r : Int) (o : O), 0 ≤ r → r < m → Tp (h.set t o) t b → K (.int r) (h.set t o)) : G_L_draw [.ref t, .int m] h K := ⟨t, b, m, rfl, m0, m1, x, k⟩
def CONT : List Int := [0, 1, 2, 3, 7, -5, 1000000, -1000000]
def G_L_content : Gs := fun ds h K => ∃ t b : Nat, ds = [.ref t] ∧ Tp h t (b + 1) ∧ ∀ (v : Int) (o : O), v ∈ CONT → Tp (h.set t o) t b → K (.int v) (h.set t o)
theorem p_content {ds : List D} {h : MH} {K : D → MH → Prop} (g : G_L_content ds h K) : bodyG 1 1 (s_L_content G_L_draw) ds h K := by
  obtain ⟨t, b, rfl, x, k⟩ := g
  refine ⟨rfl, ?_⟩
  simp [s_L_content]
  refine ⟨⟨by decide, by decide, by decide⟩, draw_call (by decide) (by decide) x fun r o r0 r1 x1 => ?_⟩
  have hr : r.toNat < 8 := by omega
  obtain ⟨n, rfl⟩ : ∃ n : Nat, r = n := ⟨r.toNat, by omega⟩
  simp
  rw [show ([D.int 0, D.int 1, D.int 2, D.int 3, D.int 7, D.int (-5), D.int 1000000, D.int (-1000000)] : List D) = CONT.map D.int from rfl]
  have hn : n < CONT.length := by simpa [CONT] using hr
  refine ⟨.int CONT[n], ?_, gc_same (k _ o (List.getElem_mem hn) x1)⟩
  rw [atI_of, List.getElem?_map, List.getElem?_eq_getElem hn]
  rfl
def WORDS : List Str := ["a", "bb", "c", "dog", "e"]
/-- words that can be drawn -/
def isWs (ws : List Str) (m : Nat) : Prop := ∃ k, 0 < k ∧ k ≤ m ∧ (ws = WORDS.take k ∨ ws = (WORDS.take k).reverse)
def G_L_names : Gs := fun ds h K => ∃ (t b m : Nat), ds = [.ref t, .int m] ∧ 0 < m ∧ m ≤ 5 ∧ Tp h t (b + 2) ∧ ∀ (ws : List Str) (o : O), isWs ws m → Tp (h.set t o) t b → K (.lst (ws.map eS)) (h.set t o)
theorem p_names {ds : List D} {h : MH} {K : D → MH → Prop} (g : G_L_names ds h K) : bodyG 3 2 (s_L_names G_L_draw) ds h K := by
  obtain ⟨t, b, m, rfl, m0, m1, x, k⟩ := g
  refine ⟨rfl, ?_⟩
  simp [s_L_names, List.replicate]
  refine draw_call (b := b + 1) (by omega) (by omega) x fun r o r0 r1 x1 => ?_
  obtain ⟨n, rfl⟩ : ∃ n : Nat, r = n := ⟨r.toNat, by omega⟩
  simp
  have e : cutL [D.str "a", D.str "bb", D.str "c", D.str "dog", D.str "e"] none (some (1 + (n : Int))) = (WORDS.take (1 + n)).map eS := by
    rw [show (1 + (n : Int)) = ((1 + n : Nat) : Int) by omega, cutL_take, List.map_take]
    rfl
  rw [e]
  refine draw_call (b := b) (by decide) (by decide) x1 fun r2 o2 r3 r4 x2 => ?_
  rw [List.set_set] at x2 ⊢
  by_cases hr : r2 = 0
  · simp [hr]
    refine gc_same ?_
    have := k (WORDS.take (1 + n)).reverse o2 ⟨1 + n, by omega, by omega, .inr rfl⟩ x2
    simpa using this
  · simp [hr]
    refine gc_same ?_
    have := k (WORDS.take (1 + n)) o2 ⟨1 + n, by omega, by omega, .inl rfl⟩ x2
    simpa using this

/-! _law_like -/
def likeG (k : Nat) : Gs := fun ds h K => ∃ x y, ds = [x, y] ∧ D.ok k x = true ∧ D.ok k y = true ∧ ∀ b : Bool, (b = true ↔ x = y) → K (.bl b) h
theorem oks_get {k : Nat} : ∀ {xs : List D} {j : Nat} {x : D}, D.oks k xs = true → xs[j]? = some x → D.ok k x = true
  | [], _, _, _, e => by simp at e
  | x :: xs, 0, _, h, e => by
    simp only [D.oks, Bool.and_eq_true] at h
    simp at e
    rw [← e]
    exact h.1
  | x :: xs, j + 1, _, h, e => by
    simp only [D.oks, Bool.and_eq_true] at h
    exact oks_get (j := j) h.2 (by simpa using e)
def likeT (G : Gs) : Ev := cBin (wEq false) (cComp false (iRange1 (aCons (cB bLen (aCons (cVar 0) aNil)) aNil)) (gvName 2) (cNot (cTest (cCall G (aCons (cBin wIx (cVar 0) (cVar 2)) (aCons (cBin wIx (cVar 1) (cVar 2)) aNil))))) (bOne (cVar 2)) [2]) (cLst false aNil)
/-- the items of two of one kind and length -/
theorem like_items {k : Nat} {G : Gs} (hG : ∀ ds h K, likeG k ds h K → G ds h K) {x y : D} {xs ys : List D} {h : MH} {K : D → MH → Prop} (ex : (x = .tup xs ∧ y = .tup ys) ∨ (x = .lst xs ∧ y = .lst ys)) (hx : D.oks k xs = true) (hy : D.oks k ys = true) (hl : xs.length = ys.length)
    (q : ∀ b : Bool, (b = true ↔ xs = ys) → K (.bl b) h) : likeT G [some x, some y, none] h K := by
  have sx : seqOf h x = some xs := by rcases ex with ⟨rfl, _⟩ | ⟨rfl, _⟩ <;> rfl
  have ix : ∀ (i : Nat) (v : D) Q, xs[i]? = some v → Q v h → wIx h x (.int (i : Int)) Q := fun i v Q e q => by
    rcases ex with ⟨rfl, _⟩ | ⟨rfl, _⟩
    · exact ⟨v, by rw [atI_of]; exact e, q⟩
    · exact w_ixL.mpr ⟨v, by rw [atI_of]; exact e, q⟩
  have iy : ∀ (i : Nat) (v : D) Q, ys[i]? = some v → Q v h → wIx h y (.int (i : Int)) Q := fun i v Q e q => by
    rcases ex with ⟨_, rfl⟩ | ⟨_, rfl⟩
    · exact ⟨v, by rw [atI_of]; exact e, q⟩
    · exact w_ixL.mpr ⟨v, by rw [atI_of]; exact e, q⟩
  classical
  have hG' : ∀ (i : Nat), i < xs.length → ∀ (P : D → MH → Prop), (∀ b : Bool, (b = true ↔ xs[i]? = ys[i]?) → P (.bl b) h) → ∃ a b, xs[i]? = some a ∧ ys[i]? = some b ∧ G [a, b] h P := by
    intro i hi P hp
    have e1 := List.getElem?_eq_getElem hi
    have e2 := List.getElem?_eq_getElem (show i < ys.length by omega)
    exact ⟨_, _, e1, e2, hG _ _ _ ⟨_, _, rfl, oks_get hx e1, oks_get hy e2, fun b hb => hp b (by rw [e1, e2, Option.some.injEq]; exact hb)⟩⟩
  unfold likeT
  simp
  refine w_len sx fun hz => ?_
  have hz' : xs.length < 2 ^ 62 := Nat.lt_of_le_of_lt hz (by decide)
  refine ⟨_, rfl, by omega, by omega, ?_⟩
  simp only [Int.toNat_natCast]
  refine turns_filter (enc := fun i : Nat => D.int i) (fun i => !decide (xs[i]? = ys[i]?)) (fun i => .int i) trivial (List.range xs.length) [] (by simpa using hz) (fun i hi acc K' hl k1 k2 => ?_) ?_
  · have hi : i < xs.length := by simpa using hi
    obtain ⟨a, b, e1, e2, g⟩ := hG' i hi (fun d h1 => (match d with | .bl b => (match !b with | true => acc.length < sizeLine ∧ K' (acc ++ [.int i]) h1 | false => K' acc h1) | _ => False)) (by
      intro b hb
      cases b with
      | true => exact k2 (by simpa using hb.mp rfl)
      | false =>
        have : ¬ xs[i]? = ys[i]? := fun q => by simpa using hb.mpr q
        simp
        exact ⟨hl, k1 (by simpa using this)⟩)
    simp
    refine ix i a _ e1 ?_
    refine iy i b _ e2 ?_
    exact g
  · simp
    refine .inl ⟨?_, by simp [D.ok, D.oks], q _ ?_⟩
    · rw [D.ok]
      refine oks_map (enc := fun i : Nat => D.int i) fun i _ => by simp [D.ok]
    · rw [Bool.false_xor, eqv_iff _ _ (by rw [D.smp]; exact smps_map (enc := fun i : Nat => D.int i) (fun i => by simp [D.smp]) _) (by simp [D.smp, D.smps])]
      rw [D.lst.injEq, List.map_eq_nil_iff, List.filter_eq_nil_iff]
      constructor
      · intro hh
        refine List.ext_getElem? fun i => ?_
        by_cases hi : i < xs.length
        · have := hh i (by simpa using hi)
          simpa using this
        · rw [List.getElem?_eq_none (by omega), List.getElem?_eq_none (by omega)]
      · rintro rfl i _
        simp
def isSeq : D → Bool
  | .tup _ => true
  | .lst _ => true
  | _ => false
set_option maxHeartbeats 0 in
theorem p_like {k : Nat} (hk : k < 50) {G : Gs} (hG : ∀ j, k = j + 1 → ∀ ds h K, likeG j ds h K → G ds h K) {ds : List D} {h : MH} {K : D → MH → Prop} (g : likeG k ds h K) : bodyG 3 2 (s_L_like G) ds h K := by
  obtain ⟨x, y, rfl, hx, hy, q⟩ := g
  refine ⟨rfl, ?_⟩
  have seqs : ∀ xs ys, ((x = .tup xs ∧ y = .tup ys) ∨ (x = .lst xs ∧ y = .lst ys)) → sSeq (sIf (cTest (cBin (wEq true) (cB bLen (aCons (cVar 0) aNil)) (cB bLen (aCons (cVar 1) aNil)))) (sRet (cK (.bl false))) sNil) (sRet (likeT G))
      { nx := fun _ h' => gcK h K .non h', rt := fun d h' => gcK h K d h', bk := fun _ _ => False, ct := fun _ _ => False } [some x, some y, none] h := by
    intro xs ys ex
    have sx : seqOf h x = some xs := by rcases ex with ⟨rfl, _⟩ | ⟨rfl, _⟩ <;> rfl
    have sy : seqOf h y = some ys := by rcases ex with ⟨_, rfl⟩ | ⟨_, rfl⟩ <;> rfl
    simp
    refine w_len sx fun _ => w_len sy fun _ => ?_
    by_cases hl : xs.length = ys.length
    · simp [hl]
      cases k with
      | zero => rcases ex with ⟨rfl, _⟩ | ⟨rfl, _⟩ <;> simp [D.ok] at hx
      | succ j =>
        have hx' : D.oks j xs = true := by rcases ex with ⟨rfl, _⟩ | ⟨rfl, _⟩ <;> simpa [D.ok] using hx
        have hy' : D.oks j ys = true := by rcases ex with ⟨_, rfl⟩ | ⟨_, rfl⟩ <;> simpa [D.ok] using hy
        refine like_items (hG j rfl) ex hx' hy' hl fun b hb => gc_same (q b (hb.trans ?_))
        rcases ex with ⟨rfl, rfl⟩ | ⟨rfl, rfl⟩ <;> simp
    · have hl' : ¬ ((xs.length : Int) = (ys.length : Int)) := by omega
      simp [hl']
      refine gc_same (q false ?_)
      rcases ex with ⟨rfl, rfl⟩ | ⟨rfl, rfl⟩ <;> (simp; rintro rfl; exact hl rfl)
  have no : x ≠ y → K (.bl false) h := fun e => q false (by simp [e])
  have up : ∀ d : D, isSeq d = false → D.ok k d = true → D.ok 60 d = true := fun d h1 h2 => by
    cases d <;> simp_all [isSeq, D.ok]
  have atoms : isSeq x = false → isSeq y = false → (∀ b i, ¬ (x = .bl b ∧ y = .int i) ∧ ¬ (x = .int i ∧ y = .bl b)) → wEq false h x y fun d h' => gcK h K d h' := by
    intro h1 h2 hb
    refine w_eq_ok (up x h1 hx) (up y h2 hy) (gc_same (q _ ?_))
    rw [Bool.false_xor]
    cases x <;> cases y <;> simp [isSeq, D.eqv, D.pd, PyData.eqv, D.ok] at h1 h2 hx hy hb ⊢
  have fin : gcK h K (.bl false) h → ∀ n m, tyN h x = some n → tyN h y = some m → (isiT n "list" != isiT m "list" || isiT n "tuple" != isiT m "tuple") = true → s_L_like G { nx := fun _ h' => gcK h K .non h', rt := fun d h' => gcK h K d h', bk := fun _ _ => False, ct := fun _ _ => False } [some x, some y, none] h := by
    intro z n m e1 e2 e3
    cases a1 : isiT n "list" <;> cases a3 : isiT n "tuple"
    · cases a2 : isiT m "list" <;> cases a4 : isiT m "tuple" <;> simp [a1, a2, a3, a4] at e3 <;> simp [s_L_like, e1, e2, a1, a2, a3, a4, z]
    · cases a2 : isiT m "list" <;> cases a4 : isiT m "tuple" <;> simp [a1, a2, a3, a4] at e3 <;> simp [s_L_like, e1, e2, a1, a2, a3, a4, z]
    · cases a2 : isiT m "list" <;> cases a4 : isiT m "tuple" <;> simp [a1, a2, a3, a4] at e3 <;> simp [s_L_like, e1, e2, a1, a2, a3, a4, z]
    · cases a2 : isiT m "list" <;> cases a4 : isiT m "tuple" <;> simp [a1, a2, a3, a4] at e3 <;> simp [s_L_like, e1, e2, a1, a2, a3, a4, z]
  have fin2 : ∀ n m, tyN h x = some n → tyN h y = some m → isiT n "list" = false → isiT n "tuple" = false → isiT m "list" = false → isiT m "tuple" = false → (match (isiT n "bool" == isiT m "bool") with
      | true => wEq false h x y fun d h' => gcK h K d h'
      | false => gcK h K (.bl false) h) → s_L_like G { nx := fun _ h' => gcK h K .non h', rt := fun d h' => gcK h K d h', bk := fun _ _ => False, ct := fun _ _ => False } [some x, some y, none] h := by
    intro n m e1 e2 a1 a2 a3 a4 z
    revert z
    generalize hc : (isiT n "bool" == isiT m "bool") = c
    intro z
    simp [s_L_like, e1, e2, a1, a2, a3, a4, hc]
    cases c <;> exact z
  show s_L_like G _ [some x, some y, none] h
  cases x with
  | tup xs =>
    cases y with
    | tup ys =>
      simp [s_L_like, tyN, isiT]
      simpa [likeT] using seqs xs ys (.inl ⟨rfl, rfl⟩)
    | scr _ => simp [D.ok] at hy
    | ref _ => simp [D.ok] at hy
    | _ => exact fin (gc_same (no (by simp))) _ _ rfl rfl (by decide)
  | lst xs =>
    cases y with
    | lst ys =>
      simp [s_L_like, tyN, isiT]
      simpa [likeT] using seqs xs ys (.inr ⟨rfl, rfl⟩)
    | scr _ => simp [D.ok] at hy
    | ref _ => simp [D.ok] at hy
    | _ => exact fin (gc_same (no (by simp))) _ _ rfl rfl (by decide)
  | scr _ => simp [D.ok] at hx
  | ref _ => simp [D.ok] at hx
  | bl a =>
    cases y with
    | tup ys => exact fin (gc_same (no (by simp))) _ _ rfl rfl (by decide)
    | lst ys => exact fin (gc_same (no (by simp))) _ _ rfl rfl (by decide)
    | scr _ => simp [D.ok] at hy
    | ref _ => simp [D.ok] at hy
    | bl b => exact fin2 _ _ rfl rfl rfl rfl rfl rfl (atoms rfl rfl (by simp))
    | _ => exact fin2 _ _ rfl rfl rfl rfl rfl rfl (gc_same (no (by simp)))
  | int a =>
    cases y with
    | tup ys => exact fin (gc_same (no (by simp))) _ _ rfl rfl (by decide)
    | lst ys => exact fin (gc_same (no (by simp))) _ _ rfl rfl (by decide)
    | scr _ => simp [D.ok] at hy
    | ref _ => simp [D.ok] at hy
    | bl b => exact fin2 _ _ rfl rfl rfl rfl rfl rfl (gc_same (no (by simp)))
    | _ => exact fin2 _ _ rfl rfl rfl rfl rfl rfl (atoms rfl rfl (by simp))
  | _ =>
    cases y with
    | tup ys => exact fin (gc_same (no (by simp))) _ _ rfl rfl (by decide)
    | lst ys => exact fin (gc_same (no (by simp))) _ _ rfl rfl (by decide)
    | scr _ => simp [D.ok] at hy
    | ref _ => simp [D.ok] at hy
    | bl b => exact fin2 _ _ rfl rfl rfl rfl rfl rfl (gc_same (no (by simp)))
    | _ => exact fin2 _ _ rfl rfl rfl rfl rfl rfl (atoms rfl rfl (by simp))
end Z

set_option Elab.async false
set_option linter.all false
set_option maxRecDepth 100000
/-! M5: drawn disks; tables of names and files -/
namespace Z
open PySem PySem.Spec PyProof.Rows L2

/-! drawn disks -/
def isDisk (ns : List Str) (d : Dk) : Prop := ∃ F : List Fl, d = srt eFl (F.map fun x => (srt eS x.1, x.2)) ∧ (F.flatMap (·.1)).Nodup ∧ (∀ x ∈ F, x.1 ≠ [] ∧ x.2 ∈ CONT) ∧ ∀ n ∈ F.flatMap (·.1), n ∈ ns
/-- the files' list, the names' lists behind it -/
def fD (L j : Nat) : List Fl → List D
  | [] => []
  | x :: F => .tup [.ref (L + j), .int x.2] :: fD L (j + 1) F
def fO (x : Fl) : O := .lst (x.1.map eS)
theorem fD_len {L : Nat} : ∀ {j : Nat} {F : List Fl}, (fD L j F).length = F.length
  | _, [] => rfl
  | j, x :: F => by rw [fD, List.length_cons, List.length_cons, fD_len]
theorem fD_get {L : Nat} : ∀ {j : Nat} {F : List Fl} {r : Nat} {x : Fl}, F[r]? = some x → (fD L j F)[r]? = some (.tup [.ref (L + (j + r)), .int x.2])
  | _, [], _, _, e => by simp at e
  | j, y :: F, 0, x, e => by
    simp at e
    subst e
    rfl
  | j, y :: F, r + 1, x, e => by
    have := fD_get (L := L) (j := j + 1) (F := F) (r := r) (x := x) (by simpa using e)
    rw [fD, List.getElem?_cons_succ, this]
    have : j + 1 + r = j + (r + 1) := by omega
    rw [this]
theorem fD_set {L : Nat} : ∀ {j : Nat} {F : List Fl} {r : Nat} {g : List Str}, fD L j (F.modify r fun x => (x.1 ++ g, x.2)) = fD L j F
  | _, [], r, g => by simp
  | j, y :: F, 0, g => by simp [fD]
  | j, y :: F, r + 1, g => by simp [fD, fD_set]
theorem fD_app {L : Nat} {x : Fl} : ∀ {j : Nat} {F : List Fl}, fD L j (F ++ [x]) = fD L j F ++ [.tup [.ref (L + (j + F.length)), .int x.2]]
  | j, [] => by simp [fD]
  | j, y :: F => by
    rw [List.cons_append, fD, fD_app, fD]
    have : j + 1 + F.length = j + (y :: F).length := by simp; omega
    rw [this]
    rfl
theorem fD_zip {L : Nat} : ∀ {j : Nat} {F : List Fl}, fD L j F = (F.zipIdx j).map fun p => .tup [.ref (L + p.2), .int p.1.2]
  | _, [] => rfl
  | j, y :: F => by rw [fD, fD_zip, List.zipIdx_cons, List.map_cons]
theorem optAll_map {α β γ : Type} {f : β → Option γ} {g : α → β} {k : α → γ} : ∀ {l : List α}, (∀ a ∈ l, f (g a) = some (k a)) → optAll ((l.map g).map f) = some (l.map k)
  | [], _ => rfl
  | a :: l, h => by
    rw [List.map_cons, List.map_cons, h a (List.mem_cons_self ..), optAll, optAll_map fun b hb => h b (List.mem_cons_of_mem _ hb)]
    rfl
theorem fD_ref {h : MH} {L n : Nat} : ∀ {j : Nat} {F : List Fl}, (∀ r x, F[r]? = some x → h[L + (j + r)]? = some (fO x)) → optAll ((fD L j F).map (dref h (n + 3))) = some (F.map fun x => .tup [.lst (x.1.map eS), .int x.2])
  | _, [], _ => rfl
  | j, y :: F, hh => by
    have h0 := hh 0 y rfl
    have ih := fD_ref (h := h) (L := L) (n := n) (j := j + 1) (F := F) fun r x e => by
      have := hh (r + 1) x (by simpa using e)
      rw [show j + 1 + r = j + (r + 1) by omega]
      exact this
    have e1 : optAll ((y.1.map eS).map (dref h (n + 1))) = some (y.1.map eS) := optAll_map fun a _ => by simp [eS, dref]
    have e2 : dref h (n + 3) (.tup [.ref (L + j), .int y.2]) = some (.tup [.lst (y.1.map eS), .int y.2]) := by
      have h0 : h[L + j]? = some (.lst (y.1.map eS)) := h0
      simp only [dref, List.map_cons, List.map_nil, h0, e1, Option.map_some, optAll]
    rw [fD, List.map_cons, e2, optAll, ih]
    rfl
def G_L_disk : Gs := fun ds h K => ∃ (t b : Nat) (ns : List Str), ds = [.ref t, .lst (ns.map eS)] ∧ ns.Nodup ∧ okNs ns ∧ ns.length ≤ 1000 ∧ Tp h t (b + 2 * ns.length) ∧ ∀ (d : Dk) (o : O), isDisk ns d → Tp (h.set t o) t b → K (eDk d) (h.set t o)
theorem mod_perm {n : Str} : ∀ {F : List Fl} {j : Nat}, j < F.length → ((F.modify j fun x => (x.1 ++ [n], x.2)).flatMap (·.1)).Perm (n :: F.flatMap (·.1))
  | [], _, h => by simp at h
  | x :: F, 0, _ => by
    simp only [List.modify_zero_cons, List.flatMap_cons, List.append_assoc]
    exact List.perm_middle
  | x :: F, j + 1, h => by
    simp only [List.modify_succ_cons, List.flatMap_cons]
    have ih := mod_perm (n := n) (F := F) (j := j) (by simpa using h)
    exact (ih.append_left x.1).trans List.perm_middle
theorem len_flat {F : List Fl} {x : Fl} (h : x ∈ F) : x.1.length ≤ (F.flatMap (·.1)).length := by
  induction F with
  | nil => cases h
  | cons y F ih =>
    rw [List.flatMap_cons, List.length_append]
    rcases List.mem_cons.mp h with rfl | h
    · omega
    · have := ih h
      omega
theorem mod_fO {n : Str} : ∀ {F : List Fl} {j : Nat} (h : j < F.length), (F.modify j fun x => (x.1 ++ [n], x.2)).map fO = (F.map fO).set j (.lst (F[j].1.map eS ++ [eS n]))
  | [], _, h => by simp at h
  | x :: F, 0, _ => by simp [fO]
  | x :: F, j + 1, h => by
    have ih := mod_fO (n := n) (F := F) (j := j) (by simpa using h)
    simp [ih]
theorem mem_mod {n : Str} {F : List Fl} {j : Nat} {y : Fl} (h : y ∈ F.modify j fun x => (x.1 ++ [n], x.2)) : ∃ x ∈ F, y = x ∨ y = (x.1 ++ [n], x.2) := by
  induction F generalizing j with
  | nil => simp at h
  | cons x F ih =>
    cases j with
    | zero =>
      simp only [List.modify_zero_cons, List.mem_cons] at h
      rcases h with rfl | h
      · exact ⟨x, List.mem_cons_self .., .inr rfl⟩
      · exact ⟨y, List.mem_cons_of_mem _ h, .inl rfl⟩
    | succ j =>
      simp only [List.modify_succ_cons, List.mem_cons] at h
      rcases h with rfl | h
      · exact ⟨y, List.mem_cons_self .., .inl rfl⟩
      · obtain ⟨z, hz, q⟩ := ih h
        exact ⟨z, List.mem_cons_of_mem _ hz, q⟩
/-- the state of its loop -/
def diskP (h : MH) (t b : Nat) (ns : List Str) (p : List Str) (ρ : Rho) (h' : MH) : Prop :=
  ∃ (F : List Fl) (o : O) (x y z w : Option D), ρ = [some (.ref t), some (.lst (ns.map eS)), some (.ref h.length), x, y, z, w] ∧ Tp (h.set t o) t (b + 2 * (ns.length - p.length)) ∧ (F.flatMap (·.1)).Nodup ∧ (∀ x ∈ F, x.1 ≠ [] ∧ x.2 ∈ CONT) ∧ (∀ n ∈ F.flatMap (·.1), n ∈ p) ∧ F.length ≤ p.length ∧ (F.flatMap (·.1)).length ≤ p.length ∧
    h' = h.set t o ++ .lst (fD h.length 1 F) :: F.map fO
theorem tp_left {h R : MH} {t b : Nat} (hl : t < h.length) : Tp (h ++ R) t b ↔ Tp h t b := by
  unfold Tp
  rw [List.getElem?_append_left hl]
theorem set_left {h R : MH} {t : Nat} {o o2 : O} (hl : t < h.length) : (h.set t o ++ R).set t o2 = h.set t o2 ++ R := by
  rw [List.set_append_left _ _ (by simpa using hl), List.set_set]
theorem get_L {h R : MH} {t : Nat} {o o2 : O} : (h.set t o ++ o2 :: R)[h.length]? = some o2 := by
  rw [List.getElem?_append_right (by simp)]
  simp
theorem get_Lr {h R : MH} {t r : Nat} {o o2 : O} : (h.set t o ++ o2 :: R)[h.length + (1 + r)]? = R[r]? := by
  rw [List.getElem?_append_right (by simp <;> omega)]
  have : h.length + (1 + r) - (h.set t o).length = r + 1 := by rw [List.length_set, Nat.add_comm 1 r, Nat.add_sub_cancel_left]
  rw [this]
  simp
theorem set_L {h R : MH} {t : Nat} {o o2 o3 : O} : (h.set t o ++ o2 :: R).set h.length o3 = h.set t o ++ o3 :: R := by
  rw [List.set_append_right _ _ (by simp)]
  simp
theorem set_Lr {h R : MH} {t r : Nat} {o o2 o3 : O} : (h.set t o ++ o2 :: R).set (h.length + (1 + r)) o3 = h.set t o ++ o2 :: R.set r o3 := by
  rw [List.set_append_right _ _ (by simp <;> omega)]
  have : h.length + (1 + r) - (h.set t o).length = r + 1 := by rw [List.length_set, Nat.add_comm 1 r, Nat.add_sub_cancel_left]
  rw [this]
  simp
theorem p_disk {ds : List D} {h : MH} {K : D → MH → Prop} (g : G_L_disk ds h K) : bodyG 7 2 (s_L_disk G_L_draw G_L_content) ds h K := by
  obtain ⟨t, b, ns, rfl, nd, okn, hlen, x, k⟩ := g
  have hlt := x.lt
  refine ⟨rfl, ?_⟩
  simp [s_L_disk, List.replicate]
  refine forL_pre (enc := eS) (diskP h t b ns) ns _ _ ⟨[], h[t], none, none, none, none, by simp [eS], by simpa using x, by simp, by simp, by simp, by simp, by simp, by simp [fD]⟩ (fun _ _ _ _ => trivial) (fun p n q e ρ' h' K' hP k' => ?_) fun ρ' h' hP => ?_
  · obtain ⟨F, o, v3, v4, v5, v6, rfl, tp, fnd, fne, fin, flen, fln, rfl⟩ := hP
    have hm : ns.length - p.length = (ns.length - (p ++ [n]).length) + 1 := by
      rw [e]
      simp
      omega
    rw [hm] at tp
    have hn : n ∉ p := by
      rw [e] at nd
      have := (List.nodup_append.mp nd).2.2
      exact fun z => this n z n (by simp) rfl
    have hnF : n ∉ F.flatMap (·.1) := fun z => hn (fin n z)
    simp
    refine draw_call (b := b + 2 * (ns.length - (p ++ [n]).length) + 1) (by decide) (by decide) ((tp_left (by simpa using hlt)).mpr (tp.mono (by omega))) fun r o1 r0 r1 x1 => ?_
    rw [set_left hlt] at x1 ⊢
    have x1 := (tp_left (by simpa using hlt)).mp x1
    have hlt1 : ∀ o, t < (h.set t o).length := fun o => by simpa using hlt
    have nm : (p ++ [n]).length = p.length + 1 := by simp
    have tyL : ∀ o2 F', tyD (h.set t o2 ++ .lst (fD h.length 1 F') :: F'.map fO) (.ref h.length) = some "list" := fun o2 F' => by
      simp only [tyD]
      rw [get_L]
    have skip : r = 0 → K' [some (.ref t), some (.lst (ns.map eS)), some (.ref h.length), some (eS n), some (.int r), v5, v6] (h.set t o1 ++ .lst (fD h.length 1 F) :: F.map fO) := fun hr => by
      refine k' _ _ ⟨F, o1, _, _, _, _, rfl, x1.mono (by omega), fnd, fne, fun m hm => List.mem_append_left _ (fin m hm), by omega, by omega, rfl⟩
    -- a new file
    have new : G_L_content [.ref t] (h.set t o1 ++ .lst (fD h.length 1 F) :: F.map fO ++ [.lst [eS n]]) fun d h1 => mAppend h1 (.ref h.length) [.tup [.ref (h.length + (F.length + 1)), d]] fun x h' =>
        K' [some (.ref t), some (.lst (ns.map eS)), some (.ref h.length), some (eS n), some (.int r), v5, v6] h' := by
      refine ⟨t, b + 2 * (ns.length - (p ++ [n]).length), rfl, ?_, fun v o2 hv x2 => ?_⟩
      · rw [List.append_assoc]
        exact (tp_left (hlt1 o1)).mpr x1
      · rw [List.append_assoc, set_left hlt] at x2 ⊢
        have x2 := (tp_left (hlt1 o2)).mp x2
        refine w_app (xs := fD h.length 1 F) get_L (by rw [fD_len]; exact Nat.lt_of_le_of_lt flen (Nat.lt_of_le_of_lt (by rw [e]; simp) (Nat.lt_of_le_of_lt hlen (by decide)))) ?_
        rw [List.cons_append, set_L]
        refine k' _ _ ⟨F ++ [([n], v)], o2, _, _, _, _, rfl, x2, ?_, ?_, ?_, ?_, ?_, ?_⟩
        · rw [List.flatMap_append, List.nodup_append]
          refine ⟨fnd, by simp, fun a ha c hc hac => ?_⟩
          have : c = n := by simpa using hc
          subst this
          subst hac
          exact hnF ha
        · intro y hy
          rcases List.mem_append.mp hy with hy | hy
          · exact fne y hy
          · have : y = ([n], v) := by simpa using hy
            subst this
            exact ⟨by simp, hv⟩
        · intro m hm'
          rw [List.flatMap_append] at hm'
          rcases List.mem_append.mp hm' with hm' | hm'
          · exact List.mem_append_left _ (fin m hm')
          · have : m = n := by simpa using hm'
            subst this
            simp
        · simp
          omega
        · have e9 : ([([n], v)] : List Fl).flatMap (·.1) = [n] := rfl
          rw [List.flatMap_append, List.length_append, e9, nm, List.length_singleton]
          omega
        · rw [fD_app, Nat.add_comm F.length 1, List.map_append]
          rfl
    by_cases hr : r = 1
    · simp [hr]
      by_cases hF : F = []
      · subst hF
        refine .inr ⟨.lst [], .lst [], ?_, rfl, by simp [D.ok, D.oks], by simp [D.ok, D.oks], ?_⟩
        · simp only [dref, get_L]
          rfl
        · have ev : D.eqv (.lst []) (.lst []) = true := by simp [D.eqv, D.pd, D.pds, PyData.eqv, PyData.eqvAll]
          rw [ev]
          simp
          refine ⟨_, tyL o1 [], rfl, ?_⟩
          simpa [hr] using new
      · refine .inr ⟨.lst (F.map fun x => .tup [.lst (x.1.map eS), .int x.2]), .lst [], ?_, rfl, ?_, by simp [D.ok, D.oks], ?_⟩
        · have hg : ∀ r x, F[r]? = some x → (h.set t o1 ++ .lst (fD h.length 1 F) :: F.map fO)[h.length + (1 + r)]? = some (fO x) := fun r x er => by
            rw [get_Lr, List.getElem?_map, er]
            rfl
          have := fD_ref (n := 5) hg
          simp only [dref, get_L]
          rw [this]
          rfl
        · rw [D.ok]
          refine oks_map (enc := fun x : Fl => D.tup [.lst (x.1.map eS), .int x.2]) fun x hx => ?_
          have : D.oks 57 (x.1.map eS) = true := oks_map fun a ha => ok_S (okn a (by rw [e]; exact List.mem_append_left _ (fin a (List.mem_flatMap.mpr ⟨x, hx, ha⟩))))
          simp [D.ok, D.oks, this]
        · have ev : D.eqv (.lst (F.map fun x => .tup [.lst (x.1.map eS), .int x.2])) (.lst []) = false := by
            cases F with
            | nil => exact (hF rfl).elim
            | cons => simp [D.eqv, D.pd, D.pds, PyData.eqv, PyData.eqvAll]
          rw [ev]
          simp
          have hFl : 0 < F.length := List.length_pos_iff.mpr hF
          have hFm : F.length ≤ 1000 := Nat.le_trans flen (Nat.le_trans (by rw [e]; simp) hlen)
          have sq : ∀ o2, seqOf (h.set t o2 ++ .lst (fD h.length 1 F) :: F.map fO) (.ref h.length) = some (fD h.length 1 F) := fun o2 => by
            simp only [seqOf, lstOf]
            rw [get_L]
          refine w_len (sq o1) fun _ => ?_
          rw [fD_len]
          refine draw_call (b := b + 2 * (ns.length - (p ++ [n]).length)) (by omega) (by omega) ((tp_left (hlt1 o1)).mpr x1) fun r2 o2 r3 r4 x2 => ?_
          rw [set_left hlt] at x2 ⊢
          have x2 := (tp_left (hlt1 o2)).mp x2
          obtain ⟨j, rfl⟩ : ∃ j : Nat, r2 = j := ⟨r2.toNat, by omega⟩
          have hj : j < F.length := by omega
          have ej := List.getElem?_eq_getElem hj
          rw [w_ixR (xs := fD h.length 1 F) get_L]
          refine ⟨_, by rw [atI_of]; exact fD_get ej, ?_⟩
          rw [w_ixT]
          refine ⟨_, w_atI0, "list", ?_, rfl, ?_⟩
          · simp only [tyD]
            rw [get_Lr, List.getElem?_map, ej]
            rfl
          · refine w_app (xs := F[j].1.map eS) (by rw [get_Lr, List.getElem?_map, ej]; rfl) ?_ ?_
            · have := len_flat (List.getElem_mem hj)
              have h2 : p.length ≤ 1000 := Nat.le_trans (by rw [e]; simp) hlen
              have h3 : 1000 < sizeLine := by decide
              simp
              omega
            · rw [set_Lr]
              have pm := mod_perm (n := n) hj
              subst hr
              refine k' _ _ ⟨F.modify j fun x => (x.1 ++ [n], x.2), o2, _, _, _, _, rfl, x2, ?_, ?_, ?_, ?_, ?_, ?_⟩
              · exact pm.nodup_iff.mpr (List.nodup_cons.mpr ⟨hnF, fnd⟩)
              · intro y hy
                obtain ⟨z, hz, rfl | rfl⟩ := mem_mod hy
                · exact fne y hz
                · exact ⟨by simp, (fne z hz).2⟩
              · intro m hm'
                rcases List.mem_cons.mp (pm.mem_iff.mp hm') with rfl | hm'
                · simp
                · exact List.mem_append_left _ (fin m hm')
              · rw [List.length_modify]
                omega
              · rw [pm.length_eq, List.length_cons, nm]
                omega
              · rw [fD_set, mod_fO hj]
    · simp [hr]
      by_cases h0 : 0 < r
      · simp [h0]
        refine ⟨_, tyL o1 F, rfl, ?_⟩
        simpa using new
      · simp [h0]
        exact skip (by omega)
  · obtain ⟨F, o, v3, v4, v5, v6, rfl, tp, fnd, fne, fin, flen, fln, rfl⟩ := hP
    simp
    simp only [iW]
    rw [get_L, fD_zip]
    have hz : F.length ≤ sizeLine := Nat.le_trans flen (Nat.le_trans hlen (by decide))
    refine turns_all (fun p : Fl × Nat => eFl (srt eS p.1.1, p.1.2)) get_L (F.zipIdx 1) [] (by simpa using hz) (fun q hq acc K' hl k' => ?_) ?_
    · obtain ⟨y, j⟩ := q
      obtain ⟨h1j, hj⟩ := List.mk_mem_zipIdx_iff_le_and_getElem?_sub.mp hq
      have ej : (h.set t o ++ O.lst ((F.zipIdx 1).map fun p => .tup [.ref (h.length + p.2), .int p.1.2]) :: F.map fO)[h.length + j]? = some (fO y) := by
        rw [show h.length + j = h.length + (1 + (j - 1)) by omega, get_Lr, List.getElem?_map, hj]
        rfl
      have hy : y ∈ F := List.mem_of_getElem? hj
      simp
      have sq : seqOf (h.set t o ++ O.lst ((F.zipIdx 1).map fun p => .tup [.ref (h.length + p.2), .int p.1.2]) :: F.map fO) (.ref (h.length + j)) = some (y.1.map eS) := by
        simp only [seqOf, lstOf]
        rw [ej]
        rfl
      refine w_sorted srtE_S (l := y.1) (fun z hz => okn z (fin z (List.mem_flatMap.mpr ⟨y, hy, hz⟩))) sq ?_
      simp [hl]
      simpa [eFl, eNs] using k'
    · have e1 : (F.zipIdx 1).map (fun p : Fl × Nat => eFl (srt eS p.1.1, p.1.2)) = (F.map fun x => (srt eS x.1, x.2)).map eFl := by
        rw [List.map_map]
        have : ∀ (F : List Fl) j, (F.zipIdx j).map (fun p : Fl × Nat => eFl (srt eS p.1.1, p.1.2)) = F.map (eFl ∘ fun x => (srt eS x.1, x.2)) := by
          intro F
          induction F with
          | nil => intro j; rfl
          | cons y F ih => intro j; rw [List.zipIdx_cons, List.map_cons, List.map_cons, ih]; rfl
        exact this F 1
      rw [List.nil_append, e1]
      refine w_sorted srtE_Fl (l := F.map fun x => (srt eS x.1, x.2)) (fun f hf => ?_) rfl ?_
      · obtain ⟨y, hy, rfl⟩ := List.mem_map.mp hf
        exact fun z hz => okn z (fin z (List.mem_flatMap.mpr ⟨y, hy, mem_srt.mp hz⟩))
      · simp
        have tp2 : Tp (h.set t o) t b := tp.mono (by omega)
        obtain ⟨ns2, i2, c2, e2, _⟩ := tp2
        refine gc_mod (by simp) (bel_smp (smp_Dk _)) (fun i ob ei => ?_) (k _ o ⟨F, rfl, fnd, fne, fin⟩ (tp.mono (by omega)))
        by_cases hit : i = t
        · subst hit
          rw [e2] at ei
          cases ei
          refine .inr ?_
          simp only [tape, O.bel, D.bels, D.bel, Bool.and_true, Bool.true_and]
          exact bels_smp (smps_map (enc := D.int) (fun i => by simp [D.smp]) ns2)
        · rw [List.getElem?_set_ne (fun q => hit q.symm)] at ei
          exact .inl ei
end Z

set_option Elab.async false
set_option linter.all false
set_option maxRecDepth 100000
/-! M6: tables of names and files -/
namespace Z
open PySem PySem.Spec PyProof.Rows L2

/-! association lists -/
section
variable {α β : Type} [DecidableEq α]
def aget (l : List (α × β)) (a : α) : Option β := (l.find? fun p => decide (p.1 = a)).map (·.2)
def aput (l : List (α × β)) (a : α) (b : β) : List (α × β) := if l.any fun p => decide (p.1 = a) then l.map fun p => if p.1 = a then (p.1, b) else p else l ++ [(a, b)]
def adrop (l : List (α × β)) (a : α) : List (α × β) := l.filter fun p => decide (p.1 ≠ a)
def kvs (fk : α → Key) (fv : β → D) (l : List (α × β)) : List (Key × D) := l.map fun p => (fk p.1, fv p.2)
variable {fk : α → Key} {fv : β → D} (inj : ∀ a b, fk a = fk b → a = b)
include inj
theorem kvs_get (a : α) : ∀ l : List (α × β), getKV (kvs fk fv l) (fk a) = (aget l a).map fv
  | [] => rfl
  | p :: l => by
    have ih := kvs_get a l
    unfold getKV aget at ih ⊢
    unfold kvs at ih ⊢
    rw [List.map_cons, List.find?_cons, List.find?_cons]
    by_cases e : p.1 = a
    · simp [e]
    · have : ¬ fk p.1 = fk a := fun q => e (inj _ _ q)
      simp only [e, this, decide_false]
      exact ih
theorem kvs_any (a : α) (l : List (α × β)) : ((kvs fk fv l).any fun kv => decide (kv.1 = fk a)) = l.any fun p => decide (p.1 = a) := by
  unfold kvs
  rw [List.any_map]
  congr 1
  funext p
  simp only [Function.comp]
  by_cases e : p.1 = a
  · simp [e]
  · have : ¬ fk p.1 = fk a := fun q => e (inj _ _ q)
    simp [e, this]
theorem kvs_put (a : α) (b : β) (l : List (α × β)) : putKV (kvs fk fv l) (fk a) (fv b) = kvs fk fv (aput l a b) := by
  unfold putKV aput
  rw [kvs_any inj]
  split
  · unfold kvs
    rw [List.map_map, List.map_map]
    refine List.map_congr_left fun p _ => ?_
    simp only [Function.comp]
    by_cases e : p.1 = a
    · simp [e]
    · have : ¬ fk p.1 = fk a := fun q => e (inj _ _ q)
      simp [e, this]
  · simp [kvs]
theorem kvs_drop (a : α) (l : List (α × β)) : dropKV (kvs fk fv l) (fk a) = kvs fk fv (adrop l a) := by
  unfold dropKV adrop kvs
  rw [List.filter_map]
  congr 1
  refine List.filter_congr fun p _ => ?_
  simp only [Function.comp]
  by_cases e : p.1 = a
  · simp [e]
  · have : ¬ fk p.1 = fk a := fun q => e (inj _ _ q)
    simp [e, this]
omit inj
theorem aput_len (l : List (α × β)) (a : α) (b : β) : (aput l a b).length ≤ l.length + 1 := by
  unfold aput
  split <;> simp
theorem aget_put (l : List (α × β)) (a : α) (b : β) (a' : α) : aget (aput l a b) a' = if a' = a then some b else aget l a' := by
  unfold aput
  induction l with
  | nil =>
    by_cases e : a' = a
    · simp [aget, e]
    · have : ¬ a = a' := fun q => e q.symm
      simp [aget, e, this]
  | cons p l ih =>
    by_cases h1 : p.1 = a
    · simp only [List.any_cons, h1, decide_true, Bool.true_or, if_true, List.map_cons]
      by_cases e : a' = a
      · simp [aget, e]
      · have e' : ¬ a = a' := fun q => e q.symm
        simp only [aget, List.find?_cons, e', decide_false, h1, if_neg e]
        congr 1
        clear ih
        induction l with
        | nil => rfl
        | cons q l ih2 =>
          rw [List.map_cons, List.find?_cons, List.find?_cons]
          by_cases h2 : q.1 = a
          · simp only [h2, if_true, e', decide_false]
            exact ih2
          · simp only [h2, if_false]
            split
            · rfl
            · exact ih2
    · simp only [List.any_cons, h1, decide_false, Bool.false_or]
      by_cases h2 : (l.any fun p => decide (p.1 = a)) = true
      · simp only [h2, if_true, List.map_cons, h1, if_false] at ih ⊢
        unfold aget at ih ⊢
        rw [List.find?_cons, List.find?_cons]
        by_cases h3 : p.1 = a'
        · have : ¬ a' = a := fun q => h1 (h3.trans q)
          simp [h3, this]
        · simp only [h3, decide_false]
          exact ih
      · simp only [h2, Bool.false_eq_true, if_false, List.cons_append] at ih ⊢
        unfold aget at ih ⊢
        rw [List.find?_cons, List.find?_cons]
        by_cases h3 : p.1 = a'
        · have : ¬ a' = a := fun q => h1 (h3.trans q)
          simp [h3, this]
        · simp only [h3, decide_false]
          simpa using ih
theorem aget_mem {l : List (α × β)} {a : α} {b : β} (h : aget l a = some b) : (a, b) ∈ l := by
  unfold aget at h
  cases e : l.find? fun p => decide (p.1 = a) with
  | none => rw [e] at h; cases h
  | some p =>
    rw [e] at h
    cases h
    have h1 := List.find?_some e
    have h2 := List.mem_of_find?_eq_some e
    have : p.1 = a := by simpa using h1
    rw [← this]
    exact h2
end
def fS : Str → Key := Sum.inr
def fN (n : Nat) : Key := Sum.inl (n : Int)
theorem fS_inj : ∀ a b, fS a = fS b → a = b := fun a b h => Sum.inr.inj h
theorem fN_inj : ∀ a b, fN a = fN b → a = b := fun a b h => by
  have := Sum.inl.inj h
  omega
abbrev Ow := List (Str × Nat)
abbrev Gr := List (Nat × List Str)
def eI (n : Nat) : D := .int n
def oOw (ow : Ow) : O := .dic (kvs fS eI ow)
/-- contents by number: 0, 1, .. -/
def kvC (j : Nat) : List Int → List (Key × D)
  | [] => []
  | c :: cs => (fN j, .int c) :: kvC (j + 1) cs
def oCs (cs : List Int) : O := .dic (kvC 0 cs)
theorem kvC_len : ∀ {j : Nat} {cs : List Int}, (kvC j cs).length = cs.length
  | _, [] => rfl
  | j, c :: cs => by rw [kvC, List.length_cons, List.length_cons, kvC_len]
theorem kvC_get : ∀ {j : Nat} {cs : List Int} (k : Nat), getKV (kvC j cs) (fN (j + k)) = (cs[k]?).map .int
  | j, [], k => rfl
  | j, c :: cs, 0 => by simp [kvC, getKV]
  | j, c :: cs, k + 1 => by
    have ih := kvC_get (j := j + 1) (cs := cs) k
    rw [show j + 1 + k = j + (k + 1) by omega] at ih
    have : ¬ fN j = fN (j + (k + 1)) := fun q => by have := fN_inj _ _ q; omega
    unfold getKV at ih ⊢
    rw [kvC, List.find?_cons]
    simp only [this, decide_false]
    rw [List.getElem?_cons_succ]
    exact ih
theorem kvC_any : ∀ {j : Nat} {cs : List Int} (k : Nat), ((kvC j cs).any fun kv => decide (kv.1 = fN (j + k))) = decide (k < cs.length)
  | j, [], k => by simp [kvC]
  | j, c :: cs, 0 => by simp [kvC]
  | j, c :: cs, k + 1 => by
    have ih := kvC_any (j := j + 1) (cs := cs) k
    rw [show j + 1 + k = j + (k + 1) by omega] at ih
    have : ¬ fN j = fN (j + (k + 1)) := fun q => by have := fN_inj _ _ q; omega
    rw [kvC, List.any_cons, ih]
    simp [this]
theorem kvC_map : ∀ {j : Nat} {cs : List Int} (k : Nat) (v : Int), ((kvC j cs).map fun kv => if kv.1 = fN (j + k) then (kv.1, D.int v) else kv) = kvC j (cs.set k v)
  | j, [], k, v => by simp [kvC]
  | j, c :: cs, 0, v => by
    have out : ∀ (cs : List Int) i, j < i → ((kvC i cs).map fun kv => if kv.1 = fN j then (kv.1, D.int v) else kv) = kvC i cs := by
      intro cs
      induction cs with
      | nil => intro i _; rfl
      | cons c cs ih =>
        intro i hi
        have : ¬ fN i = fN j := fun q => by have := fN_inj _ _ q; omega
        rw [kvC, List.map_cons, ih (i + 1) (by omega)]
        simp [this]
    simp only [kvC, List.map_cons, List.set_cons_zero, Nat.add_zero, if_true]
    rw [out cs (j + 1) (by omega)]
  | j, c :: cs, k + 1, v => by
    have ih := kvC_map (j := j + 1) (cs := cs) k v
    rw [show j + 1 + k = j + (k + 1) by omega] at ih
    have : ¬ fN j = fN (j + (k + 1)) := fun q => by have := fN_inj _ _ q; omega
    simp only [kvC, List.map_cons, List.set_cons_succ, this, if_false]
    rw [ih]
theorem kvC_app : ∀ {j : Nat} {cs : List Int} {v : Int}, kvC j (cs ++ [v]) = kvC j cs ++ [(fN (j + cs.length), .int v)]
  | j, [], v => by simp [kvC]
  | j, c :: cs, v => by
    rw [List.cons_append, kvC, kvC_app, kvC]
    rw [show j + 1 + cs.length = j + (c :: cs).length by simp; omega]
    rfl
theorem cs_put {cs : List Int} {k : Nat} {v : Int} (h : k < cs.length) : putKV (kvC 0 cs) (fN k) (.int v) = kvC 0 (cs.set k v) := by
  have a := kvC_any (j := 0) (cs := cs) k
  have m := kvC_map (j := 0) (cs := cs) k v
  rw [Nat.zero_add] at a m
  unfold putKV
  rw [a, if_pos (by simpa using h), m]
theorem cs_new {cs : List Int} {v : Int} : putKV (kvC 0 cs) (fN cs.length) (.int v) = kvC 0 (cs ++ [v]) := by
  have a := kvC_any (j := 0) (cs := cs) cs.length
  rw [Nat.zero_add] at a
  unfold putKV
  rw [a, if_neg (by simp), kvC_app, Nat.zero_add]
theorem cs_get {cs : List Int} (k : Nat) : getKV (kvC 0 cs) (fN k) = (cs[k]?).map .int := by
  have := kvC_get (j := 0) (cs := cs) k
  rwa [Nat.zero_add] at this
/-! reading and writing the tables -/
section
variable {h : MH} {Q : D → MH → Prop}
theorem w_ixD {t : Nat} {kvs : List (Key × D)} {kd v : D} {k : Key} (e : dicOf h (.ref t) = some kvs) (ek : toKey kd = some k) (ev : getKV kvs k = some v) (q : Q v h) : wIx h (.ref t) kd Q := by
  have r : ((∃ xs i v, lstOf h (.ref t) = some xs ∧ kd = .int i ∧ atI xs i = some v ∧ Q v h) ∨ (∃ kvs k v, dicOf h (.ref t) = some kvs ∧ toKey kd = some k ∧ getKV kvs k = some v ∧ Q v h)) := .inr ⟨kvs, k, v, e, ek, ev, q⟩
  exact r
theorem w_inD {neg : Bool} {t : Nat} {kvs : List (Key × D)} {kd : D} {k : Key} (e : dicOf h (.ref t) = some kvs) (ek : toKey kd = some k) (q : Q (.bl (xor neg (getKV kvs k).isSome)) h) : wIn neg h kd (.ref t) Q := by
  have r : ((∃ kvs k, dicOf h (.ref t) = some kvs ∧ toKey kd = some k ∧ Q (.bl (xor neg (getKV kvs k).isSome)) h) ∨
    (∃ xs, seqOf h (.ref t) = some xs ∧ kd.ok 50 = true ∧ D.oks 50 xs = true ∧ Q (.bl (xor neg (xs.any fun z => z.eqv kd))) h)) := .inl ⟨kvs, k, e, ek, q⟩
  exact r
theorem dic_at {t : Nat} {kvs : List (Key × D)} (e : h[t]? = some (.dic kvs)) : dicOf h (.ref t) = some kvs := by simp [dicOf, e]
theorem w_lenD {t : Nat} {kvs : List (Key × D)} (e : h[t]? = some (.dic kvs)) (q : Q (.int kvs.length) h) : bLen h [.ref t] Q := .inr ⟨kvs, dic_at e, q⟩
end
/-! _law_held -/
def heldF (ow : Ow) (f : Fl) (i : Nat) : Ow := f.1.foldl (fun ow n => aput ow n i) ow
def heldO (d : Dk) : Ow := ((List.range d.length).zip d).foldl (fun ow p => heldF ow p.2 p.1) []
theorem foldl_put_len {i : Nat} : ∀ (g : List Str) (ow : Ow), (g.foldl (fun ow n => aput ow n i) ow).length ≤ ow.length + g.length
  | [], ow => by simp
  | n :: g, ow => by
    have h1 := foldl_put_len (i := i) g (aput ow n i)
    have h2 := aput_len ow n i
    simp only [List.foldl_cons, List.length_cons]
    omega
theorem get_2 {h R : MH} {o o2 : O} : (h ++ o :: o2 :: R)[h.length + 1]? = some o2 := by
  rw [List.getElem?_append_right (by omega)]
  simp
theorem set_2 {h R : MH} {o o2 o3 : O} : (h ++ o :: o2 :: R).set (h.length + 1) o3 = h ++ o :: o3 :: R := by
  rw [List.set_append_right _ _ (by omega)]
  simp
/-- total number of names -/
def tot (d : Dk) : Nat := (d.flatMap (·.1)).length
def G_L_held : Gs := fun ds h K => ∃ d : Dk, ds = [eDk d] ∧ tot d ≤ BIG ∧ d.length ≤ BIG ∧ K (.tup [.ref h.length, .ref (h.length + 1)]) (h ++ [oOw (heldO d), oCs (d.map (·.2))])
theorem p_held {ds : List D} {h : MH} {K : D → MH → Prop} (g : G_L_held ds h K) : bodyG 7 1 s_L_held ds h K := by
  obtain ⟨d, rfl, ht, hd, k⟩ := g
  refine ⟨rfl, ?_⟩
  simp [s_L_held, List.replicate]
  refine ⟨d.map eFl, rfl, ?_⟩
  have e0 : ((List.range (d.map eFl).length).zip (d.map eFl)).map (fun p => D.tup [.int p.1, p.2]) = ((List.range d.length).zip d).map fun p => D.tup [eI p.1, eFl p.2] := by
    rw [List.length_map, List.zip_map_right, List.map_map]
    rfl
  rw [e0]
  have tl : ∀ (p q : List (Nat × Fl)), (List.range d.length).zip d = p ++ q → (p.flatMap (·.2.1)).length ≤ tot d ∧ p.length ≤ d.length ∧ p.map (·.1) = List.range p.length ∧ p.map (·.2) = d.take p.length := by
    intro p q e
    have hl : p.length ≤ d.length := by
      have := congrArg List.length e
      rw [List.length_zip, List.length_range, List.length_append] at this
      omega
    have e1 : p = ((List.range d.length).zip d).take p.length := by rw [e]; simp
    have e2 : p.map (·.2) = d.take p.length := by
      have : ((List.range d.length).zip d).map (·.2) = d := List.map_snd_zip (by simp)
      rw [e1, List.map_take, this]
      simp
    have e3 : p.map (·.1) = List.range p.length := by
      have : ((List.range d.length).zip d).map (·.1) = List.range d.length := List.map_fst_zip (by simp)
      rw [e1, List.map_take, this]
      simp [List.take_range]
    refine ⟨?_, hl, e3, e2⟩
    have : p.flatMap (·.2.1) = (p.map (·.2)).flatMap (·.1) := by rw [List.flatMap_map]
    rw [this, e2]
    unfold tot
    conv => rhs; rw [← List.take_append_drop p.length d]
    rw [List.flatMap_append, List.length_append]
    omega
  refine forL_pre (enc := fun p : Nat × Fl => D.tup [eI p.1, eFl p.2]) (fun p ρ h' => (∃ x y z w, ρ = [some (eDk d), some (.ref h.length), some (.ref (h.length + 1)), x, y, z, w]) ∧ h' = h ++ [oOw (p.foldl (fun ow p => heldF ow p.2 p.1) []), oCs (p.map (·.2.2))] ∧ (p.foldl (fun ow p => heldF ow p.2 p.1) ([] : Ow)).length ≤ (p.flatMap (·.2.1)).length)
    _ _ _ ⟨⟨_, _, _, _, rfl⟩, rfl, by simp⟩ (fun _ _ _ _ => trivial) (fun p a q e ρ' h' K' hP k' => ?_) fun ρ' h' hP => ?_
  · obtain ⟨⟨x, y, z, w, rfl⟩, rfl, hl⟩ := hP
    obtain ⟨i, g, c⟩ := a
    obtain ⟨t1, t2, t3, t4⟩ := tl (p ++ [(i, g, c)]) q (by rw [e, List.append_assoc]; rfl)
    have hi : i = p.length := by
      have := congrArg (fun l => l[p.length]?) t3
      simp at this
      exact this
    subst hi
    simp [eFl]
    have hz : (p.map (·.2.2)).length < sizeLine := by
      have : BIG < sizeLine := by decide
      simp at t2
      simp
      omega
    refine w_setD (kvs := kvC 0 (p.map (·.2.2))) (k := fN p.length) get_2 rfl (by rw [kvC_len]; exact hz) ?_
    rw [set_2]
    have e9 : putKV (kvC 0 (p.map (·.2.2))) (fN p.length) (.int c) = kvC 0 (p.map (·.2.2) ++ [c]) := by
      have := cs_new (cs := p.map (·.2.2)) (v := c)
      rwa [List.length_map] at this
    rw [e9]
    have hh : heldF (p.foldl (fun ow p => heldF ow p.2 p.1) []) (g, c) p.length = g.foldl (fun ow n => aput ow n p.length) (p.foldl (fun ow p => heldF ow p.2 p.1) []) := rfl
    refine forL_pre (enc := eS) (fun pp ρ h' => (∃ w, ρ = [some (eDk d), some (.ref h.length), some (.ref (h.length + 1)), some (.int p.length), some (eNs g), some (.int c), w]) ∧ h' = h ++ [oOw (pp.foldl (fun ow n => aput ow n p.length) (p.foldl (fun ow p => heldF ow p.2 p.1) [])), oCs (p.map (·.2.2) ++ [c])])
      g _ _ ⟨⟨_, rfl⟩, rfl⟩ (fun _ _ _ _ => trivial) (fun pp n qq e2 ρ2 h2 K2 hP2 k2 => ?_) fun ρ2 h2 hP2 => ?_
    · obtain ⟨⟨w2, rfl⟩, rfl⟩ := hP2
      simp
      have hz2 : (pp.foldl (fun ow n => aput ow n p.length) (p.foldl (fun ow p => heldF ow p.2 p.1) [])).length < sizeLine := by
        have b1 := foldl_put_len (i := p.length) pp (p.foldl (fun ow p => heldF ow p.2 p.1) [])
        have b2 : pp.length ≤ g.length := by rw [e2]; simp
        have b3 : BIG < sizeLine := by decide
        rw [List.flatMap_append, List.length_append] at t1
        have b4 : ([(p.length, g, c)].flatMap fun x : Nat × Fl => x.2.1) = g := by simp
        rw [b4] at t1
        refine Nat.lt_of_le_of_lt b1 ?_
        omega
      refine w_setD (kvs := kvs fS eI _) (k := fS n) get_new rfl (by simpa [kvs] using hz2) ?_
      rw [set_new]
      have e8 := kvs_put (fk := fS) (fv := eI) fS_inj n p.length (pp.foldl (fun ow n => aput ow n p.length) (p.foldl (fun ow p => heldF ow p.2 p.1) []))
      rw [show D.int (p.length : Int) = eI p.length from rfl, e8]
      exact k2 _ _ ⟨⟨_, rfl⟩, by rw [List.foldl_append]; rfl⟩
    · obtain ⟨⟨w2, rfl⟩, rfl⟩ := hP2
      refine k' _ _ ⟨⟨_, _, _, _, rfl⟩, ?_, ?_⟩
      · rw [List.foldl_append, List.map_append]
        rfl
      · rw [List.foldl_append, List.flatMap_append, List.length_append]
        have b1 := foldl_put_len (i := p.length) g (p.foldl (fun ow p => heldF ow p.2 p.1) [])
        have b4 : ([(p.length, g, c)].flatMap fun x : Nat × Fl => x.2.1) = g := by simp
        rw [b4]
        show (g.foldl (fun ow n => aput ow n p.length) (p.foldl (fun ow p => heldF ow p.2 p.1) [])).length ≤ _
        refine Nat.le_trans b1 ?_
        omega
  · obtain ⟨⟨x, y, z, w, rfl⟩, rfl, hl⟩ := hP
    have e4 := (tl _ [] (List.append_nil _).symm).2.2.2
    have e5 : ((List.range d.length).zip d).map (·.2.2) = d.map (·.2) := by
      have : ((List.range d.length).zip d).map (·.2) = d := List.map_snd_zip (by simp)
      conv => rhs; rw [← this, List.map_map]
      rfl
    rw [e5]
    simp
    exact gc_same k

/-! changing the tables -/
structure Held where
  ow : Ow
  cs : List Int
/-- the tables lie at a and c -/
structure At (h : MH) (a c : Nat) (s : Held) : Prop where
  ow : h[a]? = some (oOw s.ow)
  cs : h[c]? = some (oCs s.cs)
  ne : a ≠ c
def put (h : MH) (a c : Nat) (s : Held) : MH := (h.set c (oCs s.cs)).set a (oOw s.ow)
def Held.ok (s : Held) : Prop := ∀ n i, aget s.ow n = some i → i < s.cs.length
def Held.fresh (s : Held) (n : Str) (v : Int) : Held := ⟨aput s.ow n s.cs.length, s.cs ++ [v]⟩
def Held.small (s : Held) : Prop := s.ow.length + 1 < sizeLine ∧ s.cs.length + 1 < sizeLine
theorem At.put_self {h : MH} {a c : Nat} {s : Held} (x : At h a c s) : put h a c s = h := by
  unfold put
  rw [set_self x.cs, set_self x.ow]
theorem At.put {h : MH} {a c : Nat} {s s' : Held} (x : At h a c s) : At (put h a c s') a c s' := by
  have h1 := (List.getElem?_eq_some_iff.mp x.ow).1
  have h2 := (List.getElem?_eq_some_iff.mp x.cs).1
  refine ⟨?_, ?_, x.ne⟩
  · unfold Z.put
    rw [List.getElem?_set_self (by simpa using h1)]
  · unfold Z.put
    rw [List.getElem?_set_ne x.ne, List.getElem?_set_self h2]
theorem put_put {h : MH} {a c : Nat} {s s' : Held} (hn : a ≠ c) : put (put h a c s) a c s' = put h a c s' := by
  have e : ((h.set c (oCs s.cs)).set a (oOw s.ow)).set c (oCs s'.cs) = (h.set c (oCs s'.cs)).set a (oOw s.ow) := by rw [List.set_comm _ _ hn, List.set_set]
  unfold put
  rw [e, List.set_set]
theorem put_ow {h : MH} {a c : Nat} {s : Held} (x : At h a c s) (ow' : Ow) : h.set a (oOw ow') = put h a c ⟨ow', s.cs⟩ := by
  unfold put
  rw [set_self x.cs]
theorem put_cs {h : MH} {a c : Nat} {s : Held} (x : At h a c s) (cs' : List Int) : h.set c (oCs cs') = put h a c ⟨s.ow, cs'⟩ := by
  unfold put
  have : (h.set c (oCs cs'))[a]? = some (oOw s.ow) := by
    rw [List.getElem?_set_ne (fun q => x.ne q.symm)]
    exact x.ow
  rw [set_self this]
def eH (a c : Nat) : D := .tup [.ref a, .ref c]
def G_L_fresh : Gs := fun ds h K => ∃ (a c : Nat) (s : Held) (n : Str) (v : Int), ds = [eH a c, .str n, .int v] ∧ At h a c s ∧ s.small ∧ K .non (put h a c (s.fresh n v))
theorem p_fresh {ds : List D} {h : MH} {K : D → MH → Prop} (g : G_L_fresh ds h K) : bodyG 6 3 s_L_fresh ds h K := by
  obtain ⟨a, c, s, n, v, rfl, x, sm, k⟩ := g
  refine ⟨rfl, ?_⟩
  simp [s_L_fresh, List.replicate, eH]
  have x2 : h[c]? = some (.dic (kvC 0 s.cs)) := x.cs
  refine w_lenD x2 ?_
  refine w_setD (k := fN s.cs.length) x2 (by rw [kvC_len]; rfl) (by rw [kvC_len]; have := sm.2; omega) ?_
  rw [cs_new]
  have y : At (put h a c ⟨s.ow, s.cs ++ [v]⟩) a c ⟨s.ow, s.cs ++ [v]⟩ := x.put
  rw [show O.dic (kvC 0 (s.cs ++ [v])) = oCs (s.cs ++ [v]) from rfl, put_cs x]
  refine w_setD (kvs := kvs fS eI s.ow) (k := fS n) y.ow rfl (by simpa [kvs] using (show s.ow.length < sizeLine by have := sm.1; omega)) ?_
  rw [kvC_len, show D.int (s.cs.length : Int) = eI s.cs.length from rfl, kvs_put fS_inj, show O.dic (kvs fS eI (aput s.ow n s.cs.length)) = oOw (aput s.ow n s.cs.length) from rfl, put_ow y, put_put x.ne]
  exact gc_same k
/-- a deed done to the tables -/
def Held.act (s : Held) : Dd → Held
  | .sv n v => s.fresh n v
  | .wr n v => match aget s.ow n with
    | none => s.fresh n v
    | some i => ⟨s.ow, s.cs.set i v⟩
  | .rm n => match aget s.ow n with
    | none => s
    | some _ => ⟨adrop s.ow n, s.cs⟩
  | .rn n o => match aget s.ow n with
    | none => s
    | some i => s.fresh o (s.cs.getD i 0)
  | .cp n o => match aget s.ow n, aget s.ow o with
    | none, _ => s
    | some i, none => s.fresh o (s.cs.getD i 0)
    | some i, some j => ⟨s.ow, s.cs.set j (s.cs.getD i 0)⟩
  | .lk n o => match aget s.ow n with
    | none => s
    | some i => if aget s.ow o = some i then s else ⟨aput s.ow o i, s.cs⟩
  | .mv n o => match aget s.ow n with
    | none => s
    | some i => if aget s.ow o = some i then s else ⟨adrop (aput s.ow o i) n, s.cs⟩
def G_L_do : Gs := fun ds h K => ∃ (a c : Nat) (s : Held) (w : Dd), ds = [eH a c, eDd w] ∧ At h a c s ∧ s.small ∧ s.ok ∧ K .non (put h a c (s.act w))
@[simp] theorem last2 {x y : D} : atI [x, y] (-1) = some y := by
  unfold atI ixN
  rw [if_neg (by decide), if_pos (by show -(2 : Int) ≤ -1; decide)]
  rfl
@[simp] theorem last3 {x y z : D} : atI [x, y, z] (-1) = some z := by
  unfold atI ixN
  rw [if_neg (by decide), if_pos (by show -(3 : Int) ≤ -1; decide)]
  rfl
section
variable {h : MH} {a c : Nat} {s : Held} {Q : D → MH → Prop}
theorem dicOf_cs (x : At h a c s) : h[c]? = some (.dic (kvC 0 s.cs)) := x.cs
theorem At.in_ (x : At h a c s) {neg : Bool} {n : Str} (q : Q (.bl (xor neg (aget s.ow n).isSome)) h) : wIn neg h (.str n) (.ref a) Q := by
  have e := kvs_get (fk := fS) (fv := eI) fS_inj n s.ow
  refine w_inD (k := fS n) (dic_at x.ow) rfl ?_
  rw [e]
  simpa using q
theorem At.at_ (x : At h a c s) {n : Str} {i : Nat} (e : aget s.ow n = some i) (q : Q (.int i) h) : wIx h (.ref a) (.str n) Q := by
  have e2 := kvs_get (fk := fS) (fv := eI) fS_inj n s.ow
  refine w_ixD (k := fS n) (dic_at x.ow) rfl (v := eI i) ?_ q
  rw [e2, e]
  rfl
theorem At.pop (x : At h a c s) {n : Str} {i : Nat} (e : aget s.ow n = some i) (q : Q (.int i) (Z.put h a c ⟨adrop s.ow n, s.cs⟩)) : ∃ T, tyD h (.ref a) = some T ∧ (T = "list" ∨ T = "dict") ∧ (if T = "list" then mPopL else mPopD) h (.ref a) [.str n] Q := by
  have x1 : h[a]? = some (.dic (kvs fS eI s.ow)) := x.ow
  refine ⟨"dict", by simp [tyD, x1], .inr rfl, ?_⟩
  rw [if_neg (by decide)]
  refine ⟨a, kvs fS eI s.ow, .str n, fS n, eI i, rfl, x1, rfl, rfl, ?_, ?_⟩
  · rw [kvs_get fS_inj, e]
    rfl
  · rw [kvs_drop fS_inj, show O.dic (kvs fS eI (adrop s.ow n)) = oOw (adrop s.ow n) from rfl, put_ow x]
    exact q
theorem At.con (x : At h a c s) {i : Nat} {v : Int} (e : s.cs[i]? = some v) (q : Q (.int v) h) : wIx h (.ref c) (.int i) Q := by
  refine w_ixD (k := fN i) (dic_at x.cs) rfl (v := .int v) ?_ q
  rw [cs_get, e]
  rfl
end
@[simp] theorem ofString_inj {a b : String} : Str.ofString a = Str.ofString b ↔ a = b := by
  constructor
  · intro h
    rw [PySem.Str.ofString_eq_toList, PySem.Str.ofString_eq_toList] at h
    have h1 : (a.toList.map Char.toNat).toArray = (b.toList.map Char.toNat).toArray := by
      injection h
    have h2 : a.toList.map Char.toNat = b.toList.map Char.toNat := by simpa using h1
    have h3 : a.toList = b.toList := (List.map_inj_right fun x y e => Char.ext (UInt32.toNat_inj.mp e)).mp h2
    exact String.ext_iff.mpr h3
  · rintro rfl
    rfl
set_option maxHeartbeats 0 in
theorem p_do {ds : List D} {h : MH} {K : D → MH → Prop} (g : G_L_do ds h K) : bodyG 7 2 (s_L_do G_L_fresh) ds h K := by
  obtain ⟨a, c, s, w, rfl, x, sm, ok, k⟩ := g
  have fr : ∀ n v, K .non (put h a c (s.fresh n v)) → G_L_fresh [eH a c, .str n, .int v] h fun _ h' => gcK h K .non h' := fun n v k => ⟨a, c, s, n, v, rfl, x, sm, gc_same k⟩
  cases w with
  | sv n v =>
    refine ⟨rfl, ?_⟩
    simp [s_L_do, List.replicate, eDd, eH]
    exact fr n v k
  | wr n v =>
    refine ⟨rfl, ?_⟩
    simp [s_L_do, List.replicate, eDd, eH]
    simp only [Held.act] at k
    refine x.in_ ?_
    cases e : aget s.ow n with
    | none =>
      rw [e] at k
      simp
      exact fr n v k
    | some i =>
      rw [e] at k
      simp
      refine x.at_ e ?_
      have hi := ok n i e
      refine w_setD (k := fN i) (dicOf_cs x) rfl (by rw [kvC_len]; have := sm.2; omega) ?_
      rw [cs_put hi, show O.dic (kvC 0 (s.cs.set i v)) = oCs (s.cs.set i v) from rfl, put_cs x]
      exact gc_same k
  | rm n =>
    refine ⟨rfl, ?_⟩
    simp [s_L_do, List.replicate, eDd, eH]
    simp only [Held.act] at k
    refine x.in_ ?_
    cases e : aget s.ow n with
    | none =>
      rw [e] at k
      simp
      rw [x.put_self] at k
      exact gc_same k
    | some i =>
      rw [e] at k
      simp
      exact x.pop e (gc_same k)
  | rn n o =>
    refine ⟨rfl, ?_⟩
    simp [s_L_do, List.replicate, eDd, eH]
    simp only [Held.act] at k
    refine x.in_ ?_
    cases e : aget s.ow n with
    | none =>
      rw [e] at k
      simp
      rw [x.put_self] at k
      exact gc_same k
    | some i =>
      rw [e] at k
      simp
      refine x.at_ e ?_
      have hi := ok n i e
      refine x.con (List.getElem?_eq_getElem hi) ?_
      exact fr o _ (by simpa [List.getD, List.getElem?_eq_getElem hi] using k)
  | cp n o =>
    refine ⟨rfl, ?_⟩
    simp [s_L_do, List.replicate, eDd, eH]
    simp only [Held.act] at k
    refine x.in_ ?_
    cases e : aget s.ow n with
    | none =>
      simp only [e] at k
      simp
      rw [x.put_self] at k
      exact gc_same k
    | some i =>
      have hi := ok n i e
      simp
      refine x.in_ ?_
      cases e2 : aget s.ow o with
      | none =>
        simp only [e, e2] at k
        simp
        refine x.at_ e (x.con (List.getElem?_eq_getElem hi) ?_)
        exact fr o _ (by simpa [List.getD, List.getElem?_eq_getElem hi] using k)
      | some j =>
        have hj := ok o j e2
        simp only [e, e2] at k
        simp
        refine x.at_ e (x.con (List.getElem?_eq_getElem hi) ?_)
        refine x.at_ e2 ?_
        refine w_setD (k := fN j) (dicOf_cs x) rfl (by rw [kvC_len]; have := sm.2; omega) ?_
        rw [cs_put hj, show O.dic (kvC 0 (s.cs.set j s.cs[i])) = oCs (s.cs.set j s.cs[i]) from rfl, put_cs x]
        exact gc_same (by simpa [List.getD, List.getElem?_eq_getElem hi] using k)
  | lk n o =>
    refine ⟨rfl, ?_⟩
    simp [s_L_do, List.replicate, eDd, eH]
    simp only [Held.act] at k
    refine x.in_ ?_
    cases e : aget s.ow n with
    | none =>
      simp only [e] at k
      simp
      rw [x.put_self] at k
      exact gc_same k
    | some i =>
      simp only [e] at k
      simp
      refine x.in_ ?_
      cases e2 : aget s.ow o with
      | none =>
        simp only [e2] at k
        simp
        refine x.at_ e ?_
        refine w_setD (kvs := kvs fS eI s.ow) (k := fS o) x.ow rfl (by simpa [kvs] using (show s.ow.length < sizeLine by have := sm.1; omega)) ?_
        rw [show D.int (i : Int) = eI i from rfl, kvs_put fS_inj, show O.dic (kvs fS eI (aput s.ow o i)) = oOw (aput s.ow o i) from rfl, put_ow x]
        exact gc_same (by simpa using k)
      | some j =>
        simp only [e2] at k
        simp
        refine x.at_ e2 (x.at_ e ?_)
        simp
        by_cases hij : j = i
        · subst hij
          simp at k ⊢
          rw [x.put_self] at k
          exact gc_same k
        · have : ¬ ((j : Int) = (i : Int)) := by omega
          simp [this, hij] at k ⊢
          refine x.at_ e ?_
          refine w_setD (kvs := kvs fS eI s.ow) (k := fS o) x.ow rfl (by simpa [kvs] using (show s.ow.length < sizeLine by have := sm.1; omega)) ?_
          rw [show D.int (i : Int) = eI i from rfl, kvs_put fS_inj, show O.dic (kvs fS eI (aput s.ow o i)) = oOw (aput s.ow o i) from rfl, put_ow x]
          exact gc_same k
  | mv n o =>
    refine ⟨rfl, ?_⟩
    simp [s_L_do, List.replicate, eDd, eH]
    simp only [Held.act] at k
    refine x.in_ ?_
    cases e : aget s.ow n with
    | none =>
      simp only [e] at k
      simp
      rw [x.put_self] at k
      exact gc_same k
    | some i =>
      simp only [e] at k
      have go : aget s.ow o ≠ some i → K .non (put h a c ⟨adrop (aput s.ow o i) n, s.cs⟩) → wSet h (.ref a) (.str o) (.int i) fun h4 => ∃ T, tyD h4 (.ref a) = some T ∧ (T = "list" ∨ T = "dict") ∧ (if T = "list" then mPopL else mPopD) h4 (.ref a) [.str n] fun x h' => gcK h K .non h' := by
        intro hne k
        refine w_setD (kvs := kvs fS eI s.ow) (k := fS o) x.ow rfl (by simpa [kvs] using (show s.ow.length < sizeLine by have := sm.1; omega)) ?_
        rw [show D.int (i : Int) = eI i from rfl, kvs_put fS_inj, show O.dic (kvs fS eI (aput s.ow o i)) = oOw (aput s.ow o i) from rfl, put_ow x]
        have y : At (put h a c ⟨aput s.ow o i, s.cs⟩) a c ⟨aput s.ow o i, s.cs⟩ := x.put
        refine y.pop (n := n) (i := i) ?_ ?_
        · rw [aget_put]
          split
          · rfl
          · exact e
        · rw [put_put x.ne]
          exact gc_same k
      simp
      refine x.in_ ?_
      cases e2 : aget s.ow o with
      | none =>
        simp only [e2] at k
        simp
        exact x.at_ e (go (by simp [e2]) (by simpa using k))
      | some j =>
        simp only [e2] at k
        simp
        refine x.at_ e2 (x.at_ e ?_)
        simp
        by_cases hij : j = i
        · subst hij
          simp at k ⊢
          rw [x.put_self] at k
          exact gc_same k
        · have : ¬ ((j : Int) = (i : Int)) := by omega
          simp [this, hij] at k ⊢
          exact x.at_ e (go (by simp [e2, hij]) k)
end Z

set_option Elab.async false
set_option linter.all false
set_option maxRecDepth 100000
/-! M7: the order of data; the tables shown again -/
namespace Z
open PySem PySem.Spec PyProof.Rows L2

theorem toks_eq_eqv {x y : PyData} (ha : PySem.W.alike x y = true) (he : PySem.W.keyToks x = PySem.W.keyToks y) : PyData.eqv x y = true := by
  cases hf : PyData.eqv x y with
  | true => rfl
  | false =>
    have h := (PySem.W.toks_eqv x y ha).2 hf [] [.inl 0]
    rw [he, PySem.W.lex_pre, lex_irrefl] at h
    cases h
theorem leE_lt {α : Type} {enc : α → D} {a b : α} : leE enc a b = !PySem.W.dataLt (enc b).pd (enc a).pd := rfl
theorem leE_total {α : Type} (enc : α → D) (a b : α) : (leE enc a b || leE enc b a) = true := by
  rw [Bool.or_eq_true]
  exact (PySem.W.sortLe_total (listOrd itemOrd) false fun a => PySem.W.keyToks (enc a).pd).total a b
theorem leE_trans {α : Type} (enc : α → D) (a b c : α) (h1 : leE enc a b = true) (h2 : leE enc b c = true) : leE enc a c = true := (PySem.W.sortLe_total (listOrd itemOrd) false fun a => PySem.W.keyToks (enc a).pd).trans a b c h1 h2
structure Nice {α : Type} (enc : α → D) (P : α → Prop) : Prop extends SrtE enc P where
  inj : ∀ a b, enc a = enc b → a = b
  smp : ∀ a, (enc a).smp = true
section
variable {α : Type} {enc : α → D} {P : α → Prop}
theorem Nice.antisymm (S : Nice enc P) {a b : α} (ha : P a) (hb : P b) (h1 : leE enc a b = true) (h2 : leE enc b a = true) : a = b := by
  rw [leE_lt, Bool.not_eq_true'] at h1 h2
  have he := lex_total _ _ h2 h1
  have := toks_eq_eqv (S.al a b ha hb) he
  exact S.inj a b ((eqv_iff _ _ (S.smp a) (S.smp b)).mp this)
theorem srt_pw (enc : α → D) (l : List α) : (srt enc l).Pairwise fun a b => leE enc a b = true := List.pairwise_mergeSort (leE_trans enc) (leE_total enc) l
theorem Nice.uniq (S : Nice enc P) {l m : List α} (hl : l.Pairwise fun a b => leE enc a b = true) (hm : m.Pairwise fun a b => leE enc a b = true) (hp : l.Perm m) (h : ∀ a ∈ l, P a) : l = m :=
  List.Perm.eq_of_pairwise (le := fun a b => leE enc a b = true) (fun a b ha hb h1 h2 => S.antisymm (h a ha) (h b (hp.mem_iff.mpr hb)) h1 h2) hl hm hp
theorem Nice.srt_perm (S : Nice enc P) {l m : List α} (hp : l.Perm m) (h : ∀ a ∈ l, P a) : srt enc l = srt enc m :=
  S.uniq (srt_pw enc l) (srt_pw enc m) ((Z.srt_perm enc l).trans (hp.trans (Z.srt_perm enc m).symm)) fun a ha => h a (mem_srt.mp ha)
theorem srt_of_pw {l : List α} (h : l.Pairwise fun a b => leE enc a b = true) : srt enc l = l := List.mergeSort_of_pairwise h
theorem srt_srt {l : List α} : srt enc (srt enc l) = srt enc l := srt_of_pw (srt_pw enc l)
end
theorem nice_S : Nice eS okN := ⟨srtE_S, eS_inj, smp_S⟩
theorem nice_Fl : Nice eFl (fun f => okNs f.1) := ⟨srtE_Fl, eFl_inj, smp_Fl⟩
theorem sortedS_pw : ∀ {ys : List Str}, sortedS ys = true → ys.Pairwise fun a b => leE eS a b = true
  | [], _ => .nil
  | [x], _ => by simp
  | x :: y :: r, h => by
    have h : (!ltCps y.cps.toList x.cps.toList && risingS y r) = true := h
    rw [Bool.and_eq_true] at h
    have ih := sortedS_pw (ys := y :: r) h.2
    have hxy : leE eS x y = true := by
      rw [leE_lt]
      have : PySem.W.dataLt (eS y).pd (eS x).pd = ltCps y.cps.toList x.cps.toList := by
        rw [ltCps_eq]
        simp only [eS, D.pd]
        exact PySem.W.dataLt_str y x
      rw [this]
      exact h.1
    refine List.pairwise_cons.mpr ⟨fun z hz => ?_, ih⟩
    rcases List.mem_cons.mp hz with rfl | hz
    · exact hxy
    · exact leE_trans eS x y z hxy ((List.pairwise_cons.mp ih).1 z hz)
theorem sortedS_srt {ys ks : List Str} (hp : ys.Perm ks) (hs : sortedS ys = true) (ho : okNs ks) : ys = srt eS ks :=
  nice_S.uniq (sortedS_pw hs) (srt_pw eS ks) (hp.trans (srt_perm eS ks).symm) fun a ha => ho a (hp.mem_iff.mp ha)
/-! _law_shown -/
def grpN (ow : Ow) (gr : Gr) (n : Str) : Gr := match aget ow n with
  | some i => aput gr i ((aget gr i).getD [] ++ [n])
  | none => gr
def grp (ow : Ow) : Gr := (srt eS (ow.map (·.1))).foldl (grpN ow) []
def Held.files (s : Held) : Dk := (grp s.ow).map fun p => (p.2, s.cs.getD p.1 0)
def Held.shown (s : Held) : Dk := srt eFl s.files
theorem aput_keys {α β : Type} [DecidableEq α] {l : List (α × β)} {a : α} {b : β} : (aput l a b).map (·.1) = if a ∈ l.map (·.1) then l.map (·.1) else l.map (·.1) ++ [a] := by
  have e : (l.any fun p => decide (p.1 = a)) = decide (a ∈ l.map (·.1)) := by
    rw [Bool.eq_iff_iff]
    simp [List.any_eq_true]
  unfold aput
  rw [e]
  by_cases h : a ∈ l.map (·.1)
  · rw [if_pos (decide_eq_true h), if_pos h, List.map_map]
    refine List.map_congr_left fun p _ => ?_
    simp only [Function.comp]
    split <;> rfl
  · rw [if_neg (by simpa using h), if_neg h]
    simp
theorem aput_nd {α β : Type} [DecidableEq α] {l : List (α × β)} {a : α} {b : β} (h : (l.map (·.1)).Nodup) : ((aput l a b).map (·.1)).Nodup := by
  rw [aput_keys]
  split
  · exact h
  · rename_i hn
    rw [List.nodup_append]
    exact ⟨h, by simp, fun x hx y hy e => hn (by
      have : y = a := by simpa using hy
      rw [← this, ← e]
      exact hx)⟩
theorem aget_nd {α β : Type} [DecidableEq α] {l : List (α × β)} (h : (l.map (·.1)).Nodup) {a : α} {b : β} (hm : (a, b) ∈ l) : aget l a = some b := by
  induction l with
  | nil => cases hm
  | cons p l ih =>
    rw [List.map_cons, List.nodup_cons] at h
    unfold aget at ih ⊢
    rw [List.find?_cons]
    rcases List.mem_cons.mp hm with rfl | hm
    · simp
    · have : ¬ p.1 = a := fun e => h.1 (by rw [e]; exact List.mem_map.mpr ⟨_, hm, rfl⟩)
      simp only [this, decide_false]
      exact ih h.2 hm
theorem aget_some {α β : Type} [DecidableEq α] {l : List (α × β)} {a : α} (h : a ∈ l.map (·.1)) : ∃ b, aget l a = some b := by
  obtain ⟨p, hp, rfl⟩ := List.mem_map.mp h
  unfold aget
  cases e : l.find? fun q => decide (q.1 = p.1) with
  | none =>
    have := List.find?_eq_none.mp e p hp
    simp at this
  | some q => exact ⟨q.2, rfl⟩
/-- what the groups are while they are made -/
def grOk (s : Held) (p : List Str) (gr : Gr) : Prop := (gr.map (·.1)).Nodup ∧ gr.length ≤ p.length ∧ (∀ x ∈ gr, x.2.length ≤ p.length ∧ okNs x.2 ∧ x.1 < s.cs.length)
theorem grOk_step {s : Held} {p : List Str} {gr : Gr} {n : Str} {i : Nat} (h : grOk s p gr) (hn : okN n) (hi : i < s.cs.length) : grOk s (p ++ [n]) (aput gr i ((aget gr i).getD [] ++ [n])) := by
  refine ⟨aput_nd h.1, ?_, fun x hx => ?_⟩
  · have := aput_len gr i ((aget gr i).getD [] ++ [n])
    have := h.2.1
    simp
    omega
  · have new : ((aget gr i).getD [] ++ [n]).length ≤ (p ++ [n]).length ∧ okNs ((aget gr i).getD [] ++ [n]) := by
      cases e : aget gr i with
      | none => exact ⟨by simp, fun z hz => by have : z = n := by simpa using hz
                                               rw [this]; exact hn⟩
      | some g =>
        have := h.2.2 _ (aget_mem e)
        refine ⟨by simpa using this.1, fun z hz => ?_⟩
        rcases List.mem_append.mp hz with hz | hz
        · exact this.2.1 z hz
        · have : z = n := by simpa using hz
          rw [this]
          exact hn
    unfold aput at hx
    split at hx
    · obtain ⟨y, hy, rfl⟩ := List.mem_map.mp hx
      by_cases e : y.1 = i
      · simp only [e, if_true]
        exact ⟨new.1, new.2, hi⟩
      · simp only [e, if_false]
        have := h.2.2 y hy
        exact ⟨Nat.le_trans this.1 (by simp), this.2⟩
    · rcases List.mem_append.mp hx with hx | hx
      · have := h.2.2 x hx
        exact ⟨Nat.le_trans this.1 (by simp), this.2⟩
      · have : x = (i, (aget gr i).getD [] ++ [n]) := by simpa using hx
        rw [this]
        exact ⟨new.1, new.2, hi⟩
def oGr (gr : Gr) : O := .dic (kvs fN eNs gr)
def G_L_shown : Gs := fun ds h K => ∃ (a c : Nat) (s : Held), ds = [eH a c] ∧ At h a c s ∧ s.ok ∧ s.ow.length < 64 ∧ okNs (s.ow.map (·.1)) ∧ K (eDk s.shown) h
set_option maxHeartbeats 0 in
theorem p_L_shown {ds : List D} {h : MH} {K : D → MH → Prop} (g : G_L_shown ds h K) : bodyG 6 1 s_L_shown ds h K := by
  obtain ⟨a, c, s, rfl, x, ok, h64, hok, k⟩ := g
  have ha := (List.getElem?_eq_some_iff.mp x.ow).1
  have hc := (List.getElem?_eq_some_iff.mp x.cs).1
  refine ⟨rfl, ?_⟩
  simp [s_L_shown, List.replicate, eH]
  have xs : ∀ R, At (h ++ R) a c s := fun R => ⟨by rw [List.getElem?_append_left ha]; exact x.ow, by rw [List.getElem?_append_left hc]; exact x.cs, x.ne⟩
  refine .inr ⟨_, rfl, kvs fS eI s.ow, s.ow.map (·.1), dic_at (xs _).ow, by simp [kvs, fS], by simpa using h64, fun ys hp hs => ?_⟩
  have hys := sortedS_srt hp hs hok
  simp only [w_mkF, w_iWl]
  have hyo : ∀ n ∈ ys, okN n ∧ ∃ i, aget s.ow n = some i := fun n hn => ⟨hok n (hp.mem_iff.mp hn), aget_some (hp.mem_iff.mp hn)⟩
  have hyl : ys.length < 64 := by rw [hp.length_eq]; simpa using h64
  refine forL_pre (enc := D.str) (fun p ρ h' => (∃ z w, ρ = [some (.tup [.ref a, .ref c]), some (.ref a), some (.ref c), some (.ref h.length), z, w]) ∧ h' = h ++ [oGr (p.foldl (grpN s.ow) [])] ∧ grOk s p (p.foldl (grpN s.ow) []))
    ys _ _ ⟨⟨_, _, rfl⟩, rfl, by simp [grOk]⟩ (fun _ _ _ _ => trivial) (fun p n q e ρ' h' K' hP k' => ?_) fun ρ' h' hP => ?_
  · obtain ⟨⟨z, w, rfl⟩, rfl, gok⟩ := hP
    obtain ⟨hn, i, ei⟩ := hyo n (by rw [e]; simp)
    have hi := ok n i ei
    simp
    generalize hg : p.foldl (grpN s.ow) [] = gr at gok k'
    have eg : (p ++ [n]).foldl (grpN s.ow) [] = aput gr i ((aget gr i).getD [] ++ [n]) := by
      rw [List.foldl_append, hg]
      simp [grpN, ei]
    refine ⟨"dict", by simp [tyD, oGr], rfl, (xs _).at_ ei ?_⟩
    refine ⟨kvs fN eNs gr, fN i, dic_at get_new, .inr ⟨.int i, .tup [], rfl, rfl, ?_⟩⟩
    have e1 : ((getKV (kvs fN eNs gr) (fN i)).getD (.tup [])) = eNs ((aget gr i).getD []) := by
      rw [kvs_get fN_inj]
      cases aget gr i <;> rfl
    rw [e1]
    have gs := grOk_step (n := n) gok hn hi
    have gl : (((aget gr i).getD []).map eS).length + [D.str n].length ≤ sizeLine := by
      have h1 : ((aget gr i).getD []).length ≤ p.length := by
        cases e : aget gr i with
        | none => simp
        | some g => exact (gok.2.2 _ (aget_mem e)).1
      have h2 : p.length < 64 := Nat.lt_of_le_of_lt (by rw [e]; simp) hyl
      have h3 : 65 ≤ sizeLine := by decide
      simp
      omega
    refine ⟨gl, (xs _).at_ ei ?_⟩
    have e2 : D.tup (((aget gr i).getD []).map eS ++ [D.str n]) = eNs ((aget gr i).getD [] ++ [n]) := by simp [eNs, eS]
    rw [e2]
    have gz : (kvs fN eNs gr).length < sizeLine := by
      have h1 := gok.2.1
      have h2 : p.length < 64 := Nat.lt_of_le_of_lt (by rw [e]; simp) hyl
      have h3 : 65 ≤ sizeLine := by decide
      simp [kvs]
      omega
    refine w_setD (kvs := kvs fN eNs gr) (kd := .int i) (k := fN i) get_new rfl gz ?_
    rw [set_new, kvs_put fN_inj]
    exact k' _ _ ⟨⟨_, _, rfl⟩, by rw [eg]; rfl, by rw [eg]; exact gs⟩
  · obtain ⟨⟨z, w, rfl⟩, rfl, gok⟩ := hP
    have eg : ys.foldl (grpN s.ow) [] = grp s.ow := by rw [hys]; rfl
    rw [eg] at gok ⊢
    simp
    refine ⟨kvs fN eNs (grp s.ow), rfl, ?_⟩
    simp only [iW]
    rw [get_new]
    have e1 : ((kvs fN eNs (grp s.ow)).map fun kv => kD kv.1) = (grp s.ow).map fun p => eI p.1 := by
      simp [kvs, fN, kD, eI]
    simp only []
    rw [e1]
    have gz : ([] : List D).length + (grp s.ow).length ≤ sizeLine := by
      have h1 := gok.2.1
      have h3 : 65 ≤ sizeLine := by decide
      simp
      omega
    refine turns_all (fun p : Nat × List Str => eFl (p.2, s.cs.getD p.1 0)) trivial (grp s.ow) [] gz (fun p hp acc K' hl k' => ?_) ?_
    · obtain ⟨i, g⟩ := p
      have hg := gok.2.2 _ hp
      simp
      refine w_ixD (k := fN i) (kvs := kvs fN eNs (grp s.ow)) (v := eNs g) (by simp [dicOf]) rfl (by rw [kvs_get fN_inj, aget_nd gok.1 hp]; rfl) ?_
      have hc := List.getElem?_eq_getElem hg.2.2
      refine (xs _).con hc ?_
      simp [hl]
      simpa [eFl, List.getD, hc] using k'
    · simp
      have e2 : (grp s.ow).map (fun p => eFl (p.2, s.cs.getD p.1 0)) = s.files.map eFl := by
        unfold Held.files
        rw [List.map_map]
        rfl
      have e2' : (grp s.ow).map (fun p => eFl (p.2, s.cs[p.1]?.getD 0)) = s.files.map eFl := by
        rw [← e2]
        refine List.map_congr_left fun p _ => ?_
        simp [List.getD]
      rw [e2']
      refine w_sorted srtE_Fl (l := s.files) (fun f hf => ?_) rfl ?_
      · obtain ⟨p, hp, rfl⟩ := List.mem_map.mp hf
        exact (gok.2.2 _ hp).2.1
      · simp
        exact gc_new (bel_smp (smp_Dk _)) k

/-! _law_after, _law_content_of -/
def heldOf (d : Dk) : Held := ⟨heldO d, d.map (·.2)⟩
def Held.run (s : Held) (p : List Dd) : Held := p.foldl Held.act s
def lawAfter (d : Dk) (p : List Dd) : Dk := ((heldOf d).run p).shown
/-- the tables stay small and whole on the way -/
def okTab (d : Dk) (p : List Dd) : Prop := (∀ q r, p = q ++ r → ((heldOf d).run q).small ∧ ((heldOf d).run q).ok) ∧ ((heldOf d).run p).ow.length < 64 ∧ okNs (((heldOf d).run p).ow.map (·.1))
def G_L_after : Gs := fun ds h K => ∃ (d : Dk) (p : List Dd), ds = [eDk d, eP p] ∧ tot d ≤ BIG ∧ d.length ≤ BIG ∧ okTab d p ∧ K (eDk (lawAfter d p)) h
theorem put_new {h : MH} {s s' : Held} : put (h ++ [oOw s.ow, oCs s.cs]) h.length (h.length + 1) s' = h ++ [oOw s'.ow, oCs s'.cs] := by
  unfold put
  rw [set_2, set_new]
theorem at_new {h : MH} {s : Held} : At (h ++ [oOw s.ow, oCs s.cs]) h.length (h.length + 1) s := ⟨get_new, get_2, by omega⟩
theorem p_L_after {ds : List D} {h : MH} {K : D → MH → Prop} (g : G_L_after ds h K) : bodyG 4 2 (s_L_after G_L_shown G_L_do G_L_held) ds h K := by
  obtain ⟨d, p, rfl, ht, hd, ok, k⟩ := g
  refine ⟨rfl, ?_⟩
  simp [s_L_after, List.replicate]
  refine ⟨d, rfl, ht, hd, ?_⟩
  refine forL_pre (enc := eDd) (fun q ρ h' => (∃ z, ρ = [some (eDk d), some (eP p), some (eH h.length (h.length + 1)), z]) ∧ h' = h ++ [oOw ((heldOf d).run q).ow, oCs ((heldOf d).run q).cs]) p _ _ ⟨⟨_, rfl⟩, rfl⟩ (fun _ _ _ _ => trivial) (fun q a r e ρ' h' K' hP k' => ?_) fun ρ' h' hP => ?_
  · obtain ⟨⟨z, rfl⟩, rfl⟩ := hP
    obtain ⟨sm, o⟩ := ok.1 q (a :: r) e
    simp
    refine ⟨h.length, h.length + 1, (heldOf d).run q, a, rfl, at_new, sm, o, ?_⟩
    rw [put_new]
    refine k' _ _ ⟨⟨_, rfl⟩, ?_⟩
    unfold Held.run
    rw [List.foldl_append]
    rfl
  · obtain ⟨⟨z, rfl⟩, rfl⟩ := hP
    obtain ⟨sm, o⟩ := ok.1 p [] (List.append_nil p).symm
    simp
    exact ⟨h.length, h.length + 1, (heldOf d).run p, rfl, at_new, o, ok.2.1, ok.2.2, gc_new (bel_smp (smp_Dk _)) k⟩
abbrev G_L_content_of := G_shown
theorem p_content_of {ds : List D} {h : MH} {K : D → MH → Prop} (g : G_L_content_of ds h K) : bodyG 4 2 s_L_content_of ds h K := p_shown g
end Z

set_option Elab.async false
set_option linter.all false
set_option maxRecDepth 100000
/-! M8: disks by what they show and share -/
namespace Z
open PySem PySem.Spec PyProof.Rows L2

def namesD (d : Dk) : List Str := d.flatMap (·.1)
/-- the names of the files are distinct and lawful, no file is without names -/
structure Fair (d : Dk) : Prop where
  ne : ∀ f ∈ d, f.1 ≠ []
  nd : (namesD d).Nodup
  ok : okNs (namesD d)
structure Valid (d : Dk) : Prop extends Fair d where
  srt : d.Pairwise fun a b => leE eFl a b = true
  grp : ∀ f ∈ d, f.1.Pairwise fun a b => leE eS a b = true
theorem mem_names {d : Dk} {n : Str} : n ∈ namesD d ↔ ∃ f ∈ d, n ∈ f.1 := by simp [namesD, List.mem_flatMap]
theorem nd_cons {f : Fl} {d : Dk} (h : (namesD (f :: d)).Nodup) : f.1.Nodup ∧ (namesD d).Nodup ∧ ∀ n ∈ f.1, n ∉ namesD d := by
  have h : (f.1 ++ namesD d).Nodup := h
  obtain ⟨h1, h2, h3⟩ := List.nodup_append.mp h
  exact ⟨h1, h2, fun n hn hm => h3 n hn n hm rfl⟩
theorem nd_one {d : Dk} (h : (namesD d).Nodup) {f g : Fl} {n : Str} (hf : f ∈ d) (hg : g ∈ d) (h1 : n ∈ f.1) (h2 : n ∈ g.1) : f = g := by
  induction d with
  | nil => cases hf
  | cons x d ih =>
    obtain ⟨_, b, c⟩ := nd_cons h
    rcases List.mem_cons.mp hf with e1 | hf'
    · rcases List.mem_cons.mp hg with e2 | hg'
      · rw [e1, e2]
      · exact (c n (by rw [← e1]; exact h1) (mem_names.mpr ⟨g, hg', h2⟩)).elim
    · rcases List.mem_cons.mp hg with e2 | hg'
      · exact (c n (by rw [← e2]; exact h2) (mem_names.mpr ⟨f, hf', h1⟩)).elim
      · exact ih b hf' hg'
theorem nd_grp {d : Dk} (h : (namesD d).Nodup) {f : Fl} (hf : f ∈ d) : f.1.Nodup := by
  induction d with
  | nil => cases hf
  | cons x d ih =>
    obtain ⟨a, b, c⟩ := nd_cons h
    rcases List.mem_cons.mp hf with rfl | hf
    · exact a
    · exact ih b hf
theorem shown_iff {d : Dk} (h : (namesD d).Nodup) {n : Str} {c : Int} : shown d n = some c ↔ ∃ f ∈ d, n ∈ f.1 ∧ f.2 = c := by
  induction d with
  | nil => simp [shown]
  | cons x d ih =>
    obtain ⟨_, b, e⟩ := nd_cons h
    unfold shown
    by_cases hn : n ∈ x.1
    · rw [if_pos hn]
      constructor
      · intro q
        exact ⟨x, List.mem_cons_self .., hn, Option.some.inj q⟩
      · rintro ⟨f, hf, hm, rfl⟩
        rw [nd_one h hf (List.mem_cons_self ..) hm hn]
    · rw [if_neg hn, ih b]
      constructor
      · rintro ⟨f, hf, q⟩
        exact ⟨f, List.mem_cons_of_mem _ hf, q⟩
      · rintro ⟨f, hf, hm, q⟩
        rcases List.mem_cons.mp hf with rfl | hf
        · exact (hn hm).elim
        · exact ⟨f, hf, hm, q⟩
theorem shown_none {d : Dk} {n : Str} : shown d n = none ↔ n ∉ namesD d := by
  induction d with
  | nil => simp [shown, namesD]
  | cons x d ih =>
    unfold shown
    by_cases hn : n ∈ x.1
    · simp [hn, namesD]
    · rw [if_neg hn, ih]
      simp [namesD, hn]
theorem same_iff {d : Dk} {a b : Str} : areSame d a b = true ↔ ∃ f ∈ d, a ∈ f.1 ∧ b ∈ f.1 := by
  unfold areSame
  rw [List.any_eq_true]
  simp
theorem nd_of_names {d : Dk} (h : Fair d) : d.Nodup := by
  have hne := h.ne
  have hnd := h.nd
  clear h
  induction d with
  | nil => exact .nil
  | cons x d ih =>
    obtain ⟨_, b, e⟩ := nd_cons hnd
    rw [List.nodup_cons]
    refine ⟨fun hx => ?_, ih (fun f hf => hne f (List.mem_cons_of_mem _ hf)) b⟩
    obtain ⟨n, hn⟩ := List.exists_mem_of_ne_nil _ (hne x (List.mem_cons_self ..))
    exact e n hn (mem_names.mpr ⟨x, hx, hn⟩)
theorem perm_of_mem {α : Type} {l m : List α} (hl : l.Nodup) (hm : m.Nodup) (h : ∀ a, a ∈ l ↔ a ∈ m) : l.Perm m := (List.perm_ext_iff_of_nodup hl hm).mpr h
/-- THE LAW OF DISKS: what they show and share is all -/
theorem Valid.ext {d d' : Dk} (v : Valid d) (v' : Valid d') (h1 : ∀ n, shown d n = shown d' n) (h2 : ∀ a b, areSame d a b = areSame d' a b) : d = d' := by
  have half : ∀ {d d' : Dk}, Valid d → Valid d' → (∀ n, shown d n = shown d' n) → (∀ a b, areSame d a b = areSame d' a b) → ∀ f ∈ d, f ∈ d' := by
    intro d d' v v' h1 h2 f hf
    obtain ⟨a, ha⟩ := List.exists_mem_of_ne_nil _ (v.ne f hf)
    have e1 : areSame d a a = true := same_iff.mpr ⟨f, hf, ha, ha⟩
    rw [h2] at e1
    obtain ⟨g, hg, ga, _⟩ := same_iff.mp e1
    have e2 : g.1 = f.1 := by
      refine nice_S.uniq (v'.grp g hg) (v.grp f hf) (perm_of_mem (nd_grp v'.nd hg) (nd_grp v.nd hf) fun b => ⟨fun hb => ?_, fun hb => ?_⟩) fun b hb => v'.ok b (mem_names.mpr ⟨g, hg, hb⟩)
      · have := same_iff.mpr ⟨g, hg, ga, hb⟩
        rw [← h2] at this
        obtain ⟨k, hk, ka, kb⟩ := same_iff.mp this
        rw [nd_one v.nd hf hk ha ka]
        exact kb
      · have := same_iff.mpr ⟨f, hf, ha, hb⟩
        rw [h2] at this
        obtain ⟨k, hk, ka, kb⟩ := same_iff.mp this
        rw [nd_one v'.nd hg hk ga ka]
        exact kb
    have e3 : g.2 = f.2 := by
      have s1 : shown d a = some f.2 := (shown_iff v.nd).mpr ⟨f, hf, ha, rfl⟩
      have s2 : shown d' a = some g.2 := (shown_iff v'.nd).mpr ⟨g, hg, ga, rfl⟩
      rw [h1, s2] at s1
      exact Option.some.inj s1
    rw [show f = g from Prod.ext e2.symm e3.symm]
    exact hg
  refine nice_Fl.uniq v.srt v'.srt (perm_of_mem (nd_of_names v.toFair) (nd_of_names v'.toFair) fun f => ⟨half v v' h1 h2 f, half v' v (fun n => (h1 n).symm) (fun a b => (h2 a b).symm) f⟩) fun f hf n hn => v.ok n (mem_names.mpr ⟨f, hf, hn⟩)
/-! sorting changes neither -/
theorem Fair.perm {d d' : Dk} (h : Fair d) (p : d.Perm d') : Fair d' := by
  have hp : (namesD d).Perm (namesD d') := p.flatMap_right _
  exact ⟨fun f hf => h.ne f (p.mem_iff.mpr hf), hp.nodup_iff.mp h.nd, fun n hn => h.ok n (hp.mem_iff.mpr hn)⟩
theorem shown_perm {d d' : Dk} (h : Fair d) (p : d.Perm d') (n : Str) : shown d n = shown d' n := by
  have h' := h.perm p
  cases e : shown d n with
  | none =>
    rw [shown_none] at e
    exact (shown_none.mpr fun q => e ((p.flatMap_right (·.1)).mem_iff.mpr q)).symm
  | some c =>
    obtain ⟨f, hf, q⟩ := (shown_iff h.nd).mp e
    exact ((shown_iff h'.nd).mpr ⟨f, p.mem_iff.mp hf, q⟩).symm
theorem same_perm {d d' : Dk} (p : d.Perm d') (a b : Str) : areSame d a b = areSame d' a b := by
  rw [Bool.eq_iff_iff, same_iff, same_iff]
  exact ⟨fun ⟨f, hf, q⟩ => ⟨f, p.mem_iff.mp hf, q⟩, fun ⟨f, hf, q⟩ => ⟨f, p.mem_iff.mpr hf, q⟩⟩
theorem Fair.valid {d : Dk} (h : Fair d) (hg : ∀ f ∈ d, f.1.Pairwise fun a b => leE eS a b = true) : Valid (srt eFl d) where
  toFair := h.perm (srt_perm eFl d).symm
  srt := srt_pw eFl d
  grp := fun f hf => hg f (mem_srt.mp hf)
theorem shown_srt {d : Dk} (h : Fair d) (n : Str) : shown (srt eFl d) n = shown d n := (shown_perm h (srt_perm eFl d).symm n).symm
theorem same_srt {d : Dk} (a b : Str) : areSame (srt eFl d) a b = areSame d a b := same_perm (srt_perm eFl d) a b
/-! what the deeds do to it -/
theorem without_mem {d : Dk} {x : Str} {f : Fl} : f ∈ without d x ↔ ∃ g ∈ d, f = cutN x g ∧ f.1 ≠ [] := by
  unfold without
  simp only [List.mem_filter, List.mem_map, Bool.not_eq_true', decide_eq_false_iff_not]
  constructor
  · rintro ⟨⟨g, hg, rfl⟩, h⟩
    exact ⟨g, hg, rfl, h⟩
  · rintro ⟨g, hg, rfl, h⟩
    exact ⟨⟨g, hg, rfl⟩, h⟩
theorem names_without {d : Dk} {x : Str} : namesD (without d x) = (namesD d).filter fun n => !decide (n = x) := by
  unfold without namesD
  induction d with
  | nil => rfl
  | cons f d ih =>
    rw [List.map_cons, List.flatMap_cons, List.filter_append, List.filter_cons]
    by_cases e : (cutN x f).1 = []
    · simp only [e, decide_true, Bool.not_true, Bool.false_eq_true, if_false]
      have e2 : f.1.filter (fun n => !decide (n = x)) = [] := e
      rw [e2, List.nil_append]
      exact ih
    · simp only [e, decide_false, Bool.not_false, if_true, List.flatMap_cons]
      rw [ih]
      rfl
theorem Valid.without {d : Dk} (v : Valid d) (x : Str) : Fair (without d x) ∧ ∀ f ∈ Z.without d x, f.1.Pairwise fun a b => leE eS a b = true := by
  refine ⟨⟨fun f hf => without_ne hf, ?_, ?_⟩, fun f hf => ?_⟩
  · rw [names_without]
    exact v.nd.filter _
  · rw [names_without]
    exact fun n hn => v.ok n (List.mem_filter.mp hn).1
  · obtain ⟨g, hg, rfl, _⟩ := without_mem.mp hf
    exact (v.grp g hg).filter _
theorem shown_without {d : Dk} (v : Fair d) (x n : Str) : shown (without d x) n = if n = x then none else shown d n := by
  have nd : (namesD (without d x)).Nodup := by
    rw [names_without]
    exact v.nd.filter _
  by_cases e : n = x
  · rw [if_pos e, shown_none, names_without]
    simp [e]
  · rw [if_neg e]
    cases hs : shown d n with
    | none =>
      rw [shown_none] at hs ⊢
      rw [names_without]
      exact fun q => hs (List.mem_filter.mp q).1
    | some c =>
      obtain ⟨f, hf, hn, rfl⟩ := (shown_iff v.nd).mp hs
      have hm : n ∈ (cutN x f).1 := List.mem_filter.mpr ⟨hn, by simp [e]⟩
      exact (shown_iff nd).mpr ⟨cutN x f, without_mem.mpr ⟨f, hf, rfl, fun q => by rw [q] at hm; cases hm⟩, hm, rfl⟩
theorem same_without {d : Dk} (x a b : Str) : areSame (without d x) a b = (!decide (a = x) && !decide (b = x) && areSame d a b) := by
  rw [Bool.eq_iff_iff, same_iff]
  simp only [Bool.and_eq_true, Bool.not_eq_true', decide_eq_false_iff_not, same_iff]
  constructor
  · rintro ⟨f, hf, ha, hb⟩
    obtain ⟨g, hg, rfl, _⟩ := without_mem.mp hf
    obtain ⟨ha, h1⟩ := List.mem_filter.mp ha
    obtain ⟨hb, h2⟩ := List.mem_filter.mp hb
    exact ⟨⟨by simpa using h1, by simpa using h2⟩, g, hg, ha, hb⟩
  · rintro ⟨⟨h1, h2⟩, g, hg, ha, hb⟩
    have hm : a ∈ (cutN x g).1 := List.mem_filter.mpr ⟨ha, by simp [h1]⟩
    exact ⟨cutN x g, without_mem.mpr ⟨g, hg, rfl, fun q => by rw [q] at hm; cases hm⟩, hm, List.mem_filter.mpr ⟨hb, by simp [h2]⟩⟩
end Z

set_option Elab.async false
set_option linter.all false
set_option maxRecDepth 100000
/-! M9: what deeds do to what a disk shows and shares -/
namespace Z
open PySem PySem.Spec PyProof.Rows L2

theorem Fair.names_okN {d : Dk} (v : Fair d) {n : Str} (h : n ∈ namesD d) : okN n := v.ok n h
theorem names_app {d e : Dk} : namesD (d ++ e) = namesD d ++ namesD e := by simp [namesD]
theorem Fair.app {d : Dk} (v : Fair d) {x : Str} {c : Int} (hx : x ∉ namesD d) (ho : okN x) : Fair (d ++ [([x], c)]) := by
  have e1 : namesD ([([x], c)] : Dk) = [x] := rfl
  refine ⟨fun f hf => ?_, ?_, ?_⟩
  · rcases List.mem_append.mp hf with hf | hf
    · exact v.ne f hf
    · have : f = ([x], c) := by simpa using hf
      rw [this]
      simp
  · rw [names_app, e1, List.nodup_append]
    exact ⟨v.nd, by simp, fun a ha b hb e => hx (by
      have : b = x := by simpa using hb
      rw [← this, ← e]
      exact ha)⟩
  · rw [names_app, e1]
    intro n hn
    rcases List.mem_append.mp hn with hn | hn
    · exact v.ok n hn
    · have : n = x := by simpa using hn
      rw [this]
      exact ho
theorem shown_app {d : Dk} {x : Str} {c : Int} (hx : x ∉ namesD d) (n : Str) : shown (d ++ [([x], c)]) n = if n = x then some c else shown d n := by
  induction d with
  | nil =>
    by_cases e : n = x <;> simp [shown, e]
  | cons f d ih =>
    have h1 : x ∉ f.1 := fun q => hx (mem_names.mpr ⟨f, List.mem_cons_self .., q⟩)
    have h2 : x ∉ namesD d := fun q => hx (by
      obtain ⟨g, hg, q⟩ := mem_names.mp q
      exact mem_names.mpr ⟨g, List.mem_cons_of_mem _ hg, q⟩)
    rw [List.cons_append]
    unfold shown
    by_cases hn : n ∈ f.1
    · have : ¬ n = x := fun q => h1 (by rw [← q]; exact hn)
      simp [hn, this]
    · simp only [hn, if_false]
      exact ih h2
theorem same_app {d : Dk} {x : Str} {c : Int} (a b : Str) : areSame (d ++ [([x], c)]) a b = (areSame d a b || (decide (a = x) && decide (b = x))) := by
  simp [areSame, List.any_append]
theorem not_in_without {d : Dk} {x : Str} : x ∉ namesD (without d x) := by
  rw [names_without]
  simp
section
variable {d : Dk} (v : Valid d) {x : Str} (ho : okN x) (c : Int)
include v ho
theorem withFile_fair : Fair (without d x ++ [([x], c)]) := (v.without x).1.app not_in_without ho
theorem Valid.withFile : Valid (Z.withFile d x c) := by
  refine (withFile_fair v ho c).valid fun f hf => ?_
  rcases List.mem_append.mp hf with hf | hf
  · exact (v.without x).2 f hf
  · have : f = ([x], c) := by simpa using hf
    rw [this]
    simp
theorem shown_withFile (n : Str) : shown (withFile d x c) n = if n = x then some c else shown d n := by
  unfold withFile
  rw [shown_srt (withFile_fair v ho c), shown_app not_in_without, shown_without v.toFair]
  by_cases e : n = x <;> simp [e]
omit ho v in
theorem same_withFile (a b : Str) : areSame (withFile d x c) a b = ((!decide (a = x) && !decide (b = x) && areSame d a b) || (decide (a = x) && decide (b = x))) := by
  unfold withFile
  rw [same_srt, same_app, same_without]
end
/-! written -/
theorem names_written {d : Dk} {x : Str} {c : Int} : namesD (d.map fun f => (f.1, if x ∈ f.1 then c else f.2)) = namesD d := by
  unfold namesD
  rw [List.flatMap_map]
section
variable {d : Dk} (v : Valid d) {x : Str} (ho : okN x) (c : Int)
include v ho
theorem Valid.written (h : ∀ f ∈ d, x ∈ f.1 → True) : Fair (Z.written d x c) ∧ ∀ f ∈ Z.written d x c, f.1.Pairwise fun a b => leE eS a b = true := by
  unfold Z.written
  split
  · exact ⟨(Valid.withFile v ho c).toFair, (Valid.withFile v ho c).grp⟩
  · refine ⟨⟨fun f hf => ?_, by rw [names_written]; exact v.nd, by rw [names_written]; exact v.ok⟩, fun f hf => ?_⟩
    · obtain ⟨g, hg, rfl⟩ := List.mem_map.mp hf
      exact v.ne g hg
    · obtain ⟨g, hg, rfl⟩ := List.mem_map.mp hf
      exact v.grp g hg
theorem shown_written (n : Str) : shown (written d x c) n = if n = x ∨ areSame d x n = true then some c else shown d n := by
  unfold written
  cases e : shown d x with
  | none =>
    simp only []
    rw [shown_withFile v ho]
    have : areSame d x n = false := by
      rw [Bool.eq_false_iff]
      intro q
      obtain ⟨f, hf, hx, _⟩ := same_iff.mp q
      exact shown_none.mp e (mem_names.mpr ⟨f, hf, hx⟩)
    simp [this]
  | some i =>
    simp only []
    have nd : (namesD (d.map fun f => (f.1, if x ∈ f.1 then c else f.2))).Nodup := by rw [names_written]; exact v.nd
    have self : areSame d x x = true := by
      obtain ⟨f, hf, hx, _⟩ := (shown_iff v.nd).mp e
      exact same_iff.mpr ⟨f, hf, hx, hx⟩
    by_cases q : areSame d x n = true
    · obtain ⟨f, hf, hx, hn⟩ := same_iff.mp q
      rw [if_pos (.inr q)]
      exact (shown_iff nd).mpr ⟨_, List.mem_map.mpr ⟨f, hf, rfl⟩, hn, by simp [hx]⟩
    · have hne : ¬ n = x := fun z => q (by rw [z]; exact self)
      rw [if_neg (by simp [hne, q])]
      cases e2 : shown d n with
      | none =>
        rw [shown_none, names_written]
        exact shown_none.mp e2
      | some j =>
        obtain ⟨f, hf, hn, rfl⟩ := (shown_iff v.nd).mp e2
        have hx : x ∉ f.1 := fun z => q (same_iff.mpr ⟨f, hf, z, hn⟩)
        exact (shown_iff nd).mpr ⟨_, List.mem_map.mpr ⟨f, hf, rfl⟩, hn, by simp [hx]⟩
omit ho in
theorem same_written (a b : Str) : areSame (written d x c) a b = if x ∈ namesD d then areSame d a b else (areSame d a b || (decide (a = x) && decide (b = x))) := by
  unfold written
  cases e : shown d x with
  | none =>
    have hx := shown_none.mp e
    simp only [hx, if_false]
    rw [same_withFile]
    by_cases h1 : a = x
    · by_cases h2 : b = x <;> simp [h1, h2]
      rw [Bool.eq_false_iff]
      intro q
      obtain ⟨f, hf, ha, _⟩ := same_iff.mp q
      exact hx (mem_names.mpr ⟨f, hf, by rw [← h1]; exact (by simpa [h1] using ha)⟩)
    · by_cases h2 : b = x <;> simp [h1, h2]
      rw [Bool.eq_false_iff]
      intro q
      obtain ⟨f, hf, _, hb⟩ := same_iff.mp q
      exact hx (mem_names.mpr ⟨f, hf, hb⟩)
  | some i =>
    have hx : x ∈ namesD d := by
      obtain ⟨f, hf, hx, _⟩ := (shown_iff v.nd).mp e
      exact mem_names.mpr ⟨f, hf, hx⟩
    simp only [hx, if_true]
    simp [areSame, List.any_map, Function.comp_def]
end
/-! joined -/
theorem mem_joinF {n o a : Str} {g : Fl} : a ∈ (joinF n o g).1 ↔ a ∈ g.1 ∨ (a = o ∧ n ∈ g.1) := by
  unfold joinF
  by_cases h : n ∈ g.1
  · simp [h, mem_srt]
  · simp [h]
theorem names_joined {n o : Str} : ∀ {d : Dk}, (namesD d).Nodup → (namesD (d.map (joinF n o))).Perm (if n ∈ namesD d then o :: namesD d else namesD d)
  | [], _ => by simp [namesD]
  | f :: d, h => by
    obtain ⟨h1, h2, h3⟩ := nd_cons h
    have ih := names_joined (n := n) (o := o) h2
    have ec : namesD ((f :: d).map (joinF n o)) = (joinF n o f).1 ++ namesD (d.map (joinF n o)) := rfl
    have ed : namesD (f :: d) = f.1 ++ namesD d := rfl
    rw [ec, ed]
    by_cases hn : n ∈ f.1
    · have hnd : n ∉ namesD d := h3 n hn
      rw [if_neg hnd] at ih
      rw [if_pos (List.mem_append_left _ hn)]
      have e1 : (joinF n o f).1 = srt eS (f.1 ++ [o]) := by simp [joinF, hn]
      rw [e1]
      refine ((srt_perm eS (f.1 ++ [o])).append ih).trans ?_
      rw [List.append_assoc]
      exact List.perm_middle
    · have e1 : (joinF n o f).1 = f.1 := by simp [joinF, hn]
      rw [e1]
      by_cases hd : n ∈ namesD d
      · rw [if_pos hd] at ih
        rw [if_pos (List.mem_append_right _ hd)]
        exact (ih.append_left f.1).trans List.perm_middle
      · rw [if_neg hd] at ih
        rw [if_neg (by simp [hn, hd])]
        exact ih.append_left f.1
theorem names_join_of {d : Dk} {n o : Str} (hn : n ∈ namesD d) (ne : n ≠ o) : n ∈ namesD (without d o) := by
  rw [names_without, List.mem_filter]
  exact ⟨hn, by simp [ne]⟩
section
variable {d : Dk} (v : Valid d) {n o : Str} (ho : okN o) (hn : n ∈ namesD d) (ne : n ≠ o)
include v ho hn ne
theorem joined_fair : Fair ((without d o).map (joinF n o)) := by
  have w := (v.without o).1
  have p := names_joined (n := n) (o := o) w.nd
  rw [if_pos (names_join_of hn ne)] at p
  refine ⟨fun f hf => ?_, p.nodup_iff.mpr (List.nodup_cons.mpr ⟨not_in_without, w.nd⟩), fun a ha => ?_⟩
  · obtain ⟨g, hg, rfl⟩ := List.mem_map.mp hf
    obtain ⟨z, hz⟩ := List.exists_mem_of_ne_nil _ (w.ne g hg)
    intro q
    have := mem_joinF (n := n) (o := o).mpr (.inl hz)
    rw [q] at this
    cases this
  · rcases List.mem_cons.mp (p.mem_iff.mp ha) with rfl | ha
    · exact ho
    · exact w.ok a ha
theorem Valid.joined : Valid (Z.joined d n o) := by
  refine (joined_fair v ho hn ne).valid fun f hf => ?_
  obtain ⟨g, hg, rfl⟩ := List.mem_map.mp hf
  by_cases h : n ∈ g.1
  · simp only [joinF, h, if_true]
    exact srt_pw eS _
  · simp only [joinF, h, if_false]
    exact (v.without o).2 g hg
theorem same_joined (a b : Str) : areSame (joined d n o) a b = areSame d (if a = o then n else a) (if b = o then n else b) := by
  have hw : ∀ {a : Str}, a ∈ namesD d → a ≠ o → ∃ g ∈ without d o, a ∈ g.1 := fun {a} h1 h2 => mem_names.mp (names_join_of h1 h2)
  have key : ∀ {f : Fl} {a : Str}, f ∈ d → (a ∈ (joinF n o (cutN o f)).1 ↔ (if a = o then n else a) ∈ f.1) := by
    intro f a hf
    rw [mem_joinF]
    by_cases e : a = o
    · subst e
      simp [cutN, ne]
    · simp [cutN, e]
  show areSame (srt eFl ((without d o).map (joinF n o))) a b = _
  rw [same_srt, Bool.eq_iff_iff, same_iff, same_iff]
  constructor
  · rintro ⟨f, hf, ha, hb⟩
    obtain ⟨g, hg, rfl⟩ := List.mem_map.mp hf
    obtain ⟨k, hk, rfl, _⟩ := without_mem.mp hg
    exact ⟨k, hk, (key hk).mp ha, (key hk).mp hb⟩
  · rintro ⟨k, hk, ha, hb⟩
    have h1 := (key hk).mpr ha
    refine ⟨joinF n o (cutN o k), List.mem_map.mpr ⟨cutN o k, without_mem.mpr ⟨k, hk, rfl, fun q => ?_⟩, rfl⟩, h1, (key hk).mpr hb⟩
    rw [mem_joinF, q] at h1
    rcases h1 with h1 | ⟨_, h1⟩ <;> cases h1
theorem shown_joined (k : Str) : shown (joined d n o) k = if k = o then shown d n else shown d k := by
  have key : ∀ {f : Fl} {a : Str}, f ∈ d → (a ∈ (joinF n o (cutN o f)).1 ↔ (if a = o then n else a) ∈ f.1) := by
    intro f a hf
    rw [mem_joinF]
    by_cases e : a = o
    · subst e
      simp [cutN, ne]
    · simp [cutN, e]
  have fr := joined_fair v ho hn ne
  show shown (srt eFl ((without d o).map (joinF n o))) k = _
  rw [shown_srt fr]
  have e0 : (if k = o then shown d n else shown d k) = shown d (if k = o then n else k) := by split <;> rfl
  rw [e0]
  cases e : shown d (if k = o then n else k) with
  | none =>
    rw [shown_none] at e ⊢
    intro q
    obtain ⟨f, hf, ha⟩ := mem_names.mp q
    obtain ⟨g, hg, rfl⟩ := List.mem_map.mp hf
    obtain ⟨x, hx, rfl, _⟩ := without_mem.mp hg
    exact e (mem_names.mpr ⟨x, hx, (key hx).mp ha⟩)
  | some c =>
    obtain ⟨f, hf, ha, rfl⟩ := (shown_iff v.nd).mp e
    have h1 := (key hf).mpr ha
    refine (shown_iff fr.nd).mpr ⟨joinF n o (cutN o f), List.mem_map.mpr ⟨cutN o f, without_mem.mpr ⟨f, hf, rfl, fun q => ?_⟩, rfl⟩, h1, rfl⟩
    rw [mem_joinF, q] at h1
    rcases h1 with h1 | ⟨_, h1⟩ <;> cases h1
end
end Z

set_option Elab.async false
set_option linter.all false
set_option maxRecDepth 100000
/-! MA: the tables and the disk go together -/
namespace Z
open PySem PySem.Spec PyProof.Rows L2

structure Held.good (s : Held) : Prop where
  nd : (s.ow.map (·.1)).Nodup
  nm : okNs (s.ow.map (·.1))
  ok : s.ok
def Held.key (s : Held) : List Str := srt eS (s.ow.map (·.1))
/-- the names of file i -/
def Held.of (s : Held) (i : Nat) : List Str := s.key.filter fun n => decide (aget s.ow n = some i)
theorem rev_ind {α : Type} {P : List α → Prop} (h0 : P []) (h1 : ∀ l a, P l → P (l ++ [a])) (l : List α) : P l := by
  have : ∀ m : List α, P m.reverse := by
    intro m
    induction m with
    | nil => exact h0
    | cons a m ih => rw [List.reverse_cons]; exact h1 _ _ ih
  simpa using this l.reverse
theorem grp_inv (ow : Ow) : ∀ (p : List Str), ((p.foldl (grpN ow) []).map (·.1)).Nodup ∧ (∀ x ∈ p.foldl (grpN ow) [], x.2 = p.filter (fun n => decide (aget ow n = some x.1)) ∧ x.2 ≠ []) ∧ ∀ n ∈ p, ∀ i, aget ow n = some i → i ∈ (p.foldl (grpN ow) []).map (·.1) := by
  refine rev_ind (by simp) fun p n ih => ?_
  · obtain ⟨h1, h2, h3⟩ := ih
    rw [List.foldl_append]
    generalize hg : p.foldl (grpN ow) [] = gr at h1 h2 h3
    show (((grpN ow gr n)).map (·.1)).Nodup ∧ (∀ x ∈ grpN ow gr n, x.2 = (p ++ [n]).filter (fun n => decide (aget ow n = some x.1)) ∧ x.2 ≠ []) ∧ ∀ m ∈ p ++ [n], ∀ i, aget ow m = some i → i ∈ (grpN ow gr n).map (·.1)
    unfold grpN
    cases e : aget ow n with
    | none =>
      refine ⟨h1, fun x hx => ?_, fun m hm i ei => ?_⟩
      · rw [List.filter_append]
        have : [n].filter (fun n => decide (aget ow n = some x.1)) = [] := by simp [e]
        rw [this, List.append_nil]
        exact h2 x hx
      · rcases List.mem_append.mp hm with hm | hm
        · exact h3 m hm i ei
        · have : m = n := by simpa using hm
          rw [this, e] at ei
          cases ei
    | some j =>
      simp only []
      refine ⟨aput_nd h1, fun x hx => ?_, fun m hm i ei => ?_⟩
      · have other : ∀ x ∈ gr, x.1 ≠ j → x.2 = (p ++ [n]).filter (fun n => decide (aget ow n = some x.1)) ∧ x.2 ≠ [] := by
          intro x hx hne
          rw [List.filter_append]
          have : [n].filter (fun n => decide (aget ow n = some x.1)) = [] := by
            have : ¬ j = x.1 := fun q => hne q.symm
            simp [e, this]
          rw [this, List.append_nil]
          exact h2 x hx
        have mine : (aget gr j).getD [] ++ [n] = (p ++ [n]).filter (fun n => decide (aget ow n = some j)) := by
          rw [List.filter_append]
          have : [n].filter (fun n => decide (aget ow n = some j)) = [n] := by simp [e]
          rw [this]
          congr 1
          cases eg : aget gr j with
          | some g => exact (h2 _ (aget_mem eg)).1
          | none =>
            show [] = _
            symm
            rw [List.filter_eq_nil_iff]
            intro m hm q
            have hj := h3 m hm j (by simpa using q)
            obtain ⟨g, eg2⟩ := aget_some hj
            rw [eg] at eg2
            cases eg2
        unfold aput at hx
        split at hx
        · obtain ⟨y, hy, rfl⟩ := List.mem_map.mp hx
          by_cases q : y.1 = j
          · simp only [q, if_true]
            exact ⟨mine, by simp⟩
          · simp only [q, if_false]
            exact other y hy q
        · rename_i hn
          rcases List.mem_append.mp hx with hx | hx
          · refine other x hx fun q => hn ?_
            rw [List.any_eq_true]
            exact ⟨x, hx, by simpa using q⟩
          · have : x = (j, (aget gr j).getD [] ++ [n]) := by simpa using hx
            rw [this]
            exact ⟨mine, by simp⟩
      · rw [aput_keys]
        have : i ∈ gr.map (·.1) ∨ i = j := by
          rcases List.mem_append.mp hm with hm | hm
          · exact .inl (h3 m hm i ei)
          · have : m = n := by simpa using hm
            rw [this, e] at ei
            exact .inr (Option.some.inj ei).symm
        split
        · rename_i hj
          rcases this with q | q
          · exact q
          · rw [q]
            exact hj
        · rcases this with q | q
          · exact List.mem_append_left _ q
          · rw [q]
            simp
theorem mem_key {s : Held} {n : Str} : n ∈ s.key ↔ n ∈ s.ow.map (·.1) := mem_srt
theorem mem_key_get {s : Held} {n : Str} : n ∈ s.key ↔ ∃ i, aget s.ow n = some i := by
  rw [mem_key]
  constructor
  · exact aget_some
  · rintro ⟨i, e⟩
    exact List.mem_map.mpr ⟨_, aget_mem e, rfl⟩
theorem files_mem {s : Held} {f : Fl} : f ∈ s.files ↔ ∃ i, f = (s.of i, s.cs.getD i 0) ∧ s.of i ≠ [] := by
  obtain ⟨h1, h2, h3⟩ := grp_inv s.ow s.key
  unfold Held.files grp
  rw [List.mem_map]
  constructor
  · rintro ⟨x, hx, rfl⟩
    have := h2 x hx
    exact ⟨x.1, by rw [this.1]; rfl, by rw [← show x.2 = s.of x.1 from this.1]; exact this.2⟩
  · rintro ⟨i, rfl, hne⟩
    obtain ⟨n, hn⟩ := List.exists_mem_of_ne_nil _ hne
    obtain ⟨hk, hi⟩ := List.mem_filter.mp hn
    have hi : aget s.ow n = some i := by simpa using hi
    obtain ⟨x, hx, rfl⟩ := List.mem_map.mp (h3 n hk i hi)
    exact ⟨x, hx, by rw [(h2 x hx).1]; rfl⟩
theorem mem_of {s : Held} {n : Str} {i : Nat} : n ∈ s.of i ↔ aget s.ow n = some i := by
  unfold Held.of
  rw [List.mem_filter]
  constructor
  · rintro ⟨_, h⟩
    simpa using h
  · intro h
    exact ⟨mem_key_get.mpr ⟨i, h⟩, by simpa using h⟩
theorem nodup_flat {α β : Type} {f : α → List β} : ∀ {l : List α}, (∀ x ∈ l, (f x).Nodup) → l.Pairwise (fun x y => ∀ b ∈ f x, b ∉ f y) → (l.flatMap f).Nodup
  | [], _, _ => by simp
  | x :: l, h, p => by
    rw [List.flatMap_cons, List.nodup_append]
    rw [List.pairwise_cons] at p
    refine ⟨h x (List.mem_cons_self ..), nodup_flat (fun y hy => h y (List.mem_cons_of_mem _ hy)) p.2, fun b hb c hc e => ?_⟩
    obtain ⟨y, hy, hc⟩ := List.mem_flatMap.mp hc
    exact p.1 y hy b hb (by rw [e]; exact hc)
theorem files_fair {s : Held} (g : s.good) : Fair s.files := by
  obtain ⟨h1, h2, h3⟩ := grp_inv s.ow s.key
  refine ⟨fun f hf => ?_, ?_, fun n hn => ?_⟩
  · obtain ⟨i, rfl, hne⟩ := files_mem.mp hf
    exact hne
  · unfold namesD Held.files grp
    rw [List.flatMap_map]
    have hk : s.key.Nodup := (srt_perm eS _).nodup_iff.mpr g.nd
    refine nodup_flat (fun x hx => ?_) ?_
    · rw [(h2 x hx).1]
      exact hk.filter _
    · have hp : ((s.key.foldl (grpN s.ow) [])).Pairwise fun x y => x.1 ≠ y.1 := List.pairwise_map.mp h1
      refine hp.imp_of_mem fun {x y} hx hy hne b hb hb' => ?_
      rw [(h2 x hx).1] at hb
      rw [(h2 y hy).1] at hb'
      have e1 : aget s.ow b = some x.1 := by simpa using (List.mem_filter.mp hb).2
      have e2 : aget s.ow b = some y.1 := by simpa using (List.mem_filter.mp hb').2
      rw [e1] at e2
      exact hne (Option.some.inj e2)
  · obtain ⟨f, hf, hm⟩ := mem_names.mp hn
    obtain ⟨i, rfl, _⟩ := files_mem.mp hf
    exact g.nm n (mem_key.mp (mem_key_get.mpr ⟨i, mem_of.mp hm⟩))
theorem Held.good.valid {s : Held} (g : s.good) : Valid s.shown :=
  (files_fair g).valid fun f hf => by
    obtain ⟨i, rfl, _⟩ := files_mem.mp hf
    exact (srt_pw eS _).filter _
theorem shown_tab {s : Held} (g : s.good) (n : Str) : shown s.shown n = (aget s.ow n).map fun i => s.cs.getD i 0 := by
  unfold Held.shown
  rw [shown_srt (files_fair g)]
  cases e : aget s.ow n with
  | some i => exact (shown_iff (files_fair g).nd).mpr ⟨(s.of i, s.cs.getD i 0), files_mem.mpr ⟨i, rfl, fun q => by have := mem_of.mpr e; rw [q] at this; cases this⟩, mem_of.mpr e, rfl⟩
  | none =>
    show _ = none
    rw [shown_none]
    intro q
    obtain ⟨f, hf, hm⟩ := mem_names.mp q
    obtain ⟨i, rfl, _⟩ := files_mem.mp hf
    rw [mem_of.mp hm] at e
    cases e
theorem same_tab {s : Held} (a b : Str) : areSame s.shown a b = true ↔ ∃ i, aget s.ow a = some i ∧ aget s.ow b = some i := by
  unfold Held.shown
  rw [same_srt, same_iff]
  constructor
  · rintro ⟨f, hf, ha, hb⟩
    obtain ⟨i, rfl, _⟩ := files_mem.mp hf
    exact ⟨i, mem_of.mp ha, mem_of.mp hb⟩
  · rintro ⟨i, ha, hb⟩
    exact ⟨(s.of i, s.cs.getD i 0), files_mem.mpr ⟨i, rfl, fun q => by have := mem_of.mpr ha; rw [q] at this; cases this⟩, mem_of.mpr ha, mem_of.mpr hb⟩
end Z

set_option Elab.async false
set_option linter.all false
set_option maxRecDepth 100000
/-! MB: a deed done to the tables is the deed done to the disk -/
namespace Z
open PySem PySem.Spec PyProof.Rows L2

theorem leE_Fl {g g' : List Str} {c c' : Int} (h : g ≠ g') : leE eFl (g, c) (g', c') = leE eNs g g' := by
  rw [leE_lt, leE_lt]
  have a1 := alike_Ns g' g
  have e : PyData.eqv (eNs g').pd (eNs g).pd = false := by
    rw [Bool.eq_false_iff]
    intro q
    exact h (eNs_inj _ _ ((eqv_iff _ _ (smp_Ns g') (smp_Ns g)).mp q)).symm
  have : PySem.W.dataLt (eFl (g', c')).pd (eFl (g, c)).pd = PySem.W.dataLt (eNs g').pd (eNs g).pd := by
    simp only [eFl, D.pd, D.pds]
    rw [PySem.W.dataLt_pair a1 (by simp [PySem.W.alike])]
    rw [if_neg (by simp [e])]
  rw [this]
theorem Fair.diff {d : Dk} (v : Fair d) : d.Pairwise fun a b => a.1 ≠ b.1 := by
  obtain ⟨ne, nd, ok⟩ := v
  clear ok
  induction d with
  | nil => exact .nil
  | cons f d ih =>
    obtain ⟨_, b, c⟩ := nd_cons nd
    refine List.pairwise_cons.mpr ⟨fun g hg e => ?_, ih (fun f hf => ne f (List.mem_cons_of_mem _ hf)) b⟩
    obtain ⟨n, hn⟩ := List.exists_mem_of_ne_nil _ (ne f (List.mem_cons_self ..))
    exact c n hn (mem_names.mpr ⟨g, hg, by rw [← e]; exact hn⟩)
theorem valid_written {d : Dk} (v : Valid d) {x : Str} (ho : okN x) (c : Int) : Valid (written d x c) := by
  have w := Valid.written v ho c (fun _ _ _ => trivial)
  refine ⟨w.1, ?_, w.2⟩
  unfold written
  cases shown d x with
  | none => exact (Valid.withFile v ho c).srt
  | some i =>
    simp only []
    rw [List.pairwise_map]
    refine (v.srt.and v.toFair.diff).imp fun {a b} h => ?_
    obtain ⟨h1, h2⟩ := h
    have e := leE_Fl (c := a.2) (c' := b.2) h2
    rw [leE_Fl h2]
    have h1 : leE eFl (a.1, a.2) (b.1, b.2) = true := h1
    rw [e] at h1
    exact h1
theorem valid_without {d : Dk} (v : Valid d) (x : Str) : Valid (srt eFl (without d x)) := (v.without x).1.valid (v.without x).2
/-! the tables changed -/
section
variable {s : Held} (g : s.good)
include g
theorem good_fresh {n : Str} (hn : okN n) (c : Int) : (s.fresh n c).good := by
  refine ⟨aput_nd g.nd, fun m hm => ?_, fun m i e => ?_⟩
  · have hm : m ∈ (aput s.ow n s.cs.length).map (·.1) := hm
    rw [aput_keys] at hm
    split at hm
    · exact g.nm m hm
    · rcases List.mem_append.mp hm with hm | hm
      · exact g.nm m hm
      · have : m = n := by simpa using hm
        rw [this]
        exact hn
  · have e : aget (aput s.ow n s.cs.length) m = some i := e
    rw [aget_put] at e
    show i < (s.cs ++ [c]).length
    split at e
    · cases e
      simp
    · have := g.ok m i e
      simp
      omega
theorem fresh_shown {n : Str} (hn : okN n) (c : Int) : (s.fresh n c).shown = withFile s.shown n c := by
  have g' := good_fresh g hn c
  refine g'.valid.ext (Valid.withFile g.valid hn c) (fun k => ?_) fun a b => ?_
  · rw [shown_tab g', shown_withFile g.valid hn, shown_tab g]
    show (aget (aput s.ow n s.cs.length) k).map (fun i => (s.cs ++ [c]).getD i 0) = _
    rw [aget_put]
    by_cases e : k = n
    · simp [e, List.getD]
    · rw [if_neg e, if_neg e]
      cases ek : aget s.ow k with
      | none => rfl
      | some i =>
        have hi := g.ok k i ek
        simp [List.getD, List.getElem?_append_left hi]
  · rw [same_withFile, Bool.eq_iff_iff, same_tab]
    show (∃ i, aget (aput s.ow n s.cs.length) a = some i ∧ aget (aput s.ow n s.cs.length) b = some i) ↔ _
    rw [aget_put, aget_put]
    simp only [Bool.or_eq_true, Bool.and_eq_true, Bool.not_eq_true', decide_eq_false_iff_not, decide_eq_true_eq, same_tab]
    have lt : ∀ m i, aget s.ow m = some i → i ≠ s.cs.length := fun m i e => Nat.ne_of_lt (g.ok m i e)
    by_cases h1 : a = n
    · by_cases h2 : b = n
      · simp [h1, h2]
      · simp only [h1, h2, if_true, if_false]
        constructor
        · rintro ⟨i, e1, e2⟩
          cases e1
          exact (lt b _ e2 rfl).elim
        · rintro (⟨⟨q, _⟩, _⟩ | ⟨_, q⟩)
          · exact (q trivial).elim
          · exact q.elim
    · by_cases h2 : b = n
      · simp only [h1, h2, if_true, if_false]
        constructor
        · rintro ⟨i, e1, e2⟩
          cases e2
          exact (lt a _ e1 rfl).elim
        · rintro (⟨⟨_, q⟩, _⟩ | ⟨q, _⟩)
          · exact (q trivial).elim
          · exact q.elim
      · simp [h1, h2]
theorem good_set {i : Nat} (c : Int) : (Held.mk s.ow (s.cs.set i c)).good := ⟨g.nd, g.nm, fun m j e => by
  show j < (s.cs.set i c).length
  rw [List.length_set]
  exact g.ok m j e⟩
theorem set_shown {n : Str} {i : Nat} (hn : okN n) (ei : aget s.ow n = some i) (c : Int) : (Held.mk s.ow (s.cs.set i c)).shown = written s.shown n c := by
  have g' := good_set g (i := i) c
  have hi := g.ok n i ei
  have hm : n ∈ namesD s.shown := by
    have := shown_tab g n
    rw [ei] at this
    obtain ⟨f, hf, q, _⟩ := (shown_iff g.valid.nd).mp this
    exact mem_names.mpr ⟨f, hf, q⟩
  refine g'.valid.ext (valid_written g.valid hn c) (fun k => ?_) fun a b => ?_
  · rw [shown_tab g', shown_written g.valid hn, shown_tab g]
    show (aget s.ow k).map (fun j => (s.cs.set i c).getD j 0) = _
    by_cases e : aget s.ow k = some i
    · rw [if_pos (.inr ((same_tab n k).mpr ⟨i, ei, e⟩)), e]
      simp [List.getD, List.getElem?_set_self hi]
    · have h1 : ¬ k = n := fun q => e (by rw [q]; exact ei)
      have h2 : ¬ areSame s.shown n k = true := fun q => by
        obtain ⟨j, e1, e2⟩ := (same_tab n k).mp q
        rw [ei] at e1
        cases e1
        exact e e2
      rw [if_neg (by simp [h1, h2])]
      cases ek : aget s.ow k with
      | none => rfl
      | some j =>
        have : i ≠ j := fun q => e (by rw [ek, q])
        simp [List.getD, List.getElem?_set_ne this]
  · rw [same_written g.valid, if_pos hm, Bool.eq_iff_iff, same_tab, same_tab]
theorem aget_drop (n m : Str) : aget (adrop s.ow n) m = if m = n then none else aget s.ow m := by
  unfold aget adrop
  generalize s.ow = l
  induction l with
  | nil => simp
  | cons p l ih =>
    rw [List.filter_cons]
    by_cases h1 : p.1 = n
    · simp only [h1, ne_eq, not_true_eq_false, decide_false, Bool.false_eq_true, if_false, ih]
      by_cases h2 : m = n
      · simp [h2]
      · have : ¬ n = m := fun q => h2 q.symm
        simp [h2, List.find?_cons, h1, this]
    · simp only [h1, ne_eq, not_false_eq_true, decide_true, if_true, List.find?_cons]
      by_cases h2 : p.1 = m
      · have : ¬ m = n := fun q => h1 (h2.trans q)
        simp [h2, this]
      · simp only [h2, decide_false]
        exact ih
theorem good_drop (n : Str) : (Held.mk (adrop s.ow n) s.cs).good := by
  have sub : (adrop s.ow n).map (·.1) = (s.ow.map (·.1)).filter fun m => decide (m ≠ n) := by
    unfold adrop
    rw [List.filter_map]
    rfl
  refine ⟨by rw [sub]; exact g.nd.filter _, by rw [sub]; exact fun m hm => g.nm m (List.mem_filter.mp hm).1, fun m i e => ?_⟩
  have e : aget (adrop s.ow n) m = some i := e
  rw [aget_drop g] at e
  split at e
  · cases e
  · exact g.ok m i e
theorem drop_shown (n : Str) : (Held.mk (adrop s.ow n) s.cs).shown = srt eFl (without s.shown n) := by
  have g' := good_drop g n
  have w := g.valid.without n
  refine g'.valid.ext (valid_without g.valid n) (fun k => ?_) fun a b => ?_
  · rw [shown_tab g', shown_srt w.1, shown_without g.valid.toFair, shown_tab g]
    show (aget (adrop s.ow n) k).map _ = _
    rw [aget_drop g]
    by_cases e : k = n <;> simp [e]
  · rw [same_srt, same_without, Bool.eq_iff_iff, same_tab]
    show (∃ i, aget (adrop s.ow n) a = some i ∧ aget (adrop s.ow n) b = some i) ↔ _
    rw [aget_drop g, aget_drop g]
    simp only [Bool.and_eq_true, Bool.not_eq_true', decide_eq_false_iff_not, same_tab]
    by_cases h1 : a = n <;> by_cases h2 : b = n <;> simp [h1, h2]
theorem good_join {n o : Str} {i : Nat} (ho : okN o) (ei : aget s.ow n = some i) : (Held.mk (aput s.ow o i) s.cs).good := by
  refine ⟨aput_nd g.nd, fun m hm => ?_, fun m j e => ?_⟩
  · have hm : m ∈ (aput s.ow o i).map (·.1) := hm
    rw [aput_keys] at hm
    split at hm
    · exact g.nm m hm
    · rcases List.mem_append.mp hm with hm | hm
      · exact g.nm m hm
      · have : m = o := by simpa using hm
        rw [this]
        exact ho
  · have e : aget (aput s.ow o i) m = some j := e
    rw [aget_put] at e
    split at e
    · cases e
      exact g.ok n i ei
    · exact g.ok m j e
theorem name_in {n : Str} {i : Nat} (ei : aget s.ow n = some i) : n ∈ namesD s.shown := by
  have := shown_tab g n
  rw [ei] at this
  obtain ⟨f, hf, q, _⟩ := (shown_iff g.valid.nd).mp this
  exact mem_names.mpr ⟨f, hf, q⟩
theorem join_shown {n o : Str} {i : Nat} (ho : okN o) (ei : aget s.ow n = some i) (ne : n ≠ o) : (Held.mk (aput s.ow o i) s.cs).shown = joined s.shown n o := by
  have g' := good_join g ho ei
  have hm := name_in g ei
  refine g'.valid.ext (Valid.joined g.valid ho hm ne) (fun k => ?_) fun a b => ?_
  · rw [shown_tab g', shown_joined g.valid ho hm ne, shown_tab g, shown_tab g]
    show (aget (aput s.ow o i) k).map _ = _
    rw [aget_put]
    by_cases e : k = o
    · simp [e, ei]
    · simp [e]
  · rw [same_joined g.valid ho hm ne, Bool.eq_iff_iff, same_tab, same_tab]
    show (∃ j, aget (aput s.ow o i) a = some j ∧ aget (aput s.ow o i) b = some j) ↔ _
    rw [aget_put, aget_put]
    by_cases h1 : a = o <;> by_cases h2 : b = o <;> simp [h1, h2, ei]
end
end Z

set_option Elab.async false
set_option linter.all false
set_option maxRecDepth 100000
/-! MC: _law_after is after -/
namespace Z
open PySem PySem.Spec PyProof.Rows L2

theorem act_done {s : Held} (g : s.good) {w : Dd} (hw : w.ok) : (s.act w).good ∧ (s.act w).shown = done s.shown w := by
  have st : ∀ n, shown s.shown n = (aget s.ow n).map fun i => s.cs.getD i 0 := shown_tab g
  cases w with
  | sv n c =>
    have hn := hw n (by simp [Dd.names])
    exact ⟨good_fresh g hn c, fresh_shown g hn c⟩
  | wr n c =>
    have hn := hw n (by simp [Dd.names])
    simp only [Held.act, done]
    cases e : aget s.ow n with
    | none =>
      refine ⟨good_fresh g hn c, ?_⟩
      have := st n
      rw [e] at this
      have h1 : written s.shown n c = withFile s.shown n c := by simp only [written, this, Option.map_none]
      rw [h1]
      exact fresh_shown g hn c
    | some i => exact ⟨good_set g c, set_shown g hn e c⟩
  | rm n =>
    simp only [Held.act, done]
    rw [st n]
    cases e : aget s.ow n with
    | none => exact ⟨g, rfl⟩
    | some i => exact ⟨good_drop g n, drop_shown g n⟩
  | rn n o =>
    have ho := hw o (by simp [Dd.names])
    simp only [Held.act, done, two]
    rw [st n]
    cases e : aget s.ow n with
    | none => exact ⟨g, rfl⟩
    | some i =>
      refine ⟨good_fresh g ho _, ?_⟩
      simp only [Option.map_some, pairDone]
      simp
      rw [srt_of_pw (Valid.withFile g.valid ho _).srt]
      exact fresh_shown g ho _
  | cp n o =>
    have ho := hw o (by simp [Dd.names])
    simp only [Held.act, done, two]
    rw [st n]
    cases e : aget s.ow n with
    | none => exact ⟨g, rfl⟩
    | some i =>
      simp only [Option.map_some, pairDone]
      simp
      rw [srt_of_pw (valid_written g.valid ho _).srt]
      cases e2 : aget s.ow o with
      | none =>
        refine ⟨good_fresh g ho _, ?_⟩
        have := st o
        rw [e2] at this
        have h1 : ∀ c, written s.shown o c = withFile s.shown o c := fun c => by simp only [written, this, Option.map_none]
        rw [h1]
        exact fresh_shown g ho _
      | some j => exact ⟨good_set g _, set_shown g ho e2 _⟩
  | lk n o =>
    have ho := hw o (by simp [Dd.names])
    simp only [Held.act, done, two]
    rw [st n]
    cases e : aget s.ow n with
    | none => exact ⟨g, rfl⟩
    | some i =>
      simp only [Option.map_some, pairDone]
      simp
      by_cases h : aget s.ow o = some i
      · have hs : areSame s.shown n o = true := (same_tab n o).mpr ⟨i, e, h⟩
        rw [if_pos h, if_pos hs]
        exact ⟨g, (srt_of_pw g.valid.srt).symm⟩
      · have hs : ¬ areSame s.shown n o = true := fun q => by
          obtain ⟨j, e1, e2⟩ := (same_tab n o).mp q
          rw [e] at e1
          cases e1
          exact h e2
        have ne : n ≠ o := fun q => h (by rw [← q]; exact e)
        rw [if_neg h, if_neg hs, srt_of_pw (Valid.joined g.valid ho (name_in g e) ne).srt]
        exact ⟨good_join g ho e, join_shown g ho e ne⟩
  | mv n o =>
    have ho := hw o (by simp [Dd.names])
    simp only [Held.act, done, two]
    rw [st n]
    cases e : aget s.ow n with
    | none => exact ⟨g, rfl⟩
    | some i =>
      simp only [Option.map_some, pairDone]
      simp
      by_cases h : aget s.ow o = some i
      · have hs : areSame s.shown n o = true := (same_tab n o).mpr ⟨i, e, h⟩
        rw [if_pos h, if_pos hs]
        exact ⟨g, (srt_of_pw g.valid.srt).symm⟩
      · have hs : ¬ areSame s.shown n o = true := fun q => by
          obtain ⟨j, e1, e2⟩ := (same_tab n o).mp q
          rw [e] at e1
          cases e1
          exact h e2
        have ne : n ≠ o := fun q => h (by rw [← q]; exact e)
        rw [if_neg h, if_neg hs]
        have g2 := good_join g ho e
        have e3 := join_shown g ho e ne
        refine ⟨good_drop g2 n, ?_⟩
        have := drop_shown g2 n
        rw [e3] at this
        exact this
theorem run_after {p : List Dd} : ∀ {s : Held}, s.good → (∀ a ∈ p, a.ok) → (s.run p).good ∧ (s.run p).shown = after s.shown p := by
  induction p with
  | nil => exact fun g _ => ⟨g, rfl⟩
  | cons a p ih =>
    intro s g h
    obtain ⟨g1, e1⟩ := act_done g (h a (List.mem_cons_self ..))
    have := ih g1 fun b hb => h b (List.mem_cons_of_mem _ hb)
    rw [e1] at this
    exact this
/-! the tables of a disk -/
theorem aget_heldF {n : Str} {i : Nat} : ∀ (g : List Str) (ow : Ow), aget (g.foldl (fun ow n => aput ow n i) ow) n = if n ∈ g then some i else aget ow n
  | [], ow => by simp
  | m :: g, ow => by
    rw [List.foldl_cons, aget_heldF g, aget_put]
    by_cases h1 : n ∈ g
    · simp [h1]
    · by_cases h2 : n = m <;> simp [h1, h2]
abbrev hf (ow : Ow) (p : Nat × Fl) : Ow := heldF ow p.2 p.1
theorem held_no {n : Str} : ∀ (L : List (Nat × Fl)) (ow : Ow), (∀ p ∈ L, n ∉ p.2.1) → aget (L.foldl hf ow) n = aget ow n
  | [], ow, _ => rfl
  | p :: L, ow, h => by
    rw [List.foldl_cons, held_no L _ fun q hq => h q (List.mem_cons_of_mem _ hq)]
    show aget (p.2.1.foldl _ ow) n = _
    rw [aget_heldF, if_neg (h p (List.mem_cons_self ..))]
theorem held_yes {n : Str} {j : Nat} : ∀ (L : List (Nat × Fl)) (ow : Ow), (aget ow n = some j ∨ ∃ p ∈ L, n ∈ p.2.1) → (∀ p ∈ L, n ∈ p.2.1 → p.1 = j) → aget (L.foldl hf ow) n = some j
  | [], ow, h, _ => by
    rcases h with h | ⟨p, hp, _⟩
    · exact h
    · cases hp
  | p :: L, ow, h, hj => by
    rw [List.foldl_cons]
    refine held_yes L _ ?_ fun q hq => hj q (List.mem_cons_of_mem _ hq)
    show aget (p.2.1.foldl _ ow) n = _ ∨ _
    rw [aget_heldF]
    by_cases hn : n ∈ p.2.1
    · rw [if_pos hn, hj p (List.mem_cons_self ..) hn]
      exact .inl rfl
    · rw [if_neg hn]
      rcases h with h | ⟨q, hq, hm⟩
      · exact .inl h
      · rcases List.mem_cons.mp hq with rfl | hq
        · exact (hn hm).elim
        · exact .inr ⟨q, hq, hm⟩
theorem mem_numd {d : Dk} {p : Nat × Fl} : p ∈ (List.range d.length).zip d ↔ d[p.1]? = some p.2 := by
  rw [List.mem_iff_getElem?]
  constructor
  · rintro ⟨k, e⟩
    obtain ⟨h1, h2⟩ := List.getElem?_zip_eq_some.mp e
    obtain ⟨h3, h4⟩ := List.getElem?_eq_some_iff.mp h1
    rw [List.getElem_range] at h4
    rw [← h4]
    exact h2
  · intro e
    refine ⟨p.1, List.getElem?_zip_eq_some.mpr ⟨?_, e⟩⟩
    have := (List.getElem?_eq_some_iff.mp e).1
    rw [List.getElem?_range this]
theorem aget_held {d : Dk} (v : Fair d) {n : Str} {i : Nat} : aget (heldO d) n = some i ↔ ∃ f, d[i]? = some f ∧ n ∈ f.1 := by
  have yes : ∀ {i f}, d[i]? = some f → n ∈ f.1 → aget (heldO d) n = some i := by
    intro i f e hn
    refine held_yes _ [] (.inr ⟨(i, f), mem_numd.mpr e, hn⟩) fun p hp hm => ?_
    have e2 := mem_numd.mp hp
    have ef := nd_one v.nd (List.mem_of_getElem? e) (List.mem_of_getElem? e2) hn hm
    have := nd_of_names v
    obtain ⟨l1, e1'⟩ := List.getElem?_eq_some_iff.mp e
    obtain ⟨l2, e2'⟩ := List.getElem?_eq_some_iff.mp e2
    exact ((List.getElem_inj this).mp (e2'.trans (ef.symm.trans e1'.symm)))
  constructor
  · intro e
    by_cases h : ∃ p ∈ (List.range d.length).zip d, n ∈ p.2.1
    · obtain ⟨p, hp, hn⟩ := h
      have := yes (mem_numd.mp hp) hn
      rw [e] at this
      cases this
      exact ⟨p.2, mem_numd.mp hp, hn⟩
    · have := held_no (n := n) ((List.range d.length).zip d) [] fun p hp hn => h ⟨p, hp, hn⟩
      have : aget (heldO d) n = none := this
      rw [e] at this
      cases this
  · rintro ⟨f, e, hn⟩
    exact yes e hn
theorem heldF_nd {i : Nat} : ∀ (g : List Str) (ow : Ow), (ow.map (·.1)).Nodup → ((g.foldl (fun ow n => aput ow n i) ow).map (·.1)).Nodup
  | [], _, h => h
  | n :: g, ow, h => heldF_nd g _ (aput_nd h)
theorem heldL_nd : ∀ (L : List (Nat × Fl)) (ow : Ow), (ow.map (·.1)).Nodup → ((L.foldl hf ow).map (·.1)).Nodup
  | [], _, h => h
  | p :: L, ow, h => heldL_nd L _ (heldF_nd p.2.1 ow h)
theorem heldOf_good {d : Dk} (v : Fair d) : (heldOf d).good := by
  refine ⟨heldL_nd _ [] (by simp), fun n hn => ?_, fun n i e => ?_⟩
  · obtain ⟨i, e⟩ := aget_some (l := heldO d) hn
    obtain ⟨f, hf, hm⟩ := (aget_held v).mp e
    exact v.ok n (mem_names.mpr ⟨f, List.mem_of_getElem? hf, hm⟩)
  · obtain ⟨f, hf, hm⟩ := (aget_held v).mp e
    show i < (d.map (·.2)).length
    rw [List.length_map]
    exact (List.getElem?_eq_some_iff.mp hf).1
theorem heldOf_shown {d : Dk} (v : Valid d) : (heldOf d).shown = d := by
  have g := heldOf_good v.toFair
  refine g.valid.ext v (fun n => ?_) fun a b => ?_
  · rw [shown_tab g]
    show (aget (heldO d) n).map (fun i => (d.map (·.2)).getD i 0) = _
    cases e : aget (heldO d) n with
    | some i =>
      obtain ⟨f, hf, hm⟩ := (aget_held v.toFair).mp e
      have : shown d n = some f.2 := (shown_iff v.nd).mpr ⟨f, List.mem_of_getElem? hf, hm, rfl⟩
      rw [this]
      simp [List.getD, hf]
    | none =>
      symm
      show shown d n = none
      rw [shown_none]
      intro q
      obtain ⟨f, hf, hm⟩ := mem_names.mp q
      obtain ⟨i, hi⟩ := List.mem_iff_getElem?.mp hf
      rw [(aget_held v.toFair).mpr ⟨f, hi, hm⟩] at e
      cases e
  · rw [Bool.eq_iff_iff, same_tab, same_iff]
    constructor
    · rintro ⟨i, ha, hb⟩
      obtain ⟨f, hf, hm⟩ := (aget_held v.toFair).mp ha
      obtain ⟨f', hf', hm'⟩ := (aget_held v.toFair).mp hb
      rw [hf] at hf'
      cases hf'
      exact ⟨f, List.mem_of_getElem? hf, hm, hm'⟩
    · rintro ⟨f, hf, ha, hb⟩
      obtain ⟨i, hi⟩ := List.mem_iff_getElem?.mp hf
      exact ⟨i, (aget_held v.toFair).mpr ⟨f, hi, ha⟩, (aget_held v.toFair).mpr ⟨f, hi, hb⟩⟩
/-- T1 -/
theorem lawAfter_eq {d : Dk} (v : Valid d) {p : List Dd} (h : ∀ a ∈ p, a.ok) : lawAfter d p = after d p := by
  have := (run_after (heldOf_good v.toFair) h).2
  rw [heldOf_shown v] at this
  exact this
theorem valid_done {d : Dk} (v : Valid d) {w : Dd} (h : w.ok) : Valid (done d w) := by
  obtain ⟨g, e⟩ := act_done (heldOf_good v.toFair) h
  rw [heldOf_shown v] at e
  rw [← e]
  exact g.valid
theorem valid_after {d : Dk} (v : Valid d) {p : List Dd} (h : ∀ a ∈ p, a.ok) : Valid (after d p) := by
  have := run_after (heldOf_good v.toFair) h
  rw [heldOf_shown v] at this
  rw [← this.2]
  exact this.1.valid
/-! bounds -/
theorem act_len (s : Held) (w : Dd) : (s.act w).ow.length ≤ s.ow.length + 1 ∧ (s.act w).cs.length ≤ s.cs.length + 1 := by
  have fr : ∀ n c, (s.fresh n c).ow.length ≤ s.ow.length + 1 ∧ (s.fresh n c).cs.length ≤ s.cs.length + 1 := fun n c => ⟨aput_len _ _ _, by simp [Held.fresh]⟩
  have dr : ∀ (l : Ow) n, (adrop l n).length ≤ l.length := fun l n => List.length_filter_le _ _
  have ss : s.ow.length ≤ s.ow.length + 1 ∧ s.cs.length ≤ s.cs.length + 1 := ⟨by omega, by omega⟩
  cases w with
  | sv n c => exact fr n c
  | wr n c =>
    simp only [Held.act]
    split
    · exact fr n c
    · exact ⟨by simp, by simp⟩
  | rm n =>
    simp only [Held.act]
    split
    · exact ss
    · exact ⟨Nat.le_succ_of_le (dr _ _), by simp⟩
  | rn n o =>
    simp only [Held.act]
    split
    · exact ss
    · exact fr _ _
  | cp n o =>
    simp only [Held.act]
    split
    · exact ss
    · exact fr _ _
    · exact ⟨by simp, by simp⟩
  | lk n o =>
    simp only [Held.act]
    split
    · exact ss
    · split
      · exact ss
      · exact ⟨aput_len _ _ _, by simp⟩
  | mv n o =>
    simp only [Held.act]
    split
    · exact ss
    · split
      · exact ss
      · exact ⟨Nat.le_trans (dr _ _) (aput_len _ _ _), by simp⟩
theorem run_len : ∀ (p : List Dd) (s : Held), (s.run p).ow.length ≤ s.ow.length + p.length ∧ (s.run p).cs.length ≤ s.cs.length + p.length
  | [], s => by simp [Held.run]
  | a :: p, s => by
    have h1 := run_len p (s.act a)
    have h2 := act_len s a
    show ((s.act a).run p).ow.length ≤ _ ∧ ((s.act a).run p).cs.length ≤ _
    simp only [List.length_cons]
    omega
theorem heldL_len : ∀ (L : List (Nat × Fl)) (ow : Ow), (L.foldl hf ow).length ≤ ow.length + (L.flatMap (·.2.1)).length
  | [], ow => by simp
  | p :: L, ow => by
    have h1 := heldL_len L (hf ow p)
    have h2 := foldl_put_len (i := p.1) p.2.1 ow
    rw [List.foldl_cons, List.flatMap_cons, List.length_append]
    have h2 : (hf ow p).length ≤ ow.length + p.2.1.length := h2
    omega
theorem heldO_len (d : Dk) : (heldO d).length ≤ tot d := by
  have := heldL_len ((List.range d.length).zip d) []
  have e : ((List.range d.length).zip d).flatMap (·.2.1) = d.flatMap (·.1) := by
    have : ((List.range d.length).zip d).map (·.2) = d := List.map_snd_zip (by simp)
    conv => rhs; rw [← this, List.flatMap_map]
  rw [e, List.length_nil, Nat.zero_add] at this
  exact this
theorem okTab_of {d : Dk} (v : Valid d) {p : List Dd} (h : ∀ a ∈ p, a.ok) (hb : tot d + p.length < 64) (hd : d.length + p.length < 1000) : okTab d p := by
  have g := heldOf_good v.toFair
  have hl := heldO_len d
  refine ⟨fun q r e => ?_, ?_, (run_after g h).1.nm⟩
  · have hq : ∀ a ∈ q, a.ok := fun a ha => h a (by rw [e]; exact List.mem_append_left _ ha)
    have h1 := run_len q (heldOf d)
    have h2 : q.length ≤ p.length := by rw [e]; simp
    have h3 : 1002 < sizeLine := by decide
    have h4 : (heldOf d).ow.length ≤ tot d := hl
    have h5 : (heldOf d).cs.length = d.length := by simp [heldOf]
    exact ⟨⟨by omega, by omega⟩, (run_after g hq).1.ok⟩
  · have h1 := run_len p (heldOf d)
    have h4 : (heldOf d).ow.length ≤ tot d := hl
    omega
end Z

set_option Elab.async false
set_option linter.all false
set_option maxRecDepth 100000
/-! MD: drawn names and disks -/
namespace Z
open PySem PySem.Spec PyProof.Rows L2

theorem nd_len {α : Type} [DecidableEq α] : ∀ {l m : List α}, l.Nodup → (∀ a ∈ l, a ∈ m) → l.length ≤ m.length
  | [], m, _, _ => Nat.zero_le _
  | a :: l, m, h, s => by
    rw [List.nodup_cons] at h
    have ha := s a (List.mem_cons_self ..)
    have := nd_len (l := l) (m := m.erase a) h.2 fun b hb => by
      rw [List.mem_erase_of_ne (fun q => h.1 (by rw [← q]; exact hb))]
      exact s b (List.mem_cons_of_mem _ hb)
    rw [List.length_erase_of_mem ha] at this
    have hm : 0 < m.length := List.length_pos_of_mem ha
    simp only [List.length_cons]
    omega
instance (n : Str) : Decidable (okN n) := inferInstanceAs (Decidable (PyData.strOk n = true))
instance (g : List Str) : Decidable (okNs g) := inferInstanceAs (Decidable (∀ n ∈ g, okN n))
theorem isDisk.facts {ns : List Str} {d : Dk} (ho : okNs ns) (h : isDisk ns d) : Valid d ∧ tot d ≤ ns.length ∧ d.length ≤ ns.length ∧ (∀ n ∈ namesD d, n ∈ ns) ∧ ∀ f ∈ d, f.2 ∈ CONT := by
  obtain ⟨F, rfl, nd, ne, sub⟩ := h
  have pm : (namesD (F.map fun x => (srt eS x.1, x.2))).Perm (F.flatMap (·.1)) := by
    clear nd ne sub
    induction F with
    | nil => exact .refl _
    | cons x F ih => exact (srt_perm eS x.1).append ih
  have fr : Fair (F.map fun x => (srt eS x.1, x.2)) := by
    refine ⟨fun f hf q => ?_, pm.nodup_iff.mpr nd, fun n hn => ho n (sub n (pm.mem_iff.mp hn))⟩
    obtain ⟨x, hx, rfl⟩ := List.mem_map.mp hf
    have q : srt eS x.1 = [] := q
    have h1 : (srt eS x.1).length = 0 := by rw [q]; rfl
    rw [srt_len] at h1
    exact (ne x hx).1 (List.eq_nil_of_length_eq_zero h1)
  have v : Valid (srt eFl (F.map fun x => (srt eS x.1, x.2))) := fr.valid fun f hf => by
    obtain ⟨x, hx, rfl⟩ := List.mem_map.mp hf
    exact srt_pw eS x.1
  have sub' : ∀ n ∈ namesD (srt eFl (F.map fun x => (srt eS x.1, x.2))), n ∈ ns := fun n hn => by
    obtain ⟨f, hf, hm⟩ := mem_names.mp hn
    exact sub n (pm.mem_iff.mp (mem_names.mpr ⟨f, mem_srt.mp hf, hm⟩))
  have t1 : tot (srt eFl (F.map fun x => (srt eS x.1, x.2))) ≤ ns.length := nd_len v.nd sub'
  refine ⟨v, t1, ?_, sub', fun f hf => ?_⟩
  · refine Nat.le_trans ?_ t1
    have : ∀ d : Dk, (∀ f ∈ d, f.1 ≠ []) → d.length ≤ tot d := by
      intro d
      induction d with
      | nil => intro _; simp
      | cons f d ih =>
        intro h
        have h1 := ih fun g hg => h g (List.mem_cons_of_mem _ hg)
        have h2 : 0 < f.1.length := List.length_pos_iff.mpr (h f (List.mem_cons_self ..))
        unfold tot at h1 ⊢
        rw [List.flatMap_cons, List.length_append, List.length_cons]
        omega
    exact this _ v.ne
  · obtain ⟨x, hx, rfl⟩ := List.mem_map.mp (mem_srt.mp hf)
    exact (ne x hx).2
def allWs : List (List Str) := [1, 2, 3, 4, 5].flatMap fun k => [WORDS.take k, (WORDS.take k).reverse]
theorem isWs.mem {ws : List Str} {m : Nat} (h : isWs ws m) (hm : m ≤ 5) : ws ∈ allWs := by
  obtain ⟨k, k0, k1, h⟩ := h
  have hk : k = 1 ∨ k = 2 ∨ k = 3 ∨ k = 4 ∨ k = 5 := by omega
  rcases hk with rfl | rfl | rfl | rfl | rfl <;> rcases h with rfl | rfl <;> simp [allWs]
def goodWs (ws : List Str) : Bool := decide ws.Nodup && decide (okNs ws) && decide (ws.length ≤ 5) && decide (0 < ws.length) && ws.all fun w => WORDS.contains w
theorem allWs_good : (allWs.all goodWs) = true := by decide +kernel
structure OkWs (ws : List Str) : Prop where
  nd : ws.Nodup
  ok : okNs ws
  le : ws.length ≤ 5
  pos : 0 < ws.length
  sub : ∀ w ∈ ws, w ∈ WORDS
theorem isWs.ok {ws : List Str} {m : Nat} (h : isWs ws m) (hm : m ≤ 5) : OkWs ws := by
  have := List.all_eq_true.mp allWs_good ws (h.mem hm)
  simp only [goodWs, Bool.and_eq_true, decide_eq_true_eq, List.all_eq_true] at this
  obtain ⟨⟨⟨⟨a, b⟩, c⟩, d⟩, e⟩ := this
  exact ⟨a, b, c, d, fun w hw => by simpa using e w hw⟩
theorem cutL_last {α : Type} (xs : List α) (h : 0 < xs.length) : cutL xs none (some (-1)) = xs.dropLast := by
  unfold cutL
  have : HT.sIx xs.length xs.length (some (-1)) = xs.length - 1 := by
    unfold HT.sIx
    simp
    omega
  rw [this, HT.sIx_none]
  simp [List.dropLast_eq_take]
/-- all disks of the run stay in bounds -/
theorem okRun_valid {d : Dk} (v : Valid d) {p : List Dd} (h : ∀ a ∈ p, a.ok) (hb : d.length + tot d + p.length < 900) : okRun d p := by
  refine okRun_small (n := d.length + tot d) ⟨by omega, fun f hf => ⟨?_, fun n hn => v.ok n (mem_names.mpr ⟨f, hf, hn⟩)⟩⟩ (by omega) h
  have := len_flat hf
  unfold tot
  omega
theorem eDk_ok {d : Dk} (v : Valid d) : (eDk d).ok 4 = true := ok_Dk fun f hf n hn => v.ok n (mem_names.mpr ⟨f, hf, hn⟩)
end Z

set_option Elab.async false
set_option linter.all false
set_option maxRecDepth 100000
/-! ME: a drawn deed, a drawn program -/
namespace Z
open PySem PySem.Spec PyProof.Rows L2
def DW : List Str := ["write", "save", "link", "link", "move", "move", "copy", "renew", "remove", "write"]
def Dd.vals : Dd → List Int
  | .wr _ c => [c]
  | .sv _ c => [c]
  | _ => []
def isDd (ns : List Str) (w : Dd) : Prop := (∀ n ∈ w.names, n ∈ ns) ∧ ∀ c ∈ w.vals, c ∈ CONT
def G_L_deed : Gs := fun ds h K => ∃ (t b : Nat) (ns : List Str), ds = [.ref t, .lst (ns.map eS)] ∧ 0 < ns.length ∧ ns.length ≤ 1000 ∧ Tp h t (b + 4) ∧ ∀ (w : Dd) (o : O), isDd ns w → Tp (h.set t o) t b → K (eDd w) (h.set t o)
theorem inW {v : Str} {h1 : MH} {Q : D → MH → Prop} (hv : okN v) (k : Q (.bl (decide (v ∈ (["write", "save"] : List Str)))) h1) : wIn false h1 (.str v) (.tup [.str "write", .str "save"]) Q :=
  w_inE (enc := eS) eS_inj smp_S (a := v) (l := ["write", "save"]) (fun z e => by cases e) rfl (ok_S hv) (by decide +kernel) (by simpa using k)
theorem p_deed {ds : List D} {h : MH} {K : D → MH → Prop} (g : G_L_deed ds h K) : bodyG 5 2 (s_L_deed G_L_content G_L_draw) ds h K := by
  obtain ⟨t, b, ns, rfl, n0, n1, x, k⟩ := g
  refine ⟨rfl, ?_⟩
  simp [s_L_deed, List.replicate]
  refine draw_call (b := b + 3) (by decide) (by decide) x fun r o r0 r1 x1 => ?_
  have hr : r.toNat < 10 := by omega
  obtain ⟨n, rfl⟩ : ∃ n : Nat, r = n := ⟨r.toNat, by omega⟩
  simp
  obtain ⟨v, hv, hw⟩ : ∃ v : Str, DW[n]? = some v ∧ (v ∈ DW) := ⟨DW[n]'(by simpa [DW] using hr), List.getElem?_eq_getElem _, List.getElem_mem _⟩
  refine ⟨.str v, ?_, fun hs => ?_⟩
  · rw [show ([D.str (Str.ofString "write"), D.str (Str.ofString "save"), D.str (Str.ofString "link"), D.str (Str.ofString "link"), D.str (Str.ofString "move"), D.str (Str.ofString "move"), D.str (Str.ofString "copy"), D.str (Str.ofString "renew"), D.str (Str.ofString "remove"), D.str (Str.ofString "write")] : List D) = DW.map D.str from rfl, atI_of, List.getElem?_map, hv]
    rfl
  have pick : ∀ (i : Int), 0 ≤ i → i < (ns.length : Int) → ∃ a, a ∈ ns ∧ ∀ (h1 : MH) (K' : D → MH → Prop), K' (.str a) h1 → wIx h1 (D.lst (ns.map eS)) (.int i) K' := fun i i0 i1 => by
    obtain ⟨j, rfl⟩ : ∃ j : Nat, i = j := ⟨i.toNat, by omega⟩
    have hj : j < ns.length := by omega
    refine ⟨ns[j], List.getElem_mem hj, fun h1 K' z => ?_⟩
    simp
    refine ⟨.str ns[j], ?_, z⟩
    rw [atI_of, List.getElem?_map, List.getElem?_eq_getElem hj]
    rfl
  refine draw_call (b := b + 2) (by omega) (by omega) x1 fun i o2 i0 i1 x2 => ?_
  obtain ⟨a, ha, pa⟩ := pick i i0 i1
  refine pa _ _ fun _ => ?_
  rw [List.set_set] at x2 ⊢
  refine draw_call (b := b + 1) (by omega) (by omega) x2 fun j o3 j0 j1 x3 => ?_
  obtain ⟨c, hc, pc⟩ := pick j j0 j1
  refine pc _ _ ?_
  rw [List.set_set] at x3 ⊢
  have two : ∀ w : Dd, w.names = [a, c] → w.vals = [] → isDd ns w := fun w e e2 => ⟨fun n hn => by
    rw [e] at hn
    rcases List.mem_cons.mp hn with rfl | hn
    · exact ha
    · have : n = c := by simpa using hn
      rw [this]
      exact hc, fun z hz => by rw [e2] at hz; cases hz⟩
  have one : ∀ w : Dd, w.names = [a] → (∀ z ∈ w.vals, z ∈ CONT) → isDd ns w := fun w e e2 => ⟨fun n hn => by
    rw [e] at hn
    have : n = a := by simpa using hn
    rw [this]
    exact ha, e2⟩
  have x3' := x3.mono (b' := b) (by omega)
  have cont : ∀ (v : Str) (f : Int → Dd), (∀ z, (f z).names = [a] ∧ (f z).vals = [z]) → (∀ z, eDd (f z) = .tup [.str v, .str a, .int z]) → G_L_content [.ref t] (h.set t o3) fun d h1 => gcK h K (D.tup [.str v, .str a, d]) h1 := fun v f f1 f2 => by
    refine ⟨t, b, rfl, x3, fun z o4 hz x4 => ?_⟩
    rw [List.set_set] at x4 ⊢
    have := k (f z) o4 (one _ (f1 z).1 fun y hy => by rw [(f1 z).2, List.mem_singleton] at hy; rw [hy]; exact hz) x4
    rw [f2 z] at this
    exact gc_same this
  simp [DW] at hw
  rcases hw with rfl | rfl | rfl | rfl | rfl | rfl | rfl | rfl
  · simp
    refine inW (by decide +kernel) ?_
    simpa using cont "write" (fun z => .wr a z) (fun _ => ⟨rfl, rfl⟩) fun _ => rfl
  · simp
    refine inW (by decide +kernel) ?_
    simpa using cont "save" (fun z => .sv a z) (fun _ => ⟨rfl, rfl⟩) fun _ => rfl
  · simp
    refine inW (by decide +kernel) ?_
    simpa [eDd] using gc_same (k (.lk a c) o3 (two _ rfl rfl) x3')
  · simp
    refine inW (by decide +kernel) ?_
    simpa [eDd] using gc_same (k (.mv a c) o3 (two _ rfl rfl) x3')
  · simp
    refine inW (by decide +kernel) ?_
    simpa [eDd] using gc_same (k (.cp a c) o3 (two _ rfl rfl) x3')
  · simp
    refine inW (by decide +kernel) ?_
    simpa [eDd] using gc_same (k (.rn a c) o3 (two _ rfl rfl) x3')
  · simp
    exact gc_same (k (.rm a) o3 (one _ rfl fun _ h => by cases h) x3')
  · simp
    refine inW (by decide +kernel) ?_
    simpa using cont "write" (fun z => .wr a z) (fun _ => ⟨rfl, rfl⟩) fun _ => rfl
/-- a program with some names -/
def isPr (ns : List Str) (p : List Dd) : Prop := ∀ w ∈ p, isDd ns w
def G_L_program : Gs := fun ds h K => ∃ (t b m : Nat) (ns : List Str), ds = [.ref t, .lst (ns.map eS), .int m] ∧ 0 < ns.length ∧ ns.length ≤ 1000 ∧ m ≤ 100 ∧ Tp h t (b + 1 + 4 * m) ∧
  ∀ (p : List Dd) (o : O), p.length ≤ m → isPr ns p → Tp (h.set t o) t b → K (eP p) (h.set t o)
theorem p_program {ds : List D} {h : MH} {K : D → MH → Prop} (g : G_L_program ds h K) : bodyG 5 3 (s_L_program G_L_draw G_L_deed) ds h K := by
  obtain ⟨t, b, m, ns, rfl, n0, n1, m1, x, k⟩ := g
  refine ⟨rfl, ?_⟩
  simp [s_L_program, List.replicate]
  refine draw_call (b := b + 4 * m) (by omega) (by omega) (x.mono (by omega)) fun r o r0 r1 x1 => ?_
  obtain ⟨n, rfl⟩ : ∃ n : Nat, r = n := ⟨r.toNat, by omega⟩
  simp
  refine ⟨by omega, ?_⟩
  refine forL_pre (enc := fun i : Nat => D.int i) (fun q ρ h' => (∃ (p : List Dd) (z : Option D), ρ = [some (.ref t), some (.lst (ns.map eS)), some (.int m), some (eP p), z] ∧ p.length = q.length ∧ isPr ns p) ∧ ∃ o, h' = h.set t o ∧ Tp (h.set t o) t (b + 4 * (n - q.length)))
    (List.range n) _ _ ⟨⟨[], _, rfl, rfl, fun w hw => by cases hw⟩, o, rfl, x1.mono (by simp; omega)⟩ (fun _ _ _ _ => trivial) (fun q a r e ρ' h' K' hP k' => ?_) fun ρ' h' hP => ?_
  · obtain ⟨⟨p, z, rfl, hl, hp⟩, o', rfl, tp⟩ := hP
    have hq : q.length < n := by
      have := congrArg List.length e
      simp at this
      omega
    simp
    refine ⟨t, b + 4 * (n - (q ++ [a]).length), ns, rfl, n0, n1, tp.mono (by simp; omega), fun w o2 hw x2 => ?_⟩
    rw [List.set_set] at x2 ⊢
    have ea : ∀ K2 : D → MH → Prop, K2 (eP (p ++ [w])) (h.set t o2) → wAdd false (h.set t o2) (eP p) (.tup [eDd w]) K2 := fun K2 z => by
      simp [eP, wAdd] at z ⊢
      have big : (200 : Nat) ≤ sizeLine := by decide +kernel
      exact ⟨by omega, z⟩
    refine ea _ (k' _ _ ⟨⟨p ++ [w], _, rfl, by simp [hl], fun v hv => ?_⟩, o2, rfl, x2⟩)
    rcases List.mem_append.mp hv with hv | hv
    · exact hp v hv
    · have : v = w := by simpa using hv
      rw [this]
      exact hw
  · obtain ⟨⟨p, z, rfl, hl, hp⟩, o', rfl, tp⟩ := hP
    simp
    exact gc_same (k p o' (by simp at hl; omega) hp (tp.mono (by omega)))
end Z

set_option Elab.async false
set_option linter.all false
set_option maxRecDepth 100000
/-! MF: form_of, names_of -/
namespace Z
open PySem PySem.Spec PyProof.Rows L2
/-- a clause that appends some for each -/
theorem turns_flat {α : Type} {enc : α → D} {g : Gv} {ts : Tv} {B : List D → Rho → MH → (List D → MH → Prop) → Prop} {chk : MH → Prop} {ρ : Rho} {h : MH} {K : List D → MH → Prop} (f : α → List D) (hc : chk h) : ∀ (l : List α) (acc : List D), acc.length + (l.flatMap f).length ≤ sizeLine →
    (∀ a ∈ l, ∀ (acc : List D) (K' : List D → MH → Prop), acc.length + (f a).length ≤ sizeLine → K' (acc ++ f a) h → g (enc a) ρ h fun ρ1 h1 => ts ρ1 h1 fun b h2 => match b with
      | true => B acc ρ1 h2 K'
      | false => K' acc h2) →
    K (acc ++ l.flatMap f) h → turns g ts B chk (l.map enc) acc ρ h K
  | [], acc, _, _, k => ⟨hc, by simpa using k⟩
  | a :: l, acc, hl, st, k => by
    rw [List.flatMap_cons, List.length_append] at hl
    refine ⟨hc, st a (List.mem_cons_self ..) acc _ (by omega) ?_⟩
    refine turns_flat f hc l _ (by rw [List.length_append]; omega) (fun b hb => st b (List.mem_cons_of_mem _ hb)) ?_
    rw [List.append_assoc, ← List.flatMap_cons]
    exact k
def formD (d : Dk) : List (List Str) := d.map (·.1)
def eFm (f : List (List Str)) : D := .tup (f.map eNs)
def G_form_of : Gs := pureG (fun d : Dk => [eDk d]) (okD BIG) fun d => eFm (formD d)
theorem p_form_of {ds : List D} {h : MH} {K : D → MH → Prop} (g : G_form_of ds h K) : bodyG 3 1 s_form_of ds h K := by
  obtain ⟨d, rfl, hd, k⟩ := g
  dsimp only at *
  refine ⟨rfl, ?_⟩
  simp [s_form_of, List.replicate, wipeR]
  refine turns_all (fun f : Fl => eNs f.1) trivial d [] (by simpa using len_line (Nat.le_trans hd.1 (by decide))) (fun f hf acc K' hl k' => ?_) ?_
  · simp [eFl, hl]
    exact k'
  · simp
    refine gc_same ?_
    simpa [eFm, formD, Function.comp_def] using k
def G_names_of : Gs := pureG (fun d : Dk => [eDk d]) (fun d => okD BIG d ∧ tot d ≤ BIG) fun d => eNs (srt eS (namesD d))
theorem p_names_of {ds : List D} {h : MH} {K : D → MH → Prop} (g : G_names_of ds h K) : bodyG 4 1 s_names_of ds h K := by
  obtain ⟨d, rfl, ⟨hd, ht⟩, k⟩ := g
  dsimp only at *
  refine ⟨rfl, ?_⟩
  have e0 : (d.flatMap fun f : Fl => f.1.map eS) = (namesD d).map eS := by
    rw [namesD, List.map_flatMap]
  have hz : (namesD d).length ≤ sizeLine := len_line (Nat.le_trans ht (by decide))
  simp [s_names_of, List.replicate, wipeR]
  refine turns_flat (fun f : Fl => f.1.map eS) trivial d [] (by rw [e0]; simpa using hz) (fun f hf acc K' hl k' => ?_) ?_
  · simp [eFl]
    refine turns_all (fun n : Str => eS n) trivial f.1 acc (by simpa using hl) (fun n hn acc K2 hl2 k2 => ?_) k'
    simp [hl2]
    exact k2
  · rw [e0]
    simp
    refine w_sorted srtE_S (l := namesD d) (fun n hn => ?_) rfl ?_
    · obtain ⟨f, hf, hm⟩ := mem_names.mp hn
      exact (hd.2 f hf).2 n hm
    · simp
      exact gc_same k
end Z

set_option Elab.async false
set_option linter.all false
set_option maxRecDepth 100000
/-! GF: for in a generator's body -/
namespace L2
open PySem PySem.Spec PyProof.Rows GenW
section
variable {prog : Program} {w : World} {A : Around} {R : GenEnd} {Y : Protocol} {n : Nat} {s₀ : Shared} {c : Code} {fs : List Frame} {s : Shared} {env : Env} {K : Flow → Sem PySem.Fin} {H : Value → Sem PySem.Fin} {gd : Bool → Bool} {lv : List Value → List Value}
theorem seg_For {target iter : Expr} {body orelse : List Stmt} {pos : Pos} {M : Model}
    (h : wpAny M (A.over c fs) (eval iter env) (fun x s1 => wpAny M (A.over c fs) (pyIter x) (fun it s2 => ∀ p, Seg M A R Y n s₀ (.forLoop target it body orelse env) (M.den (.forLoop target it body orelse env))
      (.ret (fun r => ((match r with | .ok f => (.pure f : Sem Flow) | .error e => .raise e).onRaise (cameBack env)).wrap K H gd lv) none (gd false) (lv []) c p [] :: fs) s2) (fun x s' => Seg M A R Y n s₀ c (H x) fs s') s1) (fun x s' => Seg M A R Y n s₀ c (H x) fs s') s)
    (hs : ∀ x, foldedSetIterable iter env x = pure x) : Seg M A R Y n s₀ c ((exec (.For target iter body orelse pos) env).wrap K H gd lv) fs s := by
  rw [exec_For]
  refine seg_bind_wrap (wpAny_standAt ?_)
  refine seg_bind_wrap (wpAny_mono h (fun x s1 h1 => ?_) fun _ _ z => z)
  refine seg_bind_wrap (wpAny_of_eq (hs x) ?_)
  refine seg_bind_wrap (wpAny_standAt ?_)
  refine seg_bind_wrap (wpAny_holding (wpAny_mono h1 (fun it s2 h2 => ?_) fun _ _ z => z))
  exact seg_call h2
theorem seg_forLoop {target : Expr} {it : Value} {body : List Stmt}
    (h : wpAny (model prog w) (A.over (.forLoop target it body [] env) fs) (pyNext it) (fun r s1 => match r with
      | none => Seg (model prog w) A R Y n s₀ (.block [] env) ((model prog w).den (.block [] env)) fs s1
      | some v => wpAny (model prog w) (A.over (.forLoop target it body [] env) fs) (letOwnedTupleGo target it v) (fun _ s1' => wpAny (model prog w) (A.over (.forLoop target it body [] env) fs) (assign target env v) (fun _ s2 =>
          Seg (model prog w) A R Y n s₀ (.forLoop target it body [] env) ((execs body env).wrap (fun f => match f with
            | .next | .cont => .pure (.again (.forLoop target it body [] env))
            | .brk => .pure (.done .next)
            | .ret v => .pure (.done (.ret v))) (fun e => (do noteFrame e env; theTreesLotGoes e : Sem Unit).wrap (fun _ => .raise e) .raise id id) id id) fs s2)
          (fun x s' => Seg (model prog w) A R Y n s₀ (.forLoop target it body [] env) ((do noteFrame x env; theTreesLotGoes x : Sem Unit).wrap (fun _ => .raise x) .raise id id) fs s') s1')
          (fun x s' => Seg (model prog w) A R Y n s₀ (.forLoop target it body [] env) ((do noteFrame x env; theTreesLotGoes x : Sem Unit).wrap (fun _ => .raise x) .raise id id) fs s') s1)
      (fun x s' => Seg (model prog w) A R Y n s₀ (.forLoop target it body [] env) ((do noteFrame x env; theTreesLotGoes x : Sem Unit).wrap (fun _ => .raise x) .raise id id) fs s') s) :
    Seg (model prog w) A R Y n s₀ (.forLoop target it body [] env) ((model prog w).den (.forLoop target it body [] env)) fs s := by
  show Seg _ A R Y n s₀ _ ((forTurn target it body [] env).onRaise (fun x => do noteFrame x env; theTreesLotGoes x)) fs s
  have ex : ∀ (x : Value) (s' : Shared), Seg (model prog w) A R Y n s₀ (.forLoop target it body [] env) ((do noteFrame x env; theTreesLotGoes x : Sem Unit).wrap (fun _ => .raise x) .raise id id) fs s' →
      Seg (model prog w) A R Y n s₀ (.forLoop target it body [] env) ((do noteFrame x env; theTreesLotGoes x : Sem Unit) >>= fun _ => (.raise x : Sem PySem.Fin)) fs s' := fun x s' hx => by
    show Seg _ A R Y n s₀ _ ((do noteFrame x env; theTreesLotGoes x : Sem Unit).bind fun _ => .raise x) fs s'
    rw [Sem.bind_eq_wrap]
    exact hx
  unfold forTurn
  rw [Sem.onRaise_eq_wrap]
  refine seg_bind_wrap (wpAny_standAt ?_)
  refine seg_bind_wrap (wpAny_onRaise (wpAny_mono h (fun r s1 h1 => ?_) fun x s' hx => wpAny_standAt (ex x s' hx)))
  cases r with
  | none => exact seg_again rfl h1
  | some v =>
    refine seg_bind_wrap (wpAny_mono h1 (fun _ s1' h1' => ?_) fun x s' hx => ex x s' hx)
    refine seg_bind_wrap (wpAny_mono h1' (fun _ s2 h2 => ?_) fun x s' hx => ex x s' hx)
    rw [Sem.bind_eq_wrap', Sem.wrap_wrap]
    rw [Sem.wrap_congr (execs body env) _ _ (K' := fun f => match f with
            | .next | .cont => .pure (.again (.forLoop target it body [] env))
            | .brk => .pure (.done .next)
            | .ret v => .pure (.done (.ret v))) (H' := (fun e => (do noteFrame e env; theTreesLotGoes e : Sem Unit).wrap (fun _ => .raise e) .raise id id))
        (fun f => by cases f <;> rfl)
        (fun e => by first | exact Sem.bind_eq_wrap _ _ | (show (do noteFrame e env; theTreesLotGoes e : Sem Unit).bind (fun _ => .raise e) = _; rw [Sem.bind_eq_wrap]))]
    exact h2
end
section
variable {X : Cx} {tg : Expr}
/-- W: the invariant by the turn, a measure and what is out; N: what the body is to reach -/
def tGFor (wi : TI) (g : TG) (tb : TGn) : TGn := fun D ys σ H => wi σ H fun J H1 => ∃ W : Nat → Nat → List V → St → Hp → Prop, (∃ m, W 0 m ys σ H1) ∧ ∀ i m ys σ H, W i m ys σ H →
  (J.stop i H ∧ D.nx ys σ H) ∨ (J.go i H ∧ ∃ N : List V → St → Hp → Prop, (∀ ys' σ' H', N ys' σ' H' → ∃ m', m' < m ∧ W (i + 1) m' ys' σ' H') ∧ ∀ x H', J.yld i H x H' → g x σ H' fun σ2 H2 => tb { D with nx := N, ct := N, bk := D.nx } ys σ2 H2)
theorem gs_for {iter : Expr} {body : List Stmt} {wi : TI} {g : TG} {tb : TGn} {pos : Pos} (hp : PassesOwn (model X.prog X.w) X.A X.env X.xe) (hc : X.calm = true) (hi : PI X tg iter wi) (hg : PG X tg g) (hb : GSs X body tb)
    (hs : ∀ x, foldedSetIterable iter X.env x = pure x) : GS X (.For tg iter body [] pos) (tGFor wi g tb) := by
  refine ⟨fun A S ip R n ys s₀ c fs K J gd lv s σ H D g0 hn k hI ht => ?_⟩
  obtain ⟨acc, cc, r, I⟩ := hI
  refine seg_For ?_ hs
  rw [g0.over]
  refine wpAny_mono (hi.run _ s σ H _ I ht) (fun v s1 h1 => wpAny_mono h1 (fun itv s2 h2 p => ?_) fun x s' hx => k.exc n s₀ x s' hx) fun x s' hx => k.exc n s₀ x s' hx
  obtain ⟨it, fp, tn, Jt, H2, rfl, I2, T, st2, f2, W, ⟨m0, w0⟩, turn⟩ := h2
  have gl := fun (kk : Result → Sem PySem.Fin) => gc_loop (k := kk) (c' := .forLoop tg (.ref it) body [] X.env) (l := lv []) (kp := []) (p := p) g0 rfl rfl
  have stat : ∀ {H' : Hp} {a' : Array Value} {c' : Nat}, (∀ b ∈ fp, H' b = none) → ∀ b ∈ fp, FpOk X ((S, lstObj a' c') :: ip) H' b := fun {H' a' c'} hn b hb => by
    obtain ⟨_, q1, q2, q3, q4, q5⟩ := f2 b hb
    refine ⟨hn b hb, q1, q2, q3, q4, fun p hp => ?_⟩
    rcases List.mem_append.mp hp with z | z
    · exact q5 p (List.mem_append_left _ z)
    · rcases List.mem_cons.mp z with z | z
      · rw [z]
        exact q5 (S, lstObj acc cc) (List.mem_append_right _ List.mem_cons_self)
      · exact q5 p (List.mem_append_right _ (List.mem_cons_of_mem _ z))
  have hSf : ∀ b ∈ fp, b ≠ S := fun b hb z => (f2 b hb).2.2.2.2.2 (S, lstObj acc cc) (List.mem_append_right _ List.mem_cons_self) z.symm
  have ee : ∀ (n : Nat) (s₀ : Shared) (x : Value) (s' : Shared), X.xe x s' → Seg (model X.prog X.w) A R (GY X S) n s₀ (.forLoop tg (.ref it) body [] X.env)
      ((do noteFrame x X.env; theTreesLotGoes x : Sem Unit).wrap (fun _ => .raise x) .raise id id)
      (.ret (fun r => ((match r with | .ok f => (.pure f : Sem Flow) | .error e => .raise e).onRaise (cameBack X.env)).wrap K J gd lv) none (gd false) (lv []) c p [] :: fs) s' := fun n s₀ x s' hx => by
    refine seg_wrap ?_
    rw [(gl _).over]
    refine wpAny_bind (wpAny_mono (hp x s' hx) (fun _ s'' hcb => wpAny_theTreesLotGoes ?_) fun y s'' hcb => ?_)
    · exact seg_leaf (.error x) (seg_cameBack g0 k hcb)
    · exact seg_leaf (.error y) (seg_cameBack g0 k hcb)
  have loop : ∀ (m i n : Nat) (ys : List V) (s₀ s : Shared) (σ : St) (H : Hp), n + ys.length = sizeLine → W i m ys σ H → GI X S ip ys σ H s → tn i s.heap → (∀ b ∈ fp, H b = none) →
      Seg (model X.prog X.w) A R (GY X S) n s₀ (.forLoop tg (.ref it) body [] X.env) ((model X.prog X.w).den (.forLoop tg (.ref it) body [] X.env))
        (.ret (fun r => ((match r with | .ok f => (.pure f : Sem Flow) | .error e => .raise e).onRaise (cameBack X.env)).wrap K J gd lv) none (gd false) (lv []) c p [] :: fs) s := by
    intro m
    induction m using Nat.strongRecOn with
    | ind m ih =>
      intro i n ys s₀ s σ H hn w hI st fr
      obtain ⟨acc, cc, r, I⟩ := hI
      refine seg_forLoop ?_
      rw [(gl _).over]
      rcases turn i m ys σ H w with ⟨stop, qn⟩ | ⟨go, N, hN, step⟩
      · refine wpAny_mono (T.done X rfl rfl rfl hc i _ s σ H X.xe I (stat fr) st stop) (fun r4 s4 h4 => ?_) fun x s' hx => ee n s₀ x s' hx
        obtain ⟨hr, I4⟩ := h4
        subst hr
        exact seg_leaf (.ok .next) (k.ok n ys s₀ s4 .next hn ⟨σ, H, ⟨acc, cc, r, I4⟩, qn⟩)
      · refine wpAny_mono (T.item X rfl rfl rfl hc i _ s σ H X.xe I (stat fr) st go) (fun r4 s4 h4 => ?_) fun x s' hx => ee n s₀ x s' hx
        obtain ⟨u, hr, h4⟩ := h4
        subst hr
        refine wpAny_mono h4 (fun _ s5 h5 => ?_) fun x s' hx => ee n s₀ x s' hx
        obtain ⟨x, H5, I5, r5, y5, st5, fr5⟩ := h5
        have I5' := I5.pinned (stat fr5) (T.obj _ _ st5)
        refine wpAny_mono (hg.run _ s5 σ H5 x u _ I5' r5 (step x H5 y5)) (fun _ s6 h6 => ?_) fun x s' hx => ee n s₀ x s' hx
        obtain ⟨σ6, H6, I6, q6⟩ := h6
        have g6 : GC X S (ip ++ pinsAt fp s5.heap) A (.forLoop tg (.ref it) body [] X.env) (.ret (fun r => ((match r with | .ok f => (.pure f : Sem Flow) | .error e => .raise e).onRaise (cameBack X.env)).wrap K J gd lv) none (gd false) (lv []) c p [] :: fs) id := by
          obtain ⟨y1, y2, y3, y4, y5, y6, y7⟩ := gl (fun r => ((match r with | .ok f => (.pure f : Sem Flow) | .error e => .raise e).onRaise (cameBack X.env)).wrap K J gd lv)
          refine ⟨y1, fun p hp => ?_, y3, y4, y5, y6, y7⟩
          rcases List.mem_append.mp hp with z | z
          · exact y2 p z
          · exact hSf p.1 (of_pinsAt z).1
        have down : ∀ {ys7 : List V} {σ7 : St} {H7 : Hp} {s7 : Shared}, GI X S (ip ++ pinsAt fp s5.heap) ys7 σ7 H7 s7 → GI X S ip ys7 σ7 H7 s7 := fun ⟨a7, c7, r7, I7⟩ => ⟨a7, c7, r7, Inv.unpinned (pl := pinsAt fp s5.heap) I7⟩
        have again : ∀ {n7 : Nat} {ys7 : List V} {s₀7 : Shared} {σ7 : St} {H7 : Hp} {s7 : Shared}, n7 + ys7.length = sizeLine → GI X S (ip ++ pinsAt fp s5.heap) ys7 σ7 H7 s7 → N ys7 σ7 H7 →
            Seg (model X.prog X.w) A R (GY X S) n7 s₀7 (.forLoop tg (.ref it) body [] X.env) (.pure (.again (.forLoop tg (.ref it) body [] X.env)))
              (.ret (fun r => ((match r with | .ok f => (.pure f : Sem Flow) | .error e => .raise e).onRaise (cameBack X.env)).wrap K J gd lv) none (gd false) (lv []) c p [] :: fs) s7 := fun {n7 ys7 s₀7 σ7 H7 s7} hn7 I7 n8 => by
          obtain ⟨m', hm, w7⟩ := hN _ _ _ n8
          have I7' := I7
          obtain ⟨a7, c7, r7, I7⟩ := I7
          have pin : ∀ b ∈ fp, ∀ o, s5.heap.get? b = some o → s7.heap.get? b = some o ∧ H7 b = none := fun b hb o e => by
            have := I7.pin (b, o) (List.mem_append_right _ (List.mem_cons_of_mem _ (List.mem_append_right _ (mem_pinsAt hb e))))
            exact ⟨this.1, this.2.1⟩
          refine seg_again rfl (ih m' hm (i + 1) n7 ys7 s₀7 s7 σ7 H7 hn7 w7 (down I7') (T.keep _ _ _ st5 fun b hb o e => (pin b hb o e).1) fun b hb => ?_)
          obtain ⟨o, e, d⟩ := T.obj _ _ st5 b hb
          exact (pin b hb o e).2
        refine hb.run A S _ R n ys s₀ _ _ _ _ id id s6 σ6 H6 { D with nx := N, ct := N, bk := D.nx } g6 hn ⟨fun n' ys' s₀' s3 f hn' hs => ?_, fun n' s₀' x s3 hx => ee n' s₀' x s3 hx⟩ ⟨acc, cc, r, I6⟩ q6
        cases f with
        | next =>
          obtain ⟨σ3, H3, I3, n3⟩ := hs
          exact again hn' I3 n3
        | cont =>
          obtain ⟨σ3, H3, I3, n3⟩ := hs
          exact again hn' I3 n3
        | brk =>
          obtain ⟨σ3, H3, I3, q3⟩ := hs
          exact seg_leaf (.ok .next) (k.ok n' ys' s₀' s3 .next hn' ⟨σ3, H3, down I3, q3⟩)
        | ret v =>
          obtain ⟨x3, σ3, H3, I3, r3, q3⟩ := hs
          exact seg_leaf (.ok (.ret v)) (k.ok n' ys' s₀' s3 (.ret v) hn' ⟨x3, σ3, H3, down I3, r3, q3⟩)
  exact loop m0 0 n ys s₀ s2 σ H2 hn w0 ⟨acc, cc, r, I2⟩ st2 fun b hb => (f2 b hb).1
end
end L2

set_option Elab.async false
set_option linter.all false
set_option maxRecDepth 100000
/-! GT: a generator def's context is good; what its promise is -/
namespace Z
open PySem PySem.Spec PyProof.Rows L2
section
variable {P : Program} {w : World} {K : PySem.W.Frag} {mg : Str → Option Value} {base : Heap}
theorem good_gcx {k : Nat} {N ps : List Str} {qual : Str} {scope : Scope} {f : Addr} {cdv : Value} {A : Around} {outer : List PySem.Env} {s : Shared} {H : Hp} {E : XK} {pn : List (Addr × Obj)} {c : Ct} (S : GScope N ps scope) (hr : Room k (A.deeper (envOfC qual scope s.heap.objs.size f cdv)))
    (hN : c.N = N) (hsc : c.sc = scope.names) (hfn : c.fn = none) (nb : nbB N = true) (gl : GlL P w K mg base k c.gl) : Good (gcxOf P w K mg base N qual scope f cdv A outer s H E pn).nox c := by
  subst hN
  refine ⟨rfl, S.nd, hsc.symm, S.kind, fun x hx => rfl, rfl, ?_, rfl, fun x hx => ?_, fun x s e => ?_⟩
  · have := hr.un
    show (A.deeper (envOfC qual scope s.heap.objs.size f cdv)).units + 64 < cLine
    omega
  · have := List.all_eq_true.mp nb x hx
    simpa using this
  · have q := gl.get e
    cases s with
    | fn g =>
      obtain ⟨f, a, b, d⟩ := q.ex
      exact ⟨q.gl, k, f, a, hr, b, d⟩
    | blt b => exact q
    | con d => exact ⟨q.1, q.2⟩
    | gen g => exact q _ rfl rfl rfl rfl rfl hr rfl rfl
/-- a generator's promise: K is asked of the list of all that it hands out -/
def spGen (F : PySem.W.Frag) (g : Gs) : SpG := fun vs H Q _ => ∃ (W : Vw) (h : MH) (ds : List D) (K0 : D → MH → Prop), RelH F W h H ∧ Reps F W H ds vs ∧ g ds h K0 ∧
  ∀ xs h' W' H' ys, K0 (.lst xs) h' → Pres W H W' H' → RelH F W' h' H' → Reps F W' H' xs ys → Q ys H'
end
section
variable {X : Cx}
theorem _root_.L2.PS.nox {st : Stmt} {t : TS} (h : PS X.nox st t) : PS X st t := ⟨fun pins s σ H D I hw => wpAny_mono (h.run pins s σ H D (I.wish _) hw) (fun f s' q => q.unwish) fun _ _ z => z.elim⟩
theorem _root_.L2.PG.nox {tg : Expr} {t : TG} (h : PG X.nox tg t) : PG X tg t := ⟨fun pins s σ H v u Q I r hw => wpAny_mono (h.run pins s σ H v u Q (I.wish _) r hw) (fun _ s' ⟨σ', H', I', q⟩ => ⟨σ', H', I'.unwish, q⟩) fun _ _ z => z.elim⟩
theorem fpOk_nox {pins : List (Addr × Obj)} {H : Hp} {b : Addr} (h : FpOk X.nox pins H b) : FpOk X pins H b := h
theorem _root_.L2.PI.nox {tg iter : Expr} {wi : TI} (h : PI X.nox tg iter wi) : PI X tg iter wi := ⟨fun pins s σ H R I hw =>
  wpAny_mono (h.run pins s σ H R (I.wish _) hw) (fun v s1 q => wpAny_mono q (fun itv s2 ⟨it, fp, tn, J, H', e, I', T, st, f, r⟩ => ⟨it, fp, tn, J, H', e, I'.unwish, T, st, f, r⟩) fun _ _ z => z.elim) fun _ _ z => z.elim⟩
end
end Z

set_option Elab.async false
set_option linter.all false
set_option maxRecDepth 100000
/-! GU: a generator's body over values without addresses; out: what has been handed out -/
namespace Z
open PySem PySem.Spec PyProof.Rows L2
abbrev GSv := (List D → Rho → MH → Prop) → List D → Rho → MH → Prop
def gPlain (s : Sv) : GSv := fun K out ρ h => s { nx := K out, rt := fun _ _ => False, bk := fun _ _ => False, ct := fun _ _ => False } ρ h
def gNil : GSv := fun K out ρ h => K out ρ h
def gThen (a b : GSv) : GSv := fun K out ρ h => a (b K) out ρ h
def gYield (w : Ev) : GSv := fun K out ρ h => out.length < sizeLine ∧ w ρ h fun d h1 => K (out ++ [d]) ρ h1
def forG (g : Gv) (b : GSv) (chk : MH → Prop) : List D → (List D → Rho → MH → Prop) → List D → Rho → MH → Prop
  | [], K, out, ρ, h => chk h ∧ K out ρ h
  | x :: xs, K, out, ρ, h => chk h ∧ g x ρ h fun ρ1 h1 => b (forG g b chk xs K) out ρ1 h1
def gFor (iv : Iv) (g : Gv) (b : GSv) : GSv := fun K out ρ h => iv ρ h fun xs chk h1 => forG g b chk xs K out ρ h1
def tGS (F : PySem.W.Frag) (s : GSv) : TGn := fun D ys σ H => ∃ (W : Vw) (ρ : Rho) (h : MH) (out : List Z.D) (K0 : List Z.D → Rho → MH → Prop), RelE F W H ρ σ ∧ RelH F W h H ∧ Reps F W H out ys ∧ s K0 out ρ h ∧
  ∀ out' ρ' h' W' σ' H' ys', K0 out' ρ' h' → Pres W H W' H' → RelE F W' H' ρ' σ' → RelH F W' h' H' → Reps F W' H' out' ys' → D.nx ys' σ' H'
theorem _root_.L2.GS.imp {X : Cx} {st : Stmt} {t t' : TGn} (h : GS X st t) (k : ∀ D ys σ H, t' D ys σ H → t D ys σ H) : GS X st t' :=
  ⟨fun A S ip R n ys s₀ c fs K J gd lv s σ H D g hn hk hI ht => h.run A S ip R n ys s₀ c fs K J gd lv s σ H D g hn hk hI (k _ _ _ _ ht)⟩
theorem _root_.L2.GSs.imp {X : Cx} {st : List Stmt} {t t' : TGn} (h : GSs X st t) (k : ∀ D ys σ H, t' D ys σ H → t D ys σ H) : GSs X st t' :=
  ⟨fun A S ip R n ys s₀ c fs K J gd lv s σ H D g hn hk hI ht => h.run A S ip R n ys s₀ c fs K J gd lv s σ H D g hn hk hI (k _ _ _ _ ht)⟩
section
variable {X : Cx} {st : Stmt} {sts : List Stmt} {e tg iter : Expr} {w : Ev} {a b : GSv} {s : Sv} {g : Gv} {vs : List Nat} {pos yp : Pos}
theorem zg_plain (h : PS X st (tS X.K s)) : GS X st (tGS X.K (gPlain s)) := (gs_ps h).imp fun D ys σ H ⟨W, ρ, h, out, K0, E, R, rs, w, f⟩ =>
  ⟨W, ρ, h, _, E, R, w, fun ρ' h' W' σ' H' k p E' R' => f _ _ _ _ _ _ _ k p E' R' (rs.pres p), fun _ _ _ _ _ z => z.elim, fun _ _ _ _ _ z => z.elim, fun _ _ _ _ _ z => z.elim⟩
theorem zg_nil : GSs X [] (tGS X.K gNil) := gss_nil.imp fun D ys σ H ⟨W, ρ, h, out, K0, E, R, rs, w, f⟩ => f _ _ _ _ _ _ _ w (.refl W H) E R rs
theorem zg_cons (ha : GS X st (tGS X.K a)) (hb : GSs X sts (tGS X.K b)) : GSs X (st :: sts) (tGS X.K (gThen a b)) := (gss_cons ha hb).imp fun D ys σ H ⟨W, ρ, h, out, K0, E, R, rs, w, f⟩ =>
  ⟨W, ρ, h, out, _, E, R, rs, w, fun out' ρ' h' W' σ' H' ys' k p E' R' rs' => ⟨W', ρ', h', out', K0, E', R', rs', k, fun o2 ρ2 h2 W2 σ2 H2 ys2 k2 p2 => f _ _ _ _ _ _ _ k2 (p.trans p2)⟩⟩
theorem zg_yield (he : PE X e (tE X.K w)) (hco : X.env.scope.isCoroutine = false) (hi : interactive X.env = false) : GS X (.Expr (.Yield (some e) yp) pos) (tGS X.K (gYield w)) := (gs_yield he hco hi).imp fun D ys σ H ⟨W, ρ, h, out, K0, E, R, rs, ⟨hl, w⟩, f⟩ =>
  ⟨by rw [rs.length]; exact hl, W, ρ, h, _, E, R, w, fun d h' W' H' v k p R' r => f _ _ _ _ _ _ _ k p (E.pres p) R' ((rs.pres p).append (by simp only [Reps]; exact ⟨_, _, rfl, r, rfl⟩))⟩
theorem zg_for {body : List Stmt} {iv : Iv} (hp : PassesOwn (model X.prog X.w) X.A X.env X.xe) (hc : X.calm = true) (hi : PI X tg iter (tI X.K iv)) (hg : PG X tg (tG X.K g vs)) (hb : GSs X body (tGS X.K b)) (hs : ∀ x, foldedSetIterable iter X.env x = pure x) :
    GS X (.For tg iter body [] pos) (tGS X.K (gFor iv g b)) := by
  refine (gs_for hp hc hi hg hb hs).imp fun D ys σ H ⟨W, ρ, h, out, K0, E, R, rs, w, f⟩ => ?_
  refine ⟨W, ρ, h, _, E, R, w, fun xs chk h1 W1 H1 J k1 p1 R1 it => ?_⟩
  refine ⟨fun i m ys2 σ2 H2 => m = xs.length - i ∧ i ≤ xs.length ∧ ∃ W2 ρ2 h2 o2, Pres W1 H1 W2 H2 ∧ RelE X.K W2 H2 ρ2 σ2 ∧ RelH X.K W2 h2 H2 ∧ Reps X.K W2 H2 o2 ys2 ∧ forG g b chk (xs.drop i) K0 o2 ρ2 h2,
    ⟨xs.length, by simp, Nat.zero_le _, W1, ρ, h1, out, .refl W1 H1, E.pres p1, R1, rs.pres p1, k1⟩, ?_⟩
  rintro i m ys2 σ2 H2 ⟨rfl, hi, W2, ρ2, h2, o2, p2, E2, R2, rs2, k2⟩
  by_cases hlt : i < xs.length
  · rw [List.drop_eq_getElem_cons hlt] at k2
    obtain ⟨ck, k2⟩ := k2
    obtain ⟨_, q⟩ := it W2 h2 H2 p2.w R2 ck
    obtain ⟨go, yl⟩ := q i _ (List.getElem?_eq_getElem hlt)
    refine .inr ⟨go, fun ys' σ' H' => ∃ W3 ρ3 h3 o3, Pres W1 H1 W3 H' ∧ RelE X.K W3 H' ρ3 σ' ∧ RelH X.K W3 h3 H' ∧ Reps X.K W3 H' o3 ys' ∧ forG g b chk (xs.drop (i + 1)) K0 o3 ρ3 h3, fun ys' σ' H' q => ⟨xs.length - (i + 1), by omega, rfl, hlt, q⟩, fun v H' y => ?_⟩
    obtain ⟨p3, R3, rv⟩ := yl v H' y
    refine ⟨W2, ρ2, h2, xs[i], _, E2.pres p3, R3, rv, k2, fun ρ4 h4 W4 σ4 H4 k4 p4 E4 R4 _ => ?_⟩
    have p24 := (p2.trans p3).trans p4
    exact ⟨W4, ρ4, h4, o2, _, E4, R4, rs2.pres (p3.trans p4), k4, fun o5 ρ5 h5 W5 σ5 H5 ys5 k5 p5 E5 R5 rs5 => ⟨W5, ρ5, h5, o5, p24.trans p5, E5, R5, rs5, k5⟩⟩
  · have e : i = xs.length := by omega
    subst e
    rw [List.drop_length] at k2
    obtain ⟨ck, k2⟩ := k2
    exact .inl ⟨(it W2 h2 H2 p2.w R2 ck).1, f _ _ _ _ _ _ _ k2 (p1.trans p2) E2 R2 rs2⟩
end
end Z

set_option Elab.async false
set_option linter.all false
set_option maxRecDepth 100000
/-! GV: a generator def; list(g(..)) -/
namespace Z
open PySem PySem.Spec PyProof.Rows L2
/-- the promise of a generator def with n parameters, by its body -/
def bodyGen (l n : Nat) (s : GSv) : Gs := fun ds h K => ds.length = n ∧ s (fun out _ h' => K (.lst out) h') [] (ds.map some ++ List.replicate (l - ds.length) none) h
theorem spGen_body {F : PySem.W.Frag} {N : List Str} {n : Nat} {s : GSv} {vs : List V} {H : Hp} {Q : List V → Hp → Prop} {E : XK} (h : spGen F (bodyGen N.length n s) vs H Q E) :
    tGS F s { nx := fun ys _ H' => Q ys H', rt := fun ys v H' => v = .non ∧ Q ys H' } [] (L2.start N vs) H := by
  obtain ⟨W, h, ds, K0, R, rs, ⟨hl, w⟩, f⟩ := h
  exact ⟨W, _, h, [], _, relE_start rs, R, by simp only [Reps], w, fun out' ρ' h' W' σ' H' ys' k p E' R' rs' => f _ _ _ _ _ k p R' rs'⟩
theorem spGen_len {F : PySem.W.Frag} {N ps : List Str} {s : GSv} {vs : List V} {H : Hp} {Q : List V → Hp → Prop} {E : XK} (h : spGen F (bodyGen N.length ps.length s) vs H Q E) : vs.length = ps.length := by
  obtain ⟨W, h, ds, K0, R, rs, w, f⟩ := h
  rw [rs.length]
  exact w.1
structure GnL (P : Program) (w : World) (K : PySem.W.Frag) (mg : Str → Option Value) (base : Heap) (k : Nat) (x : Str) (g : Gs) : Prop where
  gl : x ≠ "__debug__"
  ex : ∃ (f : Addr) (fd : FuncData) (ps : List Str), GFn P w K mg base k f fd ps (spGen K g) ∧ Binds K fd ps [] ∧ PySem.W.keepIn K (.ref f) = true ∧ mg x = some (.ref f)
section
variable {P : Program} {w : World} {K : PySem.W.Frag} {mg : Str → Option Value} {base : Heap}
theorem gnL_of {k : Nat} {x : Str} {params : Arguments} {body : List Stmt} {scope : Scope} {f : Addr} {fd : FuncData} {N ps : List Str} {c : Ct} {s : GSv} (F : FunD K x x params body scope [] [] f fd) (hm : mg x = some (.ref f)) (hd : x ≠ "__debug__")
    (hb : Binds K fd ps []) (S : GScope N ps scope) (hN : c.N = N) (hsc : c.sc = scope.names) (hfn : c.fn = none) (nb : nbB N = true) (gl : GlL P w K mg base k c.gl)
    (ht : ∀ X : Cx, Good X.nox c → X.calm = true → X.env.scope.isCoroutine = false → interactive X.env = false → PassesOwn (model X.prog X.w) X.A X.env X.xe → GSs X body (tGS X.K s)) : GnL P w K mg base (k + 1) x (bodyGen N.length ps.length s) := by
  obtain ⟨oc, od, dV, kV, doc, pm, an, cdv, ct, osl, rfl, lk, hcd, _, _⟩ := F.ex
  refine ⟨hd, f, _, ps, gfn_of lk hcd S (fun vs H Q E h => spGen_len h) (fun A outer s' H vs Q E pn hr h => ⟨_, ht _ (good_gcx S hr hN hsc hfn nb gl) rfl S.co ?_ owns_gcx, spGen_body h⟩), hb, F.kp, hm⟩
  have e : (gcxOf P w K mg base N x scope f cdv A outer s' H E pn).env.scope.kind = .function := S.kind
  unfold interactive
  rw [e]
  rfl
end
end Z

set_option Elab.async false
set_option linter.all false
set_option maxRecDepth 100000
/-! GW: list(g(..)) -/
namespace Z
open PySem PySem.Spec PyProof.Rows L2
section
variable {X : Cx} {mu : Bool} {k : Nat} {x : Str} {g : Gs} {e : Expr} {es : List Expr} {as : Av} {p pos pos' p0 : Pos}
theorem z_listG (G : GnL X.prog X.w X.K X.mg X.base k x g) (hr : Room (k + 3) X.A) (hg : Gl X x) (hl : Gl X "list") (hmg : X.mg "list" = none) (hxe : X.xe = fun _ _ => False) (ha : PA X (e :: es) (tA X.K as))
    (he : starEach (e :: es) X.env = (false, eval e X.env) :: starEach es X.env) (hpl : (backTo pos' (starEach es X.env)).any (·.1) = false)
    (he2 : starEach [.Call (.Name x p) (e :: es) [] pos'] X.env = (false, eval (.Call (.Name x p) (e :: es) [] pos') X.env) :: starEach [] X.env) :
    PE X (.Call (.Name "list" p0) [.Call (.Name x p) (e :: es) [] pos'] [] pos) (tE X.K (cGenL mu g as)) := by
  obtain ⟨f, fd, ps, F, hb, hk, hm⟩ := G.ex
  have gen := pgen_call (E := fun _ _ _ => False) (p := p) (pos' := pos') (dvs := []) F (hr.mono (by omega)) hg hm hk hb .nil ha (by have := G.gl; simpa using this) he hpl
  refine (pe_listG gen ?_ (fun _ _ _ z => z.elim) hr hl hmg (by rfl) (he := he2)).imp fun σ H Q ⟨W, ρ, h, K0, E, R, w, f⟩ => ?_
  · intro pins σ H1 s1 e s' I c
    obtain ⟨a, B, H', cls, d, rfl, fl, _, _, _, _, _, hW⟩ := c
    exact hW.elim
  · refine ⟨W, ρ, h, _, E, R, w, fun ds h1 W1 H1 vs k1 p1 R1 rs1 => ?_⟩
    show spGen X.K g (vs ++ []) H1 _ _
    rw [List.append_nil]
    refine ⟨W1, h1, ds, _, R1, rs1, k1, fun xs h' W' H' ys k2 p2 R2 rs2 p hp => ?_⟩
    exact (Fo.step (Fo.step f p1) p2).lst R2 hp k2 rs2
end
end Z

set_option Elab.async false
set_option linter.all false
set_option maxRecDepth 100000
/-! S2: further defs' terms, printed by gens2.py -/
namespace Z
open PySem PySem.Spec PyProof.Rows L2
def N_is_form : List Str := ["value", "names", "group", "name"]
def s_is_form (G_rises G_is_group : Gs) : Sv := (sSeq (sIf (cOr (cNot (cTest (cIsi ["tuple"] (cVar 0)))) (cOr (cNot (cTest (cB (bBools fun bs => bs.all id) (aCons (cComp false (iVal (cVar 0)) (gvName 2) tvYes (bOne (cCall G_is_group (aCons (cVar 2) aNil))) [2]) aNil)))) (cNot (cTest (cCall G_rises (aCons (cVar 0) aNil)))))) (sRet (cK (.bl false))) sNil) (sSeq (sSet 1 (cComp false (iVal (cVar 0)) (gvName 2) tvYes (bIn (iVal (cVar 2)) (gvName 3) tvYes [3] (cVar 3)) [2, 3])) (sRet (cAndV (cBin wLe (cB bLen (aCons (cVar 1) aNil)) (cK c_MOST_NAMES)) (cBin (wEq false) (cSetL (cVar 1)) (cB bLen (aCons (cVar 1) aNil)))))))
def N_L_any : List Str := ["tape", "deep", "course", "some", "k"]
def s_L_any (G_L_draw G_L_any : Gs) : Sv := (sSeq (sSet 2 (cCall G_L_draw (aCons (cVar 0) (aCons (cK (.int 13)) aNil)))) (sSeq (sIf (cAnd (cTest (cBin wLt (cVar 2) (cK (.int 4)))) (cTest (cBin wGt (cVar 1) (cK (.int 0))))) (sSeq (sSet 3 (cComp false (iRange1 (aCons (cCall G_L_draw (aCons (cVar 0) (aCons (cK (.int 4)) aNil))) aNil)) (gvName 4) tvYes (bOne (cCall G_L_any (aCons (cVar 0) (aCons (cBin wSub (cVar 1) (cK (.int 1))) aNil)))) [4])) (sRet (cBin wIx (cLst false (aCons (cVar 3) (aCons (cB bTuple (aCons (cVar 3) aNil)) (aCons (cB bTuple (aCons (cVar 3) aNil)) (aCons (cB bTuple (aCons (cVar 3) aNil)) aNil))))) (cVar 2)))) sNil) (sSeq (sIf (cTest (cBin wLt (cVar 2) (cK (.int 8)))) (sRet (cBin wIx (cLst false (aCons (cBin wSub (cCall G_L_draw (aCons (cVar 0) (aCons (cK (.int 12)) aNil))) (cK (.int 2))) (aCons (cCall G_L_draw (aCons (cVar 0) (aCons (cBin wPow (cK (.int 10)) (cK (.int 12))) aNil))) (aCons (cK (.int 0)) (aCons (cK (.int 3)) aNil))))) (cB bMax (aCons (cK (.int 0)) (aCons (cBin wSub (cVar 2) (cK (.int 4))) aNil))))) sNil) (sSeq (sSet 3 (cLst false (aCons (cK (.str "")) (aCons (cK (.str " ")) (aCons (cK (.str "a")) (aCons (cK (.str "write")) (aCons (cK (.str "b")) (aCons (cK (.str "link")) (aCons (cK (.str "a 1\nb 2")) aNil))))))))) (sRet (cBin wIx (cLst false (aCons (cK (.bl true)) (aCons (cK (.bl false)) (aCons (cK .non) (aCons (cBin wIx (cVar 3) (cCall G_L_draw (aCons (cVar 0) (aCons (cK (.int 7)) aNil)))) (aCons (cTup (aCons (cK (.int 1)) (aCons (cK (.int 2)) aNil))) aNil)))))) (cBin wSub (cVar 2) (cK (.int 8)))))))))
def N_L_is_disk : List Str := ["value", "file", "names", "own"]
def s_L_is_disk (G_L_in_groups G_L_is_word G_L_within : Gs) : Sv := (sSeq (sIf (cNot (cTest (cIsi ["tuple"] (cVar 0)))) (sRet (cK (.bl false))) sNil) (sSeq (sFor (iVal (cVar 0)) (gvName 1) (sSeq (sIf (cOr (cNot (cTest (cIsi ["tuple"] (cVar 1)))) (cOr (cTest (cBin (wEq true) (cB bLen (aCons (cVar 1) aNil)) (cK (.int 2)))) (cNot (cTest (cCall G_L_within (aCons (cBin wIx (cVar 1) (cK (.int 1))) (aCons (cUn uNeg (cBin wPow (cK (.int 10)) (cK (.int 6)))) (aCons (cBin wPow (cK (.int 10)) (cK (.int 6))) aNil)))))))) (sRet (cK (.bl false))) sNil) (sSeq (sIf (cOr (cNot (cTest (cIsi ["tuple"] (cBin wIx (cVar 1) (cK (.int 0)))))) (cOr (cTest (cBin (wEq false) (cBin wIx (cVar 1) (cK (.int 0))) (cTup aNil))) (cTest (cBin (wEq true) (cComp false (iVal (cBin wIx (cVar 1) (cK (.int 0)))) (gvName 3) (cNot (cTest (cCall G_L_is_word (aCons (cVar 3) aNil)))) (bOne (cVar 3)) [3]) (cLst false aNil))))) (sRet (cK (.bl false))) sNil) (sIf (cTest (cBin (wEq true) (cB (bList false) (aCons (cBin wIx (cVar 1) (cK (.int 0))) aNil)) (cSetS false (cBin wIx (cVar 1) (cK (.int 0)))))) (sRet (cK (.bl false))) sNil)))) (sSeq (sSet 2 (cCall G_L_in_groups (aCons (cComp false (iVal (cVar 0)) (gvName 1) tvYes (bOne (cBin wIx (cVar 1) (cK (.int 0)))) [1]) aNil))) (sRet (cAndV (cBin wLt (cB bLen (aCons (cVar 2) aNil)) (cK (.int 11))) (cAndV (cBin (wEq false) (cSetL (cVar 2)) (cB bLen (aCons (cVar 2) aNil))) (cBin (wEq false) (cB (bList false) (aCons (cVar 0) aNil)) (cB (bSorted2 false) (aCons (cVar 0) aNil)))))))))
def N_mentioned : List Str := ["programs", "deeds", "names", "program", "deed"]
def s_mentioned : Sv := (sSeq (sSet 1 (cComp false (iVal (cVar 0)) (gvName 3) tvYes (bIn (iVal (cVar 3)) (gvName 4) tvYes [4] (cVar 4)) [3, 4])) (sSeq (sSet 2 (cBin (wAdd false) (cComp false (iVal (cVar 1)) (gvName 4) tvYes (bOne (cBin wIx (cVar 4) (cK (.int 1)))) [4]) (cComp false (iVal (cVar 1)) (gvName 4) (cTest (cBin (wIn false) (cBin wIx (cVar 4) (cK (.int 0))) (cK c_WITH_TWO))) (bOne (cBin wIx (cVar 4) (cK (.int 2)))) [4]))) (sRet (cB bTuple (aCons (cSetS false (cVar 2)) aNil)))))
def N_own_disks : List Str := ["programs", "form"]
def s_own_disks (G_all_forms G_mentioned G_own_disk : Gs) : Sv := (sRet (cComp false (iVal (cCall G_all_forms (aCons (cCall G_mentioned (aStar (cVar 0) aNil)) aNil))) (gvName 1) tvYes (bOne (cCall G_own_disk (aCons (cVar 1) (aCons (cVar 0) (aCons (cRngL false (cB bLen (aCons (cVar 1) aNil))) aNil))))) [1]))
def N_L_proving : List Str := ["names", "row"]
def s_L_proving (G_L_groupings G_L_labelled : Gs) : Sv := (sRet (cComp false (iVal (cCall G_L_groupings (aCons (cVar 0) aNil))) (gvName 1) tvYes (bOne (cCall G_L_labelled (aCons (cVar 1) (aCons (cRngL false (cB bLen (aCons (cVar 1) aNil))) aNil)))) [1]))
def N_L_count : List Str := ["disk", "names", "content"]
def s_L_count : Sv := (sRet (cB bSum (aCons (cComp false (iVal (cVar 0)) (gvTup 2 (gvCons (gvName 1) (gvCons (gvName 2) gvNil))) tvYes (bOne (cB bLen (aCons (cVar 1) aNil))) [1, 2]) aNil)))
def N_parting_forms : List Str := ["one", "other", "found", "form", "disk"]
def s_parting_forms (G_all_forms G_mentioned G_after G_own_disk : Gs) : Sv := (sSeq (sSet 2 (cLst true aNil)) (sSeq (sFor (iVal (cCall G_all_forms (aCons (cCall G_mentioned (aCons (cVar 0) (aCons (cVar 1) aNil))) aNil))) (gvName 3) (sSeq (sSet 4 (cCall G_own_disk (aCons (cVar 3) (aCons (cTup (aCons (cVar 0) (aCons (cVar 1) aNil))) (aCons (cRngL false (cB bLen (aCons (cVar 3) aNil))) aNil))))) (sIf (cTest (cBin (wEq true) (cCall G_after (aCons (cVar 4) (aCons (cVar 0) aNil))) (cCall G_after (aCons (cVar 4) (aCons (cVar 1) aNil))))) (sDrop (cMe ["list"] (fun _ => mAppend) (cVar 2) (aCons (cVar 3) aNil))) sNil))) (sRet (cB (bSorted2 false) (aCons (cVar 2) aNil)))))
def N_shortest_part : List Str := ["program", "size", "chosen", "own", "at"]
def s_shortest_part (G_marks G_alike : Gs) : Sv := (sSeq (sFor (iRange1 (aCons (cBin (wAdd false) (cB bLen (aCons (cVar 0) aNil)) (cK (.int 1))) aNil)) (gvName 1) (sFor (iVal (cB (bSorted2 false) (aCons (cComp false (iVal (cCall G_marks (aCons (cB bLen (aCons (cVar 0) aNil)) aNil))) (gvName 3) (cTest (cBin (wEq false) (cB bLen (aCons (cVar 3) aNil)) (cVar 1))) (bOne (cVar 3)) [3]) aNil))) (gvName 2) (sIf (cTest (cCall G_alike (aCons (cVar 0) (aCons (cB bTuple (aCons (cComp false (iVal (cVar 2)) (gvName 4) tvYes (bOne (cBin wIx (cVar 0) (cVar 4))) [4]) aNil)) aNil)))) (sRet (cVar 2)) sNil))) (sRet (cRngT (cB bLen (aCons (cVar 0) aNil)))))
def N_most_files : List Str := ["program", "found", "disk", "now"]
def s_most_files (G_own_disks G_track : Gs) : Sv := (sSeq (sSet 1 (cK (.int 0))) (sSeq (sFor (iVal (cCall G_own_disks (aCons (cVar 0) aNil))) (gvName 2) (sFor (iVal (cCall G_track (aCons (cVar 2) (aCons (cVar 0) aNil)))) (gvName 3) (sSet 1 (cB bMax (aCons (cVar 1) (aCons (cBin wSub (cB bLen (aCons (cVar 3) aNil)) (cB bLen (aCons (cVar 2) aNil))) aNil)))))) (sRet (cVar 1))))
def N_cycle : List Str := ["program", "lead", "length", "disk", "rows", "first"]
def s_cycle (G_own_disks G_common G_run_cycle : Gs) : Sv := (sSeq (sAsg (gvTup 2 (gvCons (gvName 1) (gvCons (gvName 2) gvNil))) (cTup (aCons (cK (.int 0)) (aCons (cK (.int 1)) aNil)))) (sSeq (sFor (iVal (cCall G_own_disks (aCons (cVar 0) aNil))) (gvName 3) (sSeq (sAsg (gvTup 2 (gvCons (gvName 4) (gvCons (gvName 5) gvNil))) (cCall G_run_cycle (aCons (cVar 3) (aCons (cVar 0) aNil)))) (sPar [1, 2] (aCons (cB bMax (aCons (cVar 1) (aCons (cVar 5) aNil))) (aCons (cCall G_common (aCons (cVar 2) (aCons (cBin wSub (cB bLen (aCons (cVar 4) aNil)) (cVar 5)) aNil))) aNil))))) (sRet (cTup (aCons (cVar 1) (aCons (cVar 2) aNil))))))
def N_fewest_tests : List Str := ["contents", "values", "name", "content"]
def s_fewest_tests : Sv := (sSeq (sSet 1 (cComp false (iVal (cVar 0)) (gvTup 2 (gvCons (gvName 2) (gvCons (gvName 3) gvNil))) tvYes (bOne (cVar 3)) [2, 3])) (sRet (cBin wSub (cB bLen (aCons (cVar 1) aNil)) (cSetL (cVar 1)))))
def N_L_worst : List Str := ["some", "names", "best", "name", "ends", "row", "group", "worth", "own"]
def s_L_worst (G_L_worst : Gs) : Sv := (sSeq (sIf (cTest (cBin wLt (cB bLen (aCons (cVar 0) aNil)) (cK (.int 2)))) (sRet (cK (.int 0))) sNil) (sSeq (sSet 2 (cK .non)) (sSeq (sFor (iVal (cVar 1)) (gvName 3) (sSeq (sSet 4 cDict) (sSeq (sFor (iVal (cVar 0)) (gvName 5) (sSeq (sSet 6 (cBin wIx (cComp false (iVal (cVar 5)) (gvName 8) (cTest (cBin (wIn false) (cVar 3) (cVar 8))) (bOne (cVar 8)) [8]) (cK (.int 0)))) (sPut (cVar 4) (cVar 6) (cBin (wAdd false) (cMe ["dict"] (fun _ => mGet) (cVar 4) (aCons (cVar 6) (aCons (cLst false aNil) aNil))) (cLst false (aCons (cVar 5) aNil)))))) (sIf (cTest (cBin wGt (cB bLen (aCons (cVar 4) aNil)) (cK (.int 1)))) (sSeq (sSet 7 (cBin (wAdd false) (cK (.int 1)) (cB bMax (aCons (cLock 4 (cComp false (iVal (cVar 4)) (gvName 6) tvYes (bOne (cCall G_L_worst (aCons (cBin wIx (cVar 4) (cVar 6)) (aCons (cVar 1) aNil)))) [6])) aNil)))) (sSet 2 (cIfE (cOr (cTest (cIsN false (cVar 2))) (cTest (cBin wLt (cVar 7) (cVar 2)))) (cVar 7) (cVar 2)))) sNil)))) (sRet (cVar 2)))))
def N_fits : List Str := ["groups", "at", "name", "apart", "own"]
def s_fits : Sv := (sRet (cUn uNot (cB (bBools fun bs => bs.any id) (aCons (cComp false (iVal (cBin wIx (cVar 0) (cVar 1))) (gvName 4) tvYes (bOne (cBin (wIn false) (cTup (aCons (cB bMin (aCons (cVar 4) (aCons (cVar 2) aNil))) (aCons (cB bMax (aCons (cVar 4) (aCons (cVar 2) aNil))) aNil))) (cVar 3))) [4]) aNil))))
def N_arranged : List Str := ["contents", "apart", "files", "value", "names", "name", "content", "group"]
def s_arranged (G_fewest_groups : Gs) : Sv := (sSeq (sSet 2 (cLst false aNil)) (sSeq (sFor (iVal (cSetS false (cComp false (iVal (cVar 0)) (gvTup 2 (gvCons (gvName 5) (gvCons (gvName 6) gvNil))) tvYes (bOne (cVar 6)) [5, 6]))) (gvName 3) (sSeq (sSet 4 (cB bTuple (aCons (cComp false (iVal (cVar 0)) (gvTup 2 (gvCons (gvName 5) (gvCons (gvName 6) gvNil))) (cTest (cBin (wEq false) (cVar 6) (cVar 3))) (bOne (cVar 5)) [5, 6]) aNil))) (sSet 2 (cBin (wAdd false) (cVar 2) (cComp false (iVal (cCall G_fewest_groups (aCons (cVar 4) (aCons (cVar 1) aNil)))) (gvName 7) tvYes (bOne (cTup (aCons (cB bTuple (aCons (cB (bSorted2 false) (aCons (cVar 7) aNil)) aNil)) (aCons (cVar 3) aNil)))) [7]))))) (sRet (cB bTuple (aCons (cB (bSorted2 false) (aCons (cVar 2) aNil)) aNil)))))
end Z

set_option Elab.async false
set_option linter.all false
set_option maxRecDepth 100000
/-! GX: track -/
namespace Z
open PySem PySem.Spec PyProof.Rows L2
def N_track : List Str := ["disk", "program", "now", "deed"]
def s_track (G_done : Gs) : GSv := gThen (gPlain (sSet 2 (cVar 0))) (gThen (gFor (iVal (cVar 1)) (gvName 3) (gThen (gPlain (sSet 2 (cCall G_done (aCons (cVar 2) (aCons (cVar 3) aNil))))) (gThen (gYield (cVar 2)) gNil))) gNil)
theorem forG_pre {α : Type} {enc : α → D} {g : Gv} {b : GSv} {chk : MH → Prop} {K : List D → Rho → MH → Prop} (P : List α → List D → Rho → MH → Prop) (hc : ∀ p o ρ h, P p o ρ h → chk h) (l : List α)
    (st : ∀ p a q, l = p ++ a :: q → ∀ o ρ h (K' : List D → Rho → MH → Prop), P p o ρ h → (∀ o' ρ' h', P (p ++ [a]) o' ρ' h' → K' o' ρ' h') → g (enc a) ρ h fun ρ1 h1 => b K' o ρ1 h1)
    (k : ∀ o' ρ' h', P l o' ρ' h' → K o' ρ' h') : ∀ (q p : List α), l = p ++ q → ∀ (o : List D) (ρ : Rho) (h : MH), P p o ρ h → forG g b chk (q.map enc) K o ρ h
  | [], p, e, o, ρ, h, hp => ⟨hc p o ρ h hp, k o ρ h (by rw [e, List.append_nil]; exact hp)⟩
  | a :: q, p, e, o, ρ, h, hp => ⟨hc p o ρ h hp, st p a q e o ρ h _ hp fun o' ρ' h' hp' => forG_pre P hc l st k q (p ++ [a]) (by rw [e, List.append_assoc]; rfl) o' ρ' h' hp'⟩
/-- the disks after each deed -/
def trackD (d : Dk) (p : List Dd) : List D := (List.range p.length).map fun i => eDk (after d (p.take (i + 1)))
def G_track : Gs := fun ds h K => ∃ (d : Dk) (p : List Dd), ds = [eDk d, eP p] ∧ okRun d p ∧ p.length ≤ 1000 ∧ K (.lst (trackD d p)) h
theorem p_track {ds : List D} {h : MH} {K : D → MH → Prop} (g : G_track ds h K) : bodyGen 4 2 (s_track G_done) ds h K := by
  obtain ⟨d, p, rfl, hr, hl, k⟩ := g
  refine ⟨rfl, ?_⟩
  simp [s_track, List.replicate, gThen, gPlain, gFor, gNil]
  refine forG_pre (enc := eDd) (fun q o ρ h' => (∃ x, ρ = [some (eDk d), some (eP p), some (eDk (after d q)), x]) ∧ h' = h ∧ o = (List.range q.length).map fun i => eDk (after d (p.take (i + 1)))) (fun _ _ _ _ _ => trivial) p (fun q a r e o ρ' h' K' hP k' => ?_) (fun o ρ' h' hP => ?_) p [] rfl _ _ _ ⟨⟨_, rfl⟩, rfl, rfl⟩
  · obtain ⟨⟨x, rfl⟩, rfl, rfl⟩ := hP
    have hq : q.length < p.length := by rw [e]; simp
    have et : p.take (q.length + 1) = q ++ [a] := by rw [e, List.take_append, List.take_of_length_le (by omega)]; simp
    have big : (1000 : Nat) ≤ sizeLine := by decide +kernel
    have k' := k' _ _ _ ⟨⟨some (eDd a), rfl⟩, rfl, rfl⟩
    simp [gThen, gPlain, gNil, gYield]
    refine ⟨(after d q, a), rfl, ⟨hr.1 q (a :: r) e, hr.2 a (by rw [e]; simp)⟩, ?_⟩
    refine ⟨by omega, ?_⟩
    simpa [after, List.foldl_append, List.range_succ, et] using k'
  · obtain ⟨⟨x, rfl⟩, rfl, rfl⟩ := hP
    exact k
end Z

set_option Elab.async false
set_option linter.all false
set_option maxRecDepth 100000
/-! GY: the translator of a generator's body -/
namespace Z
open PySem PySem.Spec PyProof.Rows L2
def trGs (r : Tr) : Nat → Ct → List Stmt → Option GSv
  | 0, _, _ => none
  | _ + 1, _, [] => some gNil
  | n + 1, c, .For tg it body [] _ :: rest => if isSet it then none else match r.i c tg it, r.g c (vsAll c) tg, trGs r n c body, trGs r n c rest with
    | some iv, some g, some b, some u => some (gThen (gFor iv g b) u)
    | _, _, _, _ => none
  | n + 1, c, .Expr (.Yield (some e) _) _ :: rest => match r.e c e, trGs r n c rest with
    | some w, some u => some (gThen (gYield w) u)
    | _, _ => none
  | n + 1, c, st :: rest => match r.s c st, trGs r n c rest with
    | some s, some u => some (gThen (gPlain s) u)
    | _, _ => none
theorem trGs_ok {r : Tr} (ro : TrOk r) {X : Cx} {c : Ct} (G : Good X.nox c) (hc : X.calm = true) (hco : X.env.scope.isCoroutine = false) (hi : interactive X.env = false) (hp : PassesOwn (model X.prog X.w) X.A X.env X.xe) :
    ∀ (n : Nat) (b : List Stmt) (s : GSv), trGs r n c b = some s → GSs X b (tGS X.K s) := by
  intro n
  induction n with
  | zero => intro b s h; simp [trGs] at h
  | succ n ih =>
    intro b s h
    unfold trGs at h
    split at h
    · cases h
    · cases h; exact zg_nil
    · have hn := ‹n + 1 = Nat.succ _›
      cases hn
      split at h
      · cases h
      · rename_i hs
        split at h
        · rename_i e1 e2 e3 e4
          cases h
          exact zg_cons (zg_for hp hc (PI.nox (ro.i _ _ _ _ _ G e1)) (PG.nox (ro.g _ _ _ _ _ G e2)) (ih _ _ e3) (folded_ok (by simpa using hs) _)) (ih _ _ e4)
        · cases h
    · have hn := ‹n + 1 = Nat.succ _›
      cases hn
      split at h
      · rename_i e1 e2
        cases h
        exact zg_cons (zg_yield (PE.nox (ro.e _ _ _ _ G e1)) hco hi) (ih _ _ e2)
      · cases h
    · have hn := ‹n + 1 = Nat.succ _›
      cases hn
      split at h
      · rename_i e1 e2
        cases h
        exact zg_cons (zg_plain (PS.nox (ro.s _ _ _ _ G e1))) (ih _ _ e2)
      · cases h
end Z

set_option Elab.async false
set_option linter.all false
set_option maxRecDepth 100000
/-! GZ: a generator as a symbol; a def of one star parameter; constants of the module; the hook with a further Bool -/
namespace Z
open PySem PySem.Spec PyProof.Rows L2
section
variable {P : Program} {w : World} {K : PySem.W.Frag} {mg : Str → Option Value} {base : Heap}
theorem sy_gen {j k : Nat} {x : Str} {g : Gs} (G : GnL P w K mg base j x g) (hk : j + 3 ≤ k) : SyL P w K mg base k x (.gen g) := by
  intro X e1 e2 e3 e4 e5 hr hxe hc Y f1 f2 f3 f4 f5 f6 f7 mu e es as p pos pos' p0 h0 hg hl hm ha
  subst e1 e2 e3 e4 e5
  have h1 : isStar e = false ∧ es.any isStar = false := by
    simp only [noStars, List.all_cons, Bool.and_eq_true, Bool.not_eq_true'] at h0
    refine ⟨h0.1, ?_⟩
    rw [List.any_eq_false]
    intro y hy
    have := List.all_eq_true.mp h0.2 y hy
    simpa using this
  rw [← f1, ← f2, ← f3, ← f4, ← f5] at G
  rw [← f6] at hr
  exact z_listG G (hr.mono hk) hg hl hm f7 ha (starEach_plain h1.1) (by rw [backTo_any, starEach_all]; exact h1.2) rfl
theorem spGen_imp {g g' : Gs} {vs : List V} {H : Hp} {Q : List V → Hp → Prop} {E : XK} (k : ∀ ds hh K, g' ds hh K → g ds hh K) (q : spGen K g' vs H Q E) : spGen K g vs H Q E := by
  obtain ⟨W, hh, ds, K0, R, rs, w, fo⟩ := q
  exact ⟨W, hh, ds, K0, R, rs, k _ _ _ w, fo⟩
/-- THE RULE of a generator def, by its translated body -/
theorem gnL_tr {k : Nat} {x : Str} {params : Arguments} {body : List Stmt} {scope : Scope} {f : Addr} {fd : FuncData} {N ps : List Str} {c : Ct} {s : GSv} {g : Gs} {n m : Nat} (F : FunD K x x params body scope [] [] f fd) (hm : mg x = some (.ref f)) (hd : x ≠ "__debug__")
    (hb : Binds K fd ps []) (S : GScope N ps scope) (hN : c.N = N) (hsc : c.sc = scope.names) (hfn : c.fn = none) (nb : nbB N = true) (gl : GlL P w K mg base k c.gl) (ht : trGs (trN n) m c body = some s) (im : ∀ ds hh K, g ds hh K → bodyGen N.length ps.length s ds hh K) : GnL P w K mg base (k + 1) x g := by
  obtain ⟨oc, od, dV, kV, doc, pm, an, cdv, ct, osl, rfl, lk, hcd, _, _⟩ := F.ex
  refine ⟨hd, f, _, ps, gfn_of lk hcd S (fun vs H Q E h => spGen_len (spGen_imp im h)) (fun A outer s' H vs Q E pn hr h => ⟨_, trGs_ok (trN_ok n) (good_gcx S hr hN hsc hfn nb gl) rfl S.co ?_ owns_gcx m _ _ ht, spGen_body (spGen_imp im h)⟩), hb, F.kp, hm⟩
  have e : (gcxOf P w K mg base N x scope f cdv A outer s' H E pn).env.scope.kind = .function := S.kind
  unfold interactive
  rw [e]
  rfl
def starG (l : Nat) (s : Sv) : Gs := fun ds h K => ds.length ≤ sizeLine ∧ bodyG l 1 s [.tup ds] h K
/-- THE RULE of a def whose only parameter is a star -/
theorem fnL_star {k : Nat} {x pv : Str} {params : Arguments} {body : List Stmt} {scope : Scope} {f : Addr} {fd : FuncData} {N : List Str} {c : Ct} {s : Sv} {n : Nat} (F : FunD K x x params body scope [] [] f fd) (hm : mg x = some (.ref f)) (hd : x ≠ "__debug__")
    (h0 : ∀ (kV doc pm : Value) (an : Option Addr) (cdv ct : Value), bindArgs (PySem.W.fnOf x x params body scope .none kV doc pm an cdv ct) ⟨[], []⟩ = (newTuple [] >>= fun t => pure [(pv, t)]))
    (h1 : ∀ (kV doc pm : Value) (an : Option Addr) (cdv ct : Value) (r : Value) (rs : List Value), bindArgs (PySem.W.fnOf x x params body scope .none kV doc pm an cdv ct) ⟨r :: rs, []⟩ = (newTuple (r :: rs) >>= fun t => pure [(pv, t)]))
    (S : FnScope N [pv] scope) (hN : c.N = N) (hsc : c.sc = scope.names) (hfn : c.fn = none) (nb : nbB N = true) (gl : GlL P w K mg base k c.gl) (ht : (trN n).ss c body = some s) : FnL P w K mg base (k + 1) x (starG N.length s) := by
  obtain ⟨oc, od, dV, kV, doc, pm, an, cdv, ct, osl, rfl, lk, hcd, hD, hK⟩ := F.ex
  have hdv : dV = .none := by
    rcases hD with ⟨_, e⟩ | ⟨e, _⟩
    · exact e
    · exact absurd rfl e
  subst hdv
  have raw := StX.fn_star (P := P) (w := w) (mg := mg) (base := base) (k := k) (CX := CX0) (sp := spG K (bodyG N.length 1 s)) (ps := []) (pv := pv) lk hcd S StX.cxUp_none
    (fun us rest hl => by
      cases us with
      | cons u us => simp at hl
      | nil =>
        cases rest with
        | nil => exact h0 kV doc pm an cdv ct
        | cons r rs => exact h1 kV doc pm an cdv ct r rs)
    (fun A outer s' H vs Q E hr h => ⟨_, PSs.nox ((trN_ok n).ss _ c body s (good_cx S hr hN hsc hfn nb gl) ht), sp_body h⟩)
  refine ⟨hd, f, raw.imp fun vs H Q E h => ?_, F.kp, hm⟩
  obtain ⟨W, h, ds, K0, R, rs, ⟨hl, w⟩, fo⟩ := h
  refine ⟨[], vs, rfl, rfl, by rw [rs.length]; exact hl, fun p hp => ?_⟩
  have n1 := R.free hp
  exact ⟨W, h, [.tup ds], K0, R.new hp (.tup vs), .cons (Rep.tupNew n1 hp rs) .nil, w, Fo.step fo (Pres.new n1 hp (.tup vs))⟩
/-! constants -/
theorem wrT_of {x : Str} {vs : List He.Dv} (h : He.tupB K x vs = true) : WrT K (He.ga K x) (vs.map (He.Dv.v K)) := by
  have := He.tupB_ok h (fun _ => none)
  rcases this with (q | ⟨o, q⟩) | q
  · cases q
  · cases q
  · obtain ⟨o, its, n, q1, q2, q3, q4, q5⟩ := q
    exact ⟨o, its, n, q1, q2, q3, q4, q5⟩
theorem sy_conT {k : Nat} {x : Str} {zs : List Str} (hx : x ≠ "__debug__") (hm : mg x = some (.ref (He.ga K x))) (h : He.tupB K x (zs.map He.Dv.str) = true) : SyL P w K mg base k x (.con (.tup (zs.map D.str))) := by
  refine ⟨by simpa using hx, .ref (He.ga K x), _, hm, rfl, fun W H => ?_⟩
  have := wrT_of h
  rw [List.map_map] at this
  rw [Rep]
  exact ⟨_, _, rfl, .inr this, Reps.map_f _ _ (fun z => .str z) zs⟩
theorem sy_conI {k : Nat} {x : Str} {i : Int} (hx : x ≠ "__debug__") (h : ∃ t, mg x = some (.int i t)) : SyL P w K mg base k x (.con (.int i)) := by
  obtain ⟨t, e⟩ := h
  exact ⟨by simpa using hx, .int i, _, e, ⟨t, rfl⟩, fun W H => .int i⟩
theorem sy_conS {k : Nat} {x z : Str} (hx : x ≠ "__debug__") (h : ∃ t, mg x = some (.str z t)) : SyL P w K mg base k x (.con (.str z)) := by
  obtain ⟨t, e⟩ := h
  exact ⟨by simpa using hx, .str z, _, e, ⟨t, rfl⟩, fun W H => .str z⟩
end
/-! the hook -/
abbrev AlE : Type := He.AlD × Bool
def obsE (n : Nat) (fa : List He.Fa) (fn : List He.DefD) (ex : PySem.W.Frag → Bool) (g : Addr → Option Obj) : AlE := (He.obsDG n fa fn g, ex (He.frG g (He.asD g n)))
def hookE (n : Nat) (fa : List He.Fa) (fn : List He.DefD) (ex : PySem.W.Frag → Bool) : PySem.W.Hook where
  α := AlE
  obs := fun s => obsE n fa fn ex s.heap.get?
  val := fun _ => (He.valD fn, true)
  says := fun _ h => ∃ K : PySem.W.Frag, K.In h ∧ He.SaysD fa fn K ∧ ex K = true
  of := fun _ _ e => ⟨_, He.frG_in, congrArg Prod.fst e, congrArg Prod.snd e⟩
  keeps := fun _ _ _ ⟨K, hK, c⟩ k => ⟨K, PySem.W.Frag.In.keeps hK k, c⟩
theorem obsE_eq {n : Nat} {fa : List He.Fa} {fn : List He.DefD} {ex : PySem.W.Frag → Bool} {g : Addr → Option Obj} {s : Shared} (h : ∀ a, g a = s.heap.get? a) : obsE n fa fn ex g = (hookE n fa fn ex).obs s := by
  have e : g = s.heap.get? := funext h
  rw [e]
  rfl
theorem ex_at {α : Type} {l : List (α → Bool)} {K : α} (h : (l.all fun f => f K) = true) (i : Nat) {f : α → Bool} (e : l[i]? = some f := by rfl) : f K = true :=
  List.all_eq_true.mp h f (List.mem_of_getElem? e)
end Z

set_option Elab.async false
set_option linter.all false
set_option maxRecDepth 100000
/-! LH: what the laws' mains share -/
namespace Z
open PySem PySem.Spec PyProof.Rows L2
@[simp] theorem w_genL {mu : Bool} {g : Gs} {as : Av} {ρ : Rho} {h : MH} {Q : D → MH → Prop} : cGenL mu g as ρ h Q ↔ as ρ h fun ds h1 => g ds h1 fun d h2 => match d with
  | .lst xs => mkL mu xs h2 Q
  | _ => False := Iff.rfl
@[simp] theorem w_setS {mu : Bool} {w : Ev} {ρ : Rho} {h : MH} {Q : D → MH → Prop} : cSetS mu w ρ h Q ↔ w ρ h fun d h1 => setS mu d h1 Q := Iff.rfl
@[simp] theorem w_setL {w : Ev} {ρ : Rho} {h : MH} {Q : D → MH → Prop} : cSetL w ρ h Q ↔ w ρ h fun d h1 => setL d h1 Q := Iff.rfl
@[simp] theorem w_rngL {mu : Bool} {w : Ev} {ρ : Rho} {h : MH} {Q : D → MH → Prop} : cRngL mu w ρ h Q ↔ w ρ h fun d h1 => ∃ n : Nat, d = .int n ∧ n ≤ 1000000 ∧ mkL mu (rngL n) h1 Q := Iff.rfl
@[simp] theorem w_rngT {w : Ev} {ρ : Rho} {h : MH} {Q : D → MH → Prop} : cRngT w ρ h Q ↔ w ρ h fun d h1 => ∃ n : Nat, d = .int n ∧ n ≤ 1000000 ∧ Q (.tup (rngL n)) h1 := Iff.rfl
def XY : List Str := ["x", "yy"]
def G_law : Gs := fun ds h K => ∃ ns : List Int, ds = [.scr ns] ∧ h = [] ∧ ∀ h', K (.bl true) h'
theorem tp_start {ns : List Int} {b : Nat} (hb : b ≤ 2 ^ 60) : Tp [.lst [.lst (ns.map .int), .int 0, .int 0]] 0 b :=
  ⟨ns, 0, 0, rfl, by rw [Nat.zero_add]; exact Nat.le_trans hb (Nat.pow_le_pow_right (by decide) (by decide))⟩
theorem tp_cons {o : O} {R : MH} {b : Nat} : Tp (o :: R) 0 b ↔ Tp [o] 0 b := by
  constructor
  · rintro ⟨ns, i, c, e, l⟩
    exact ⟨ns, i, c, by simpa using e, l⟩
  · rintro ⟨ns, i, c, e, l⟩
    exact ⟨ns, i, c, by simpa using e, l⟩
theorem eDk_60 {d : Dk} (v : Valid d) : (eDk d).ok 60 = true := ok_Dk fun f hf n hn => v.ok n (mem_names.mpr ⟨f, hf, hn⟩)
theorem eDk_ok3 {d : Dk} (v : Valid d) : (eDk d).ok 3 = true := ok_Dk fun f hf n hn => v.ok n (mem_names.mpr ⟨f, hf, hn⟩)
/-- words that are no drawn ones -/
def exOk (ex : List Str) : Bool := decide ex.Nodup && decide (okNs ex) && ex.all fun w => !WORDS.contains w
theorem ws_ex {ws ex : List Str} (W : OkWs ws) (h : exOk ex = true) : (ws ++ ex).Nodup ∧ okNs (ws ++ ex) := by
  simp only [exOk, Bool.and_eq_true, decide_eq_true_eq, List.all_eq_true] at h
  obtain ⟨⟨h1, h2⟩, h3⟩ := h
  refine ⟨?_, fun n hn => ?_⟩
  · rw [List.nodup_append]
    refine ⟨W.nd, h1, fun a ha b hb e => ?_⟩
    have q1 := W.sub a ha
    have q2 := h3 b hb
    rw [← e] at q2
    simp at q2
    exact q2 q1
  · rcases List.mem_append.mp hn with hn | hn
    · exact W.ok n hn
    · exact h2 n hn
theorem isPr.ok {ns : List Str} {p : List Dd} (h : isPr ns p) (ho : okNs ns) : ∀ a ∈ p, a.ok := fun a ha n hn => ho n ((h a ha).1 n hn)
theorem isPr.sub {ns ms : List Str} {p : List Dd} (h : isPr ns p) (hs : ∀ n ∈ ns, n ∈ ms) : isPr ms p := fun a ha => ⟨fun n hn => hs n ((h a ha).1 n hn), (h a ha).2⟩
theorem after_app (d : Dk) (p q : List Dd) : after d (p ++ q) = after (after d p) q := List.foldl_append ..
theorem valid_nil : Valid [] := ⟨⟨by simp, by simp [namesD], by simp [namesD, okNs]⟩, .nil, by simp⟩
instance (a : Dd) : Decidable a.ok := inferInstanceAs (Decidable (okNs a.names))
end Z

set_option Elab.async false
set_option linter.all false
set_option maxRecDepth 100000
/-! MG: mentioned -/
namespace Z
open PySem PySem.Spec PyProof.Rows L2
@[simp] theorem w_astarS {w : Ev} {r : Av} {ρ : Rho} {h : MH} {Q : List D → MH → Prop} : aStarS w r ρ h Q ↔ w ρ h fun d h1 => ∃ z, d = .str z ∧ z.cps.size ≤ sizeLine ∧ r ρ h1 fun ds h2 => Q (signD z ++ ds) h2 := Iff.rfl
/-! distinct items -/
theorem len_sub {α : Type} [DecidableEq α] : ∀ {l m : List α}, l.Nodup → (∀ a ∈ l, a ∈ m) → l.length ≤ m.length
  | [], _, _, _ => Nat.zero_le _
  | a :: l, m, nd, h => by
    obtain ⟨n1, n2⟩ := List.nodup_cons.mp nd
    have ha := h a (List.mem_cons_self ..)
    have := len_sub (l := l) (m := m.erase a) n2 fun b hb => (List.mem_erase_of_ne fun e => n1 (by rw [← e]; exact hb)).mpr (h b (List.mem_cons_of_mem _ hb))
    rw [List.length_erase_of_mem ha] at this
    have := List.length_pos_of_mem ha
    rw [List.length_cons]
    omega
def ddN {α : Type} [DecidableEq α] (l : List α) : List α := l.foldl (fun a n => if n ∈ a then a else a ++ [n]) []
theorem dd_fold {α : Type} [DecidableEq α] : ∀ (l a : List α), a.Nodup → (l.foldl (fun a n => if n ∈ a then a else a ++ [n]) a).Nodup ∧ ∀ n, n ∈ l.foldl (fun a n => if n ∈ a then a else a ++ [n]) a ↔ n ∈ a ∨ n ∈ l
  | [], a, h => ⟨h, fun n => by simp⟩
  | x :: l, a, h => by
    rw [List.foldl_cons]
    by_cases q : x ∈ a
    · rw [if_pos q]
      obtain ⟨h1, h2⟩ := dd_fold l a h
      refine ⟨h1, fun n => (h2 n).trans ⟨fun z => z.elim .inl fun z => .inr (List.mem_cons_of_mem _ z), fun z => z.elim .inl fun z => ?_⟩⟩
      rcases List.mem_cons.mp z with rfl | z
      · exact .inl q
      · exact .inr z
    · rw [if_neg q]
      obtain ⟨h1, h2⟩ := dd_fold l (a ++ [x]) (by
        rw [List.nodup_append]
        exact ⟨h, by simp, fun u hu v hv e => q (by rw [List.mem_singleton.mp hv] at e; rw [← e]; exact hu)⟩)
      refine ⟨h1, fun n => (h2 n).trans ?_⟩
      simp [or_assoc]
theorem dd_nd {α : Type} [DecidableEq α] (l : List α) : (ddN l).Nodup := (dd_fold l [] List.nodup_nil).1
theorem mem_dd {α : Type} [DecidableEq α] {l : List α} {n : α} : n ∈ ddN l ↔ n ∈ l := by
  rw [ddN, (dd_fold l [] List.nodup_nil).2 n]
  simp
theorem dd_addK : ∀ (l a : List Str), (l.map Sum.inr).foldl addK (a.map Sum.inr : List Key) = (l.foldl (fun a n => if n ∈ a then a else a ++ [n]) a).map Sum.inr
  | [], _ => rfl
  | x :: l, a => by
    rw [List.map_cons, List.foldl_cons, List.foldl_cons]
    have e : addK (a.map Sum.inr : List Key) (.inr x) = (if x ∈ a then a else a ++ [x]).map Sum.inr := by
      unfold addK
      by_cases q : x ∈ a
      · rw [if_pos q, if_pos (any_k.mpr (List.mem_map_of_mem q))]
      · rw [if_neg q, if_neg fun z => q (by simpa using any_k.mp z)]
        simp
    rw [e]
    exact dd_addK l _
theorem inr_perm {l : List Str} {ks : List Key} (h : ks.Perm (l.map Sum.inr)) : ∃ m : List Str, ks = m.map Sum.inr ∧ m.Perm l := by
  have e : ∀ ks : List Key, (∀ k ∈ ks, ∃ n, k = Sum.inr n) → ks = (ks.filterMap Sum.getRight?).map Sum.inr := by
    intro ks
    induction ks with
    | nil => intro _; rfl
    | cons k ks ih =>
      intro q
      obtain ⟨n, rfl⟩ := q k (List.mem_cons_self ..)
      have := ih fun k hk => q k (List.mem_cons_of_mem _ hk)
      simp only [List.filterMap_cons, Sum.getRight?_inr, List.map_cons]
      rw [← this]
  refine ⟨ks.filterMap Sum.getRight?, e ks fun k hk => ?_, ?_⟩
  · obtain ⟨n, _, rfl⟩ := List.mem_map.mp (h.mem_iff.mp hk)
    exact ⟨n, rfl⟩
  · have := h.filterMap Sum.getRight?
    rw [List.filterMap_map] at this
    simpa [Function.comp_def] using this
theorem sortK_S (m : List Str) : (sortK (m.map Sum.inr)).map kyD = (srt eS m).map eS := by
  have e : sortK (m.map Sum.inr) = (srt eS m).map Sum.inr := (List.map_mergeSort (r := leE eS) (s := PySem.W.dataLe false kPd) (f := Sum.inr) (l := m) fun a _ b _ => rfl).symm
  rw [e, List.map_map]
  rfl
/-- sorted(set(..)) of texts -/
theorem w_setS_S {l : List Str} {mu : Bool} {h1 : MH} {K : D → MH → Prop} {d : D} (e : lstOf h1 d = some (l.map eS)) (hl : l.length + 1 < 4096) (ho : okNs l)
    (k : mkL mu ((srt eS (ddN l)).map eS) h1 K) : setS mu d h1 K := by
  refine ⟨l.map Sum.inr, ?_, ?_, ?_, fun ks' hp => ?_⟩
  · rw [e, List.map_map]
    rfl
  · rw [List.length_map]
    exact hl
  · have := dd_addK l []
    rw [List.map_nil] at this
    rw [this]
    intro x hx y hy
    simp only [List.map_map, List.mem_map] at hx hy
    obtain ⟨a, _, rfl⟩ := hx
    obtain ⟨b, _, rfl⟩ := hy
    simp [kPd, kyD, D.pd, PySem.W.alike]
  · have := dd_addK l []
    rw [List.map_nil] at this
    rw [this] at hp
    obtain ⟨m, rfl, pm⟩ := inr_perm hp
    rw [sortK_S, nice_S.srt_perm pm fun a ha => ho a (mem_dd.mp (pm.mem_iff.mp ha))]
    exact k
/-- the names in some programs, ascending -/
def allN (ps : List (List Dd)) : List Str := ps.flatten.flatMap Dd.names
def mentN (ps : List (List Dd)) : List Str := srt eS (ddN (allN ps))
theorem mem_allN {ps : List (List Dd)} {n : Str} : n ∈ allN ps ↔ ∃ p ∈ ps, ∃ w ∈ p, n ∈ w.names := by
  unfold allN
  rw [List.mem_flatMap]
  constructor
  · rintro ⟨w, hw, hn⟩
    obtain ⟨p, hp, hw⟩ := List.mem_flatten.mp hw
    exact ⟨p, hp, w, hw, hn⟩
  · rintro ⟨p, hp, w, hw, hn⟩
    exact ⟨w, List.mem_flatten.mpr ⟨p, hp, hw⟩, hn⟩
theorem mem_mentN {ps : List (List Dd)} {n : Str} : n ∈ mentN ps ↔ ∃ p ∈ ps, ∃ w ∈ p, n ∈ w.names := by
  rw [mentN, mem_srt, mem_dd, mem_allN]
theorem mentN_nd (ps : List (List Dd)) : (mentN ps).Nodup := (srt_perm eS _).nodup_iff.mpr (dd_nd _)
theorem mentN_pw (ps : List (List Dd)) : (mentN ps).Pairwise fun a b => leE eS a b = true := srt_pw eS _
theorem mentN_ok {ps : List (List Dd)} (h : ∀ p ∈ ps, ∀ w ∈ p, w.ok) : okNs (mentN ps) := fun n hn => by
  obtain ⟨p, hp, w, hw, hn⟩ := mem_mentN.mp hn
  exact h p hp w hw n hn
theorem mentN_len {ps : List (List Dd)} {M : List Str} (h : ∀ p ∈ ps, isPr M p) (hm : M.Nodup) : (mentN ps).length ≤ M.length := by
  refine len_sub (mentN_nd ps) fun n hn => ?_
  obtain ⟨p, hp, w, hw, hn⟩ := mem_mentN.mp hn
  exact (h p hp w hw).1 n hn
/-- any ascending row of the same distinct names -/
theorem mentN_uniq {ps : List (List Dd)} {m : List Str} (hm : m.Pairwise fun a b => leE eS a b = true) (nd : m.Nodup) (ho : okNs m) (h : ∀ n, n ∈ m ↔ n ∈ mentN ps) : m = mentN ps :=
  nice_S.uniq hm (mentN_pw ps) (perm_of_mem nd (mentN_nd ps) h) ho
/-- the last names -/
def Dd.snd : Dd → Option Str
  | .lk _ b => some b
  | .mv _ b => some b
  | .cp _ b => some b
  | .rn _ b => some b
  | _ => none
def Dd.word : Dd → Str
  | .wr _ _ => "write" | .sv _ _ => "save" | .lk _ _ => "link" | .mv _ _ => "move" | .cp _ _ => "copy" | .rn _ _ => "renew" | .rm _ => "remove"
theorem dd_names (w : Dd) : w.names = w.fst :: w.snd.toList := by cases w <;> rfl
theorem eDd_0 (w : Dd) : ∃ r, eDd w = .tup (.str w.word :: .str w.fst :: r) ∧ ∀ b, w.snd = some b → r = [.str b] := by
  cases w <;> exact ⟨_, rfl, fun b e => by cases e <;> rfl⟩
theorem word_two (w : Dd) : (w.word ∈ (["link", "move", "copy", "renew"] : List Str)) ↔ w.snd.isSome = true := by
  cases w <;> simp [Dd.word, Dd.snd] <;> decide +kernel
theorem word_ok (w : Dd) : okN w.word := by cases w with
  | wr a c => exact (by decide +kernel : okN "write")
  | sv a c => exact (by decide +kernel : okN "save")
  | lk a c => exact (by decide +kernel : okN "link")
  | mv a c => exact (by decide +kernel : okN "move")
  | cp a c => exact (by decide +kernel : okN "copy")
  | rn a c => exact (by decide +kernel : okN "renew")
  | rm a => exact (by decide +kernel : okN "remove")
def G_mentioned : Gs := fun ds h K => ∃ ps : List (List Dd), ds = ps.map eP ∧ ps.length ≤ 10 ∧ (∀ p ∈ ps, p.length ≤ 100 ∧ ∀ w ∈ p, w.ok) ∧ K (eNs (mentN ps)) h
theorem flat_len {α : Type} {m n : Nat} : ∀ {ps : List (List α)}, ps.length ≤ m → (∀ p ∈ ps, p.length ≤ n) → ps.flatten.length ≤ m * n
  | [], _, _ => by simp
  | p :: ps, h, q => by
    cases m with
    | zero => simp at h
    | succ m =>
      have := flat_len (m := m) (ps := ps) (by simpa using h) fun p hp => q p (List.mem_cons_of_mem _ hp)
      have := q p (List.mem_cons_self ..)
      rw [List.flatten_cons, List.length_append, Nat.succ_mul]
      omega
theorem p_mentioned {ds : List D} {h : MH} {K : D → MH → Prop} (g : G_mentioned ds h K) : starG 5 s_mentioned ds h K := by
  obtain ⟨ps, rfl, hl, hp, k⟩ := g
  have sl : 1000000 ≤ sizeLine := by decide
  have hf := flat_len hl fun p q => (hp p q).1
  refine ⟨by simp; omega, rfl, ?_⟩
  have ow : ∀ w ∈ ps.flatten, w.ok := fun w hw => by
    obtain ⟨p, q, hw⟩ := List.mem_flatten.mp hw
    exact (hp p q).2 w hw
  have e0 : (ps.flatMap fun p : List Dd => p.map eDd) = ps.flatten.map eDd := by rw [List.flatMap, List.map_flatten]
  simp [s_mentioned, List.replicate, wipeR]
  refine turns_flat (enc := eP) (fun p : List Dd => p.map eDd) trivial ps [] ?_ (fun p hpp acc K' hl k' => ?_) ?_
  · rw [e0]
    simp only [List.length_nil, List.length_map, Nat.zero_add]
    omega
  · simp
    refine turns_all (fun w : Dd => eDd w) trivial p acc (by simpa using hl) (fun w hw acc K2 hl2 k2 => ?_) k'
    simp [hl2]
    exact k2
  · rw [e0]
    generalize hW : ps.flatten = ws at *
    simp
    refine turns_all (fun w : Dd => eS w.fst) trivial ws [] (by simp; omega) (fun w hw acc K2 hl2 k2 => ?_) ?_
    · obtain ⟨r, e, _⟩ := eDd_0 w
      simp [e, hl2]
      exact k2
    · simp
      refine turns_filter (fun w : Dd => w.snd.isSome) (fun w : Dd => eS (w.snd.getD default)) trivial ws [] (by simp; omega) (fun w hw acc K2 hl2 k2 k3 => ?_) ?_
      · obtain ⟨r, e, e2⟩ := eDd_0 w
        simp [e]
        show wIn false h (eS w.word) (D.tup ((["link", "move", "copy", "renew"] : List Str).map eS)) _
        refine w_inE (enc := eS) eS_inj smp_S (fun z e => by cases e) rfl (ok_S (word_ok w)) (fun b hb => ?_) ?_
        · refine ok_S ?_
          revert b
          decide +kernel
        · have ew := word_two w
          cases es : w.snd with
          | none =>
            rw [es] at ew
            have : decide (w.word ∈ (["link", "move", "copy", "renew"] : List Str)) = false := by simpa using ew
            rw [this]
            exact k3 (by rw [es]; rfl)
          | some b =>
            rw [es] at ew
            have : decide (w.word ∈ (["link", "move", "copy", "renew"] : List Str)) = true := by simpa using ew
            rw [this]
            have k2 := k2 (by rw [es]; rfl)
            rw [es] at k2
            simp [e2 b es, hl2]
            exact k2
      · simp
        have e1 : (ws.map fun w : Dd => eS w.fst) ++ ((ws.filter fun w : Dd => w.snd.isSome).map fun w : Dd => eS (w.snd.getD default)) = (ws.map Dd.fst ++ (ws.filter fun w : Dd => w.snd.isSome).map fun w : Dd => w.snd.getD default).map eS := by
          rw [List.map_append, List.map_map, List.map_map]
          rfl
        have hfl : (ws.filter fun w : Dd => w.snd.isSome).length ≤ ws.length := List.length_filter_le ..
        have mem : ∀ n, n ∈ (ws.map Dd.fst ++ (ws.filter fun w : Dd => w.snd.isSome).map fun w : Dd => w.snd.getD default) ↔ n ∈ mentN ps := fun n => by
          rw [mem_mentN, List.mem_append, List.mem_map, List.mem_map]
          constructor
          · rintro (⟨w, hw, rfl⟩ | ⟨w, hw, rfl⟩)
            · rw [← hW] at hw
              obtain ⟨p, hpp, hw⟩ := List.mem_flatten.mp hw
              exact ⟨p, hpp, w, hw, by rw [dd_names]; simp⟩
            · obtain ⟨hw, h2⟩ := List.mem_filter.mp hw
              rw [← hW] at hw
              obtain ⟨p, hpp, hw⟩ := List.mem_flatten.mp hw
              obtain ⟨b, e⟩ := Option.isSome_iff_exists.mp h2
              exact ⟨p, hpp, w, hw, by rw [dd_names, e]; simp⟩
          · rintro ⟨p, hpp, w, hw, hn⟩
            have hw : w ∈ ws := by rw [← hW]; exact List.mem_flatten.mpr ⟨p, hpp, hw⟩
            rw [dd_names] at hn
            rcases List.mem_cons.mp hn with rfl | hn
            · exact .inl ⟨w, hw, rfl⟩
            · cases e : w.snd with
              | none => rw [e] at hn; cases hn
              | some b =>
                rw [e] at hn
                have : n = b := by simpa using hn
                exact .inr ⟨w, List.mem_filter.mpr ⟨hw, by rw [e]; rfl⟩, by rw [e]; exact this.symm⟩
        rw [e1]
        generalize hL : (ws.map Dd.fst ++ (ws.filter fun w : Dd => w.snd.isSome).map fun w : Dd => w.snd.getD default) = L at mem
        have hLl : L.length ≤ 2000 := by
          rw [← hL]
          simp
          omega
        have oM : okNs (mentN ps) := mentN_ok fun p q => (hp p q).2
        have oL : okNs L := fun n hn => oM n ((mem n).mp hn)
        refine ⟨by rw [← hL] at hLl; simp at hLl ⊢; omega, ?_⟩
        refine w_setS_S (l := L) rfl (by omega) oL ?_
        have : srt eS (ddN L) = mentN ps := mentN_uniq (srt_pw eS _) ((srt_perm eS _).nodup_iff.mpr (dd_nd L)) (fun n hn => oL n (mem_dd.mp (mem_srt.mp hn))) fun n => by rw [mem_srt, mem_dd, mem]
        rw [this]
        simp
        exact gc_same k
end Z

set_option Elab.async false
set_option linter.all false
set_option maxRecDepth 100000
/-! MH: the law's mentioned names; marks -/
namespace Z
open PySem PySem.Spec PyProof.Rows L2
def nmK (l : List Str) : List (Key × D) := l.map fun n => (Sum.inr n, D.bl true)
def nmA (l : List Str) (n : Str) : List Str := if n ∈ l then l else l ++ [n]
theorem nm_put (l : List Str) (n : Str) : putKV (nmK l) (.inr n) (.bl true) = nmK (nmA l n) := by
  unfold putKV nmA
  by_cases q : n ∈ l
  · rw [if_pos q, if_pos]
    · unfold nmK
      rw [List.map_map]
      refine List.map_congr_left fun m _ => ?_
      dsimp only [Function.comp_apply]
      split <;> rfl
    · rw [List.any_eq_true]
      exact ⟨_, List.mem_map.mpr ⟨n, q, rfl⟩, by simp⟩
  · rw [if_neg q, if_neg]
    · simp [nmK]
    · rw [List.any_eq_true]
      rintro ⟨x, hx, e⟩
      obtain ⟨m, hm, rfl⟩ := List.mem_map.mp hx
      have e : (Sum.inr m : Key) = .inr n := of_decide_eq_true e
      injection e with e
      rw [e] at hm
      exact q hm
theorem nmA_len (l : List Str) (n : Str) : (nmA l n).length ≤ l.length + 1 := by
  unfold nmA
  split <;> simp
theorem dd_app {α : Type} [DecidableEq α] (l m : List α) : ddN (l ++ m) = m.foldl (fun a n => if n ∈ a then a else a ++ [n]) (ddN l) := List.foldl_append ..
theorem word_one (w : Dd) : (w.word ∈ (["write", "save", "remove"] : List Str)) ↔ w.snd.isSome = false := by
  cases w <;> simp [Dd.word, Dd.snd] <;> decide +kernel
def G_L_mentioned : Gs := fun ds h K => ∃ p : List Dd, ds = [eP p] ∧ p.length ≤ 100 ∧ (∀ w ∈ p, w.ok) ∧ (mentN [p]).length < 64 ∧ K (.lst ((mentN [p]).map eS)) h
theorem p_L_mentioned {ds : List D} {h : MH} {K : D → MH → Prop} (g : G_L_mentioned ds h K) : bodyG 3 1 s_L_mentioned ds h K := by
  obtain ⟨p, rfl, hl, hp, hn, k⟩ := g
  refine ⟨rfl, ?_⟩
  have sl : 1000000 ≤ sizeLine := by decide
  simp [s_L_mentioned, List.replicate]
  refine forL_pre (enc := eDd) (fun q ρ h' => (∃ x, ρ = [some (eP p), some (.ref h.length), x]) ∧ h' = h ++ [.dic (nmK (ddN (q.flatMap Dd.names)))] ∧ (ddN (q.flatMap Dd.names)).length ≤ 2 * q.length) p _ _ ⟨⟨_, rfl⟩, rfl, by simp [ddN]⟩ (fun _ _ _ _ => trivial) (fun q w r e ρ' h' K' hP k' => ?_) fun ρ' h' hP => ?_
  · obtain ⟨⟨x, rfl⟩, rfl, hq⟩ := hP
    have hql : q.length < p.length := by
      rw [e]
      simp
    obtain ⟨rr, ew, e2⟩ := eDd_0 w
    generalize hA : ddN (q.flatMap Dd.names) = A at *
    have eN : ∀ _ : Nat, (q ++ [w]).flatMap Dd.names = q.flatMap Dd.names ++ w.names := fun _ => by simp
    have eF : ddN ((q ++ [w]).flatMap Dd.names) = w.names.foldl nmA A := by
      rw [eN 0, dd_app, hA]
      rfl
    have a1 := nmA_len A w.fst
    simp [ew]
    refine w_setD (kvs := nmK A) (k := .inr w.fst) get_new rfl (by simp [nmK]; omega) ?_
    rw [nm_put, set_new]
    show wIn true _ (eS w.word) (D.tup ((["write", "save", "remove"] : List Str).map eS)) _
    refine w_inE (enc := eS) eS_inj smp_S (fun z e => by cases e) rfl (ok_S (word_ok w)) (fun b hb => ?_) ?_
    · refine ok_S ?_
      revert b
      decide +kernel
    · have ewd := word_one w
      cases es : w.snd with
      | none =>
        rw [es] at ewd
        have t : decide (w.word ∈ (["write", "save", "remove"] : List Str)) = true := by simpa using ewd
        rw [t]
        simp
        refine k' _ _ ⟨⟨_, rfl⟩, ?_, ?_⟩
        · rw [eF, dd_names, es]
          rfl
        · rw [eF, dd_names, es]
          simp
          omega
      | some b =>
        rw [es] at ewd
        have t : decide (w.word ∈ (["write", "save", "remove"] : List Str)) = false := by simpa using ewd
        rw [t]
        have a2 := nmA_len (nmA A w.fst) b
        rw [e2 b es]
        simp
        refine w_setD (kvs := nmK (nmA A w.fst)) (k := .inr b) get_new rfl (by simp [nmK]; omega) ?_
        rw [nm_put, set_new]
        refine k' _ _ ⟨⟨_, rfl⟩, ?_, ?_⟩
        · rw [eF, dd_names, es]
          rfl
        · rw [eF, dd_names, es]
          simp
          omega
  · obtain ⟨⟨x, rfl⟩, rfl, hq⟩ := hP
    have hall : allN [p] = p.flatMap Dd.names := by simp [allN]
    have hlen : (ddN (p.flatMap Dd.names)).length = (mentN [p]).length := by rw [mentN, srt_len, hall]
    simp
    refine .inr ⟨_, rfl, nmK (ddN (p.flatMap Dd.names)), ddN (p.flatMap Dd.names), ?_, by simp [nmK, Function.comp_def], by omega, fun ys hy hs => ?_⟩
    · simp [dicOf]
    · have o : okNs (ddN (p.flatMap Dd.names)) := fun n hn => by
        have hn := mem_dd.mp hn
        obtain ⟨w, hw, hn⟩ := List.mem_flatMap.mp hn
        exact hp w hw n hn
      have e : ys = mentN [p] := by rw [sortedS_srt hy hs o, mentN, hall]
      rw [e]
      simp
      refine gc_new ?_ k
      rw [D.bel]
      exact bels_smp (smps_map smp_S _)
end Z

set_option Elab.async false
set_option linter.all false
set_option maxRecDepth 100000
/-! NA: what a deed does to what is shown and to sharing; pulling back along names -/
namespace Z
open PySem PySem.Spec PyProof.Rows L2
section
variable {d : Dk}
theorem same_symm (a b : Str) : areSame d a b = areSame d b a := by
  have h : ∀ a b, areSame d a b = true → areSame d b a = true := fun a b q => by
    obtain ⟨f, hf, h1, h2⟩ := same_iff.mp q
    exact same_iff.mpr ⟨f, hf, h2, h1⟩
  cases q : areSame d a b with
  | true => exact (h a b q).symm
  | false =>
    cases q2 : areSame d b a with
    | false => rfl
    | true => rw [h b a q2] at q; cases q
theorem same_there (v : Valid d) {a b : Str} (h : areSame d a b = true) : shown d a = shown d b ∧ ∃ c, shown d a = some c := by
  obtain ⟨f, hf, h1, h2⟩ := same_iff.mp h
  have e1 := (shown_iff v.nd).mpr ⟨f, hf, h1, rfl⟩
  have e2 := (shown_iff v.nd).mpr ⟨f, hf, h2, rfl⟩
  exact ⟨e1.trans e2.symm, _, e1⟩
theorem same_refl (v : Valid d) (a : Str) : areSame d a a = (shown d a).isSome := by
  cases e : shown d a with
  | none =>
    rw [Option.isSome_none, Bool.eq_false_iff]
    intro q
    obtain ⟨_, c, e2⟩ := same_there v q
    rw [e] at e2
    cases e2
  | some c =>
    obtain ⟨f, hf, h1, _⟩ := (shown_iff v.nd).mp e
    exact same_iff.mpr ⟨f, hf, h1, h1⟩
theorem same_gone (v : Valid d) {a b : Str} (h : shown d a = none) : areSame d a b = false := by
  rw [Bool.eq_false_iff]
  intro q
  obtain ⟨_, c, e⟩ := same_there v q
  rw [h] at e
  cases e
theorem same_trans (v : Valid d) {a b c : Str} (h1 : areSame d a b = true) (h2 : areSame d b c = true) : areSame d a c = true := by
  obtain ⟨f, hf, a1, a2⟩ := same_iff.mp h1
  obtain ⟨g, hg, b1, b2⟩ := same_iff.mp h2
  cases nd_one v.nd hf hg a2 b1
  exact same_iff.mpr ⟨f, hf, a1, b2⟩
end
/-- what is shown behind a deed; what shares -/
def dS (w : Dd) (S : Str → Option Int) (E : Str → Str → Bool) (n : Str) : Option Int := match w with
  | .wr a c => if n = a ∨ E a n = true then some c else S n
  | .sv a c => if n = a then some c else S n
  | .rm a => if n = a then none else S n
  | .lk a b => match S a with
    | none => S n
    | some c => if E a b = true then S n else if n = b then some c else S n
  | .mv a b => match S a with
    | none => S n
    | some c => if E a b = true then S n else if n = a then none else if n = b then some c else S n
  | .cp a b => match S a with
    | none => S n
    | some c => if n = b ∨ E b n = true then some c else S n
  | .rn a b => match S a with
    | none => S n
    | some c => if n = b then some c else S n
def sub1 (a b z : Str) : Str := if z = b then a else z
def alone (a : Str) (E : Str → Str → Bool) (x y : Str) : Bool := (!decide (x = a) && !decide (y = a) && E x y) || (decide (x = a) && decide (y = a))
def dE (w : Dd) (S : Str → Option Int) (E : Str → Str → Bool) (x y : Str) : Bool := match w with
  | .wr a _ => E x y || (decide (x = a) && decide (y = a))
  | .sv a _ => alone a E x y
  | .rm a => !decide (x = a) && !decide (y = a) && E x y
  | .lk a b => match S a with
    | none => E x y
    | some _ => if E a b = true then E x y else E (sub1 a b x) (sub1 a b y)
  | .mv a b => match S a with
    | none => E x y
    | some _ => if E a b = true then E x y else !decide (x = a) && !decide (y = a) && E (sub1 a b x) (sub1 a b y)
  | .cp a b => match S a with
    | none => E x y
    | some _ => E x y || (decide (x = b) && decide (y = b))
  | .rn a b => match S a with
    | none => E x y
    | some _ => alone b E x y
theorem written_E {d : Dk} (v : Valid d) (a : Str) (c : Int) (x y : Str) : areSame (written d a c) x y = (areSame d x y || (decide (x = a) && decide (y = a))) := by
  rw [same_written v]
  split
  · rename_i h
    by_cases e : x = a ∧ y = a
    · rw [e.1, e.2]
      have : areSame d a a = true := by
        rw [same_refl v]
        cases q : shown d a with
        | none => exact absurd h (shown_none.mp q)
        | some _ => rfl
      rw [this]
      rfl
    · have : (decide (x = a) && decide (y = a)) = false := by
        rw [Bool.and_eq_false_iff]
        by_cases e1 : x = a
        · exact .inr (decide_eq_false fun q => e ⟨e1, q⟩)
        · exact .inl (decide_eq_false e1)
      rw [this, Bool.or_false]
  · rfl
theorem done_st {d : Dk} (v : Valid d) {w : Dd} (hw : w.ok) : (∀ n, shown (done d w) n = dS w (shown d) (areSame d) n) ∧ ∀ x y, areSame (done d w) x y = dE w (shown d) (areSame d) x y := by
  cases w with
  | wr a c =>
    have ha := hw a (by simp [Dd.names])
    exact ⟨fun n => shown_written v ha c n, fun x y => written_E v a c x y⟩
  | sv a c =>
    have ha := hw a (by simp [Dd.names])
    exact ⟨fun n => shown_withFile v ha c n, fun x y => same_withFile c x y⟩
  | rm a =>
    simp only [done, dS, dE]
    cases e : shown d a with
    | none =>
      simp only []
      refine ⟨fun n => ?_, fun x y => ?_⟩
      · by_cases q : n = a
        · rw [if_pos q, q, e]
        · rw [if_neg q]
      · by_cases q : x = a
        · rw [q, same_gone v e]
          simp
        · by_cases q2 : y = a
          · rw [q2, same_symm, same_gone v e]
            simp
          · simp [q, q2]
    | some c =>
      simp only []
      exact ⟨fun n => by rw [shown_srt (v.without a).1, shown_without v.toFair], fun x y => by rw [same_srt, same_without]⟩
  | lk a b =>
    have hb := hw b (by simp [Dd.names])
    simp only [done, two, dS, dE]
    cases e : shown d a with
    | none => exact ⟨fun n => rfl, fun x y => rfl⟩
    | some c =>
      simp only [pairDone]
      simp
      by_cases h : areSame d a b = true
      · simp only [h, if_true]
        exact ⟨fun n => shown_srt v.toFair n, fun x y => same_srt x y⟩
      · have ne : a ≠ b := fun q => h (by rw [← q, same_refl v, e]; rfl)
        have hn : a ∈ namesD d := by
          refine Classical.byContradiction fun q => ?_
          rw [shown_none.mpr q] at e
          cases e
        simp only [h, Bool.false_eq_true, if_false]
        have vj := Valid.joined v hb hn ne
        rw [srt_of_pw vj.srt]
        refine ⟨fun n => ?_, fun x y => same_joined v hb hn ne x y⟩
        rw [shown_joined v hb hn ne, e]
  | mv a b =>
    have hb := hw b (by simp [Dd.names])
    simp only [done, two, dS, dE]
    cases e : shown d a with
    | none => exact ⟨fun n => rfl, fun x y => rfl⟩
    | some c =>
      simp only [pairDone]
      simp
      by_cases h : areSame d a b = true
      · simp only [h, if_true]
        exact ⟨fun n => shown_srt v.toFair n, fun x y => by rw [same_srt]⟩
      · have ne : a ≠ b := fun q => h (by rw [← q, same_refl v, e]; rfl)
        have hn : a ∈ namesD d := by
          refine Classical.byContradiction fun q => ?_
          rw [shown_none.mpr q] at e
          cases e
        simp only [h, Bool.false_eq_true, if_false]
        have vj := Valid.joined v hb hn ne
        refine ⟨fun n => ?_, fun x y => ?_⟩
        · rw [shown_srt (vj.without a).1, shown_without vj.toFair, shown_joined v hb hn ne, e]
        · rw [same_srt, same_without, same_joined v hb hn ne]
          simp [sub1]
  | cp a b =>
    have hb := hw b (by simp [Dd.names])
    simp only [done, two, dS, dE]
    cases e : shown d a with
    | none => exact ⟨fun n => rfl, fun x y => rfl⟩
    | some c =>
      simp only [pairDone]
      simp
      rw [srt_of_pw (valid_written v hb c).srt]
      refine ⟨fun n => shown_written v hb c n, fun x y => ?_⟩
      rw [written_E v]
  | rn a b =>
    have hb := hw b (by simp [Dd.names])
    simp only [done, two, dS, dE]
    cases e : shown d a with
    | none => exact ⟨fun n => rfl, fun x y => rfl⟩
    | some c =>
      simp only [pairDone]
      simp
      rw [srt_of_pw (Valid.withFile v hb c).srt]
      exact ⟨fun n => shown_withFile v hb c n, fun x y => same_withFile c x y⟩
end Z

set_option Elab.async false
set_option linter.all false
set_option maxRecDepth 100000
/-! NB: pulling a disk back along names; programs go along -/
namespace Z
open PySem PySem.Spec PyProof.Rows L2
/-- d is o seen through f (names of d to names of o) and con (contents of o to contents of d); what f leaves out stands for itself -/
structure Pb (f : Str → Option Str) (con : Int → Int) (s0 : Str → Option Int) (e0 : Str → Str → Bool) (o d : Dk) : Prop where
  sh : ∀ x p, f x = some p → shown d x = (shown o p).map con
  sm : ∀ x y p q, f x = some p → f y = some q → areSame d x y = areSame o p q
  n0 : ∀ x, f x = none → shown d x = s0 x
  m0 : ∀ x y, f x = none → areSame d x y = e0 x y
  ex : ∀ x y, f x = none → f y ≠ none → e0 x y = false
structure MpN (f : Str → Option Str) (a a' : Str) : Prop where
  to : f a' = some a
  inj : ∀ x, f x = some a → x = a'
inductive Mp (f : Str → Option Str) (con : Int → Int) : Dd → Dd → Prop where
  | wr {a a' c} (h : MpN f a a') : Mp f con (.wr a c) (.wr a' (con c))
  | sv {a a' c} (h : MpN f a a') : Mp f con (.sv a c) (.sv a' (con c))
  | rm {a a'} (h : MpN f a a') : Mp f con (.rm a) (.rm a')
  | lk {a a' b b'} (h : MpN f a a') (h2 : MpN f b b') : Mp f con (.lk a b) (.lk a' b')
  | mv {a a' b b'} (h : MpN f a a') (h2 : MpN f b b') : Mp f con (.mv a b) (.mv a' b')
  | cp {a a' b b'} (h : MpN f a a') (h2 : MpN f b b') : Mp f con (.cp a b) (.cp a' b')
  | rn {a a' b b'} (h : MpN f a a') (h2 : MpN f b b') : Mp f con (.rn a b) (.rn a' b')
section
variable {f : Str → Option Str} {con : Int → Int} {s0 : Str → Option Int} {e0 : Str → Str → Bool} {o d : Dk}
theorem MpN.eq {a a' x p : Str} (h : MpN f a a') (e : f x = some p) : (x = a') = (p = a) := propext ⟨fun q => by
    rw [q, h.to] at e
    exact (Option.some.inj e).symm, fun q => h.inj x (by rw [e, q])⟩
theorem MpN.ne {a a' x : Str} (h : MpN f a a') (e : f x = none) : x ≠ a' := fun q => by
  rw [q, h.to] at e
  cases e
theorem MpN.sub {a a' b b' x p : Str} (h : MpN f a a') (h2 : MpN f b b') (e : f x = some p) : f (sub1 a' b' x) = some (sub1 a b p) := by
  unfold sub1
  simp only [h2.eq e]
  split
  · exact h.to
  · exact e
section
variable (P : Pb f con s0 e0 o d)
include P
theorem Pb.out {a a' x : Str} (h : MpN f a a') (e : f x = none) : areSame d x a' = false ∧ e0 x a' = false := by
  have := P.ex x a' e (by rw [h.to]; simp)
  exact ⟨by rw [P.m0 x a' e, this], this⟩
theorem Pb.wr {a a' : Str} (h : MpN f a a') (c : Int) {o' d' : Dk} (h1 : ∀ n, shown o' n = if n = a ∨ areSame o a n = true then some c else shown o n) (h2 : ∀ n, shown d' n = if n = a' ∨ areSame d a' n = true then some (con c) else shown d n)
    (h3 : ∀ x y, areSame o' x y = (areSame o x y || (decide (x = a) && decide (y = a)))) (h4 : ∀ x y, areSame d' x y = (areSame d x y || (decide (x = a') && decide (y = a')))) : Pb f con s0 e0 o' d' := by
  refine ⟨fun x p e => ?_, fun x y p q e1 e2 => ?_, fun x e => ?_, fun x y e => ?_, P.ex⟩
  · rw [h1, h2, P.sm a' x a p h.to e, P.sh x p e]
    simp only [h.eq e]
    split <;> rfl
  · rw [h3, h4, P.sm x y p q e1 e2]
    simp only [h.eq e1, h.eq e2]
  · rw [h2, if_neg, P.n0 x e]
    rintro (q | q)
    · exact h.ne e q
    · rw [same_symm, (P.out h e).1] at q
      cases q
  · rw [h4, P.m0 x y e]
    simp [h.ne e]
theorem Pb.sv {a a' : Str} (h : MpN f a a') (c : Int) {o' d' : Dk} (h1 : ∀ n, shown o' n = if n = a then some c else shown o n) (h2 : ∀ n, shown d' n = if n = a' then some (con c) else shown d n)
    (h3 : ∀ x y, areSame o' x y = alone a (areSame o) x y) (h4 : ∀ x y, areSame d' x y = alone a' (areSame d) x y) : Pb f con s0 e0 o' d' := by
  refine ⟨fun x p e => ?_, fun x y p q e1 e2 => ?_, fun x e => ?_, fun x y e => ?_, P.ex⟩
  · rw [h1, h2, P.sh x p e]
    simp only [h.eq e]
    split <;> rfl
  · rw [h3, h4]
    unfold alone
    rw [P.sm x y p q e1 e2]
    simp only [h.eq e1, h.eq e2]
  · rw [h2, if_neg (h.ne e), P.n0 x e]
  · rw [h4]
    unfold alone
    rw [P.m0 x y e]
    by_cases q : y = a'
    · rw [q, (P.out h e).2]
      simp [h.ne e]
    · simp [h.ne e, q]
theorem Pb.same {o' d' : Dk} (h1 : ∀ n, shown o' n = shown o n) (h2 : ∀ n, shown d' n = shown d n) (h3 : ∀ x y, areSame o' x y = areSame o x y) (h4 : ∀ x y, areSame d' x y = areSame d x y) : Pb f con s0 e0 o' d' :=
  ⟨fun x p e => by rw [h1, h2, P.sh x p e], fun x y p q e1 e2 => by rw [h3, h4, P.sm x y p q e1 e2], fun x e => by rw [h2, P.n0 x e], fun x y e => by rw [h4, P.m0 x y e], P.ex⟩
theorem Pb.done {w w' : Dd} (m : Mp f con w w') (vo : Valid o) (vd : Valid d) (ho : w.ok) (hd : w'.ok) : Pb f con s0 e0 (done o w) (done d w') := by
  obtain ⟨a1, a2⟩ := done_st vo ho
  obtain ⟨b1, b2⟩ := done_st vd hd
  cases m with
  | wr h => exact P.wr h _ a1 b1 a2 b2
  | sv h => exact P.sv h _ a1 b1 a2 b2
  | @rm a a' h =>
    refine ⟨fun x p e => ?_, fun x y p q e1 e2 => ?_, fun x e => ?_, fun x y e => ?_, P.ex⟩
    · rw [a1, b1]
      simp only [dS, h.eq e, P.sh x p e]
      split <;> rfl
    · rw [a2, b2]
      simp only [dE, h.eq e1, h.eq e2, P.sm x y p q e1 e2]
    · rw [b1]
      simp only [dS]
      rw [if_neg (h.ne e), P.n0 x e]
    · rw [b2]
      simp only [dE]
      rw [P.m0 x y e]
      by_cases q : y = a'
      · rw [q, (P.out h e).2]
        simp
      · simp [h.ne e, q]
  | @lk a a' b b' h h2 =>
    have hs := P.sh a' a h.to
    have he := P.sm a' b' a b h.to h2.to
    cases es : shown o a with
    | none =>
      rw [es] at hs
      refine P.same (fun n => ?_) (fun n => ?_) (fun x y => ?_) fun x y => ?_
      · rw [a1]; simp only [dS, es]
      · rw [b1]; simp only [dS, hs, Option.map_none]
      · rw [a2]; simp only [dE, es]
      · rw [b2]; simp only [dE, hs, Option.map_none]
    | some c =>
      rw [es] at hs
      by_cases hab : areSame o a b = true
      · have hab2 : areSame d a' b' = true := by rw [he]; exact hab
        refine P.same (fun n => ?_) (fun n => ?_) (fun x y => ?_) fun x y => ?_
        · rw [a1]; simp only [dS, es, hab, if_true]
        · rw [b1]; simp only [dS, hs, Option.map_some, hab2, if_true]
        · rw [a2]; simp only [dE, es, hab, if_true]
        · rw [b2]; simp only [dE, hs, Option.map_some, hab2, if_true]
      · have hab2 : ¬ areSame d a' b' = true := by rw [he]; exact hab
        refine ⟨fun x p e => ?_, fun x y p q e1 e2 => ?_, fun x e => ?_, fun x y e => ?_, P.ex⟩
        · rw [a1, b1]
          simp only [dS, es, hs, Option.map_some, if_neg hab, if_neg hab2, h2.eq e, P.sh x p e]
          split <;> rfl
        · rw [a2, b2]
          simp only [dE, es, hs, Option.map_some, if_neg hab, if_neg hab2]
          exact P.sm _ _ _ _ (h.sub h2 e1) (h.sub h2 e2)
        · rw [b1]
          simp only [dS, hs, Option.map_some, if_neg hab2, if_neg (h2.ne e)]
          exact P.n0 x e
        · rw [b2]
          simp only [dE, hs, Option.map_some, if_neg hab2]
          have ex1 : sub1 a' b' x = x := if_neg (h2.ne e)
          rw [ex1]
          by_cases q : y = b'
          · have : sub1 a' b' y = a' := if_pos q
            rw [this, (P.out h e).1, q, (P.out h2 e).2]
          · have : sub1 a' b' y = y := if_neg q
            rw [this, P.m0 x y e]
  | @mv a a' b b' h h2 =>
    have hs := P.sh a' a h.to
    have he := P.sm a' b' a b h.to h2.to
    cases es : shown o a with
    | none =>
      rw [es] at hs
      refine P.same (fun n => ?_) (fun n => ?_) (fun x y => ?_) fun x y => ?_
      · rw [a1]; simp only [dS, es]
      · rw [b1]; simp only [dS, hs, Option.map_none]
      · rw [a2]; simp only [dE, es]
      · rw [b2]; simp only [dE, hs, Option.map_none]
    | some c =>
      rw [es] at hs
      by_cases hab : areSame o a b = true
      · have hab2 : areSame d a' b' = true := by rw [he]; exact hab
        refine P.same (fun n => ?_) (fun n => ?_) (fun x y => ?_) fun x y => ?_
        · rw [a1]; simp only [dS, es, hab, if_true]
        · rw [b1]; simp only [dS, hs, Option.map_some, hab2, if_true]
        · rw [a2]; simp only [dE, es, hab, if_true]
        · rw [b2]; simp only [dE, hs, Option.map_some, hab2, if_true]
      · have hab2 : ¬ areSame d a' b' = true := by rw [he]; exact hab
        refine ⟨fun x p e => ?_, fun x y p q e1 e2 => ?_, fun x e => ?_, fun x y e => ?_, P.ex⟩
        · rw [a1, b1]
          simp only [dS, es, hs, Option.map_some, if_neg hab, if_neg hab2, h.eq e, h2.eq e, P.sh x p e]
          split
          · rfl
          · split <;> rfl
        · rw [a2, b2]
          simp only [dE, es, hs, Option.map_some, if_neg hab, if_neg hab2, h.eq e1, h.eq e2, P.sm _ _ _ _ (h.sub h2 e1) (h.sub h2 e2)]
        · rw [b1]
          simp only [dS, hs, Option.map_some, if_neg hab2, if_neg (h.ne e), if_neg (h2.ne e)]
          exact P.n0 x e
        · rw [b2]
          simp only [dE, hs, Option.map_some, if_neg hab2]
          have ex1 : sub1 a' b' x = x := if_neg (h2.ne e)
          rw [ex1]
          by_cases q0 : y = a'
          · rw [q0, (P.out h e).2]
            simp
          by_cases q : y = b'
          · have : sub1 a' b' y = a' := if_pos q
            rw [this, (P.out h e).1, q, (P.out h2 e).2]
            simp
          · have : sub1 a' b' y = y := if_neg q
            rw [this, P.m0 x y e]
            simp [h.ne e, q0]
  | @cp a a' b b' h h2 =>
    have hs := P.sh a' a h.to
    cases es : shown o a with
    | none =>
      rw [es] at hs
      refine P.same (fun n => ?_) (fun n => ?_) (fun x y => ?_) fun x y => ?_
      · rw [a1]; simp only [dS, es]
      · rw [b1]; simp only [dS, hs, Option.map_none]
      · rw [a2]; simp only [dE, es]
      · rw [b2]; simp only [dE, hs, Option.map_none]
    | some c =>
      rw [es] at hs
      refine P.wr h2 c (fun n => ?_) (fun n => ?_) (fun x y => ?_) fun x y => ?_
      · rw [a1]; simp only [dS, es]
      · rw [b1]; simp only [dS, hs, Option.map_some]
      · rw [a2]; simp only [dE, es]
      · rw [b2]; simp only [dE, hs, Option.map_some]
  | @rn a a' b b' h h2 =>
    have hs := P.sh a' a h.to
    cases es : shown o a with
    | none =>
      rw [es] at hs
      refine P.same (fun n => ?_) (fun n => ?_) (fun x y => ?_) fun x y => ?_
      · rw [a1]; simp only [dS, es]
      · rw [b1]; simp only [dS, hs, Option.map_none]
      · rw [a2]; simp only [dE, es]
      · rw [b2]; simp only [dE, hs, Option.map_none]
    | some c =>
      rw [es] at hs
      refine P.sv h2 c (fun n => ?_) (fun n => ?_) (fun x y => ?_) fun x y => ?_
      · rw [a1]; simp only [dS, es]
      · rw [b1]; simp only [dS, hs, Option.map_some]
      · rw [a2]; simp only [dE, es]
      · rw [b2]; simp only [dE, hs, Option.map_some]
end
/-- programs that go along -/
def MpP (f : Str → Option Str) (con : Int → Int) : List Dd → List Dd → Prop
  | [], [] => True
  | w :: p, w' :: p' => Mp f con w w' ∧ MpP f con p p'
  | _, _ => False
theorem Pb.after : ∀ {p p' : List Dd} {o d : Dk}, Pb f con s0 e0 o d → MpP f con p p' → Valid o → Valid d → (∀ a ∈ p, a.ok) → (∀ a ∈ p', a.ok) → Pb f con s0 e0 (after o p) (after d p')
  | [], [], _, _, P, _, _, _, _, _ => P
  | w :: p, w' :: p', o, d, P, m, vo, vd, h1, h2 =>
    Pb.after (p := p) (p' := p') (P.done m.1 vo vd (h1 w (List.mem_cons_self ..)) (h2 w' (List.mem_cons_self ..))) m.2 (valid_done vo (h1 w (List.mem_cons_self ..))) (valid_done vd (h2 w' (List.mem_cons_self ..)))
      (fun a ha => h1 a (List.mem_cons_of_mem _ ha)) fun a ha => h2 a (List.mem_cons_of_mem _ ha)
  | [], _ :: _, _, _, _, m, _, _, _, _ => m.elim
  | _ :: _, [], _, _, _, m, _, _, _, _ => m.elim
/-- two that are seen so of one are one -/
theorem Pb.eq {o d d2 : Dk} (P : Pb f con s0 e0 o d) (P2 : Pb f con s0 e0 o d2) (v : Valid d) (v2 : Valid d2) : d = d2 := by
  refine v.ext v2 (fun n => ?_) fun a b => ?_
  · cases e : f n with
    | none => rw [P.n0 n e, P2.n0 n e]
    | some p => rw [P.sh n p e, P2.sh n p e]
  · cases e : f a with
    | none => rw [P.m0 a b e, P2.m0 a b e]
    | some p =>
      cases e2 : f b with
      | none => rw [same_symm, P.m0 b a e2, same_symm, P2.m0 b a e2]
      | some q => rw [P.sm a b p q e e2, P2.sm a b p q e e2]
end
end Z

set_option Elab.async false
set_option linter.all false
set_option maxRecDepth 100000
/-! NC: disks that tell of all disks -/
namespace Z
open PySem PySem.Spec PyProof.Rows L2
/-- a program's names are among M, its contents among C -/
def PrIn (M : List Str) (C : List Int) (p : List Dd) : Prop := ∀ w ∈ p, (∀ n ∈ w.names, n ∈ M) ∧ ∀ c ∈ w.vals, c ∈ C
theorem Mp.self {f : Str → Option Str} {con : Int → Int} {w : Dd} (h : ∀ n ∈ w.names, MpN f n n) (hc : ∀ c ∈ w.vals, con c = c) : Mp f con w w := by
  cases w with
  | wr a c =>
    have := hc c (by simp [Dd.vals])
    have m := Mp.wr (con := con) (c := c) (h a (by simp [Dd.names]))
    rwa [this] at m
  | sv a c =>
    have := hc c (by simp [Dd.vals])
    have m := Mp.sv (con := con) (c := c) (h a (by simp [Dd.names]))
    rwa [this] at m
  | rm a => exact .rm (h a (by simp [Dd.names]))
  | lk a b => exact .lk (h a (by simp [Dd.names])) (h b (by simp [Dd.names]))
  | mv a b => exact .mv (h a (by simp [Dd.names])) (h b (by simp [Dd.names]))
  | cp a b => exact .cp (h a (by simp [Dd.names])) (h b (by simp [Dd.names]))
  | rn a b => exact .rn (h a (by simp [Dd.names])) (h b (by simp [Dd.names]))
theorem MpP.self {f : Str → Option Str} {con : Int → Int} {M : List Str} {C : List Int} (h : ∀ n ∈ M, MpN f n n) (hc : ∀ c ∈ C, con c = c) : ∀ {p : List Dd}, PrIn M C p → MpP f con p p
  | [], _ => trivial
  | w :: p, hp => ⟨Mp.self (fun n hn => h n ((hp w (List.mem_cons_self ..)).1 n hn)) fun c hcc => hc c ((hp w (List.mem_cons_self ..)).2 c hcc), MpP.self h hc fun a ha => hp a (List.mem_cons_of_mem _ ha)⟩
structure Gen (M : List Str) (C : List Int) (o : Dk) : Prop where
  v : Valid o
  con : ∀ a ∈ M, ∀ b ∈ M, ∀ c, shown o a = some c → shown o b = some c → areSame o a b = true
  new : ∀ a ∈ M, ∀ c, shown o a = some c → c ∉ C
def Agree (M : List Str) (o d : Dk) : Prop := ∀ a ∈ M, ∀ b ∈ M, areSame o a b = areSame d a b
/-- where d has a further name, o has one -/
def Mark (M : List Str) (o d : Dk) : Prop := ∀ a ∈ M, ∀ x, x ∉ M → areSame d a x = true → ∃ z, z ∉ M ∧ areSame o a z = true
def FullMark (M : List Str) (o : Dk) : Prop := ∀ a ∈ M, (shown o a).isSome = true → ∃ z, z ∉ M ∧ areSame o a z = true
section
variable {M : List Str} {C : List Int} {o d : Dk}
theorem Agree.there (A : Agree M o d) (vo : Valid o) (vd : Valid d) {a : Str} (ha : a ∈ M) : (shown o a).isSome = (shown d a).isSome := by
  rw [← same_refl vo, ← same_refl vd]
  exact A a ha a ha
theorem FullMark.mark (F : FullMark M o) (A : Agree M o d) (vo : Valid o) (vd : Valid d) : Mark M o d := fun a ha x hx h => F a ha (by
  obtain ⟨_, c, e⟩ := same_there vd h
  rw [A.there vo vd ha, e]
  rfl)
theorem pb_of (G : Gen M C o) (vd : Valid d) (A : Agree M o d) (K : Mark M o d) : ∃ f con, Pb f con (shown d) (areSame d) o d ∧ (∀ a ∈ M, MpN f a a) ∧ (∀ c ∈ C, con c = c) ∧
    (∀ a ∈ M, ∀ x, x ∉ M → areSame d a x = true → ∃ z, z ∉ M ∧ f x = some z ∧ areSame o a z = true) ∧ (∀ x, f x ≠ none → x ∈ M ∨ ∃ a ∈ M, areSame d a x = true) := by
  classical
  have ch : ∀ x, ∃ r : Option Str, (x ∈ M → r = some x) ∧ (x ∉ M → (∃ a ∈ M, areSame d a x = true) → ∃ a z, a ∈ M ∧ areSame d a x = true ∧ z ∉ M ∧ areSame o a z = true ∧ r = some z) ∧ (x ∉ M → (¬ ∃ a ∈ M, areSame d a x = true) → r = none) := fun x => by
    by_cases hx : x ∈ M
    · exact ⟨some x, fun _ => rfl, fun h => absurd hx h, fun h => absurd hx h⟩
    · by_cases h : ∃ a ∈ M, areSame d a x = true
      · obtain ⟨a, ha, hs⟩ := h
        obtain ⟨z, hz, hos⟩ := K a ha x hx hs
        exact ⟨some z, fun q => absurd q hx, fun _ _ => ⟨a, z, ha, hs, hz, hos, rfl⟩, fun _ q => absurd ⟨a, ha, hs⟩ q⟩
      · exact ⟨none, fun q => absurd q hx, fun _ q => absurd q h, fun _ _ => rfl⟩
  obtain ⟨f, hf⟩ := Classical.axiomOfChoice ch
  have fM : ∀ x, x ∈ M → f x = some x := fun x => (hf x).1
  have fN : ∀ x z, x ∉ M → f x = some z → ∃ a, a ∈ M ∧ areSame d a x = true ∧ z ∉ M ∧ areSame o a z = true := fun x z hx e => by
    by_cases h : ∃ a ∈ M, areSame d a x = true
    · obtain ⟨a, z', ha, hs, hz, hos, e2⟩ := (hf x).2.1 hx h
      rw [e] at e2
      cases e2
      exact ⟨a, ha, hs, hz, hos⟩
    · rw [(hf x).2.2 hx h] at e
      cases e
  have cc : ∀ c : Int, ∃ r : Int, (∀ a ∈ M, shown o a = some c → shown d a = some r) ∧ ((∀ a ∈ M, shown o a ≠ some c) → r = c) := fun c => by
    by_cases h : ∃ a ∈ M, shown o a = some c
    · obtain ⟨a, ha, e⟩ := h
      have t := A.there G.v vd ha
      rw [e] at t
      obtain ⟨r, er⟩ := Option.isSome_iff_exists.mp t.symm
      refine ⟨r, fun b hb eb => ?_, fun q => absurd e (q a ha)⟩
      have := G.con a ha b hb c e eb
      rw [A a ha b hb] at this
      rw [← (same_there vd this).1, er]
    · exact ⟨c, fun a ha e => absurd ⟨a, ha, e⟩ h, fun _ => rfl⟩
  obtain ⟨con, hcon⟩ := Classical.axiomOfChoice cc
  have shM : ∀ x ∈ M, shown d x = (shown o x).map con := fun x hx => by
    cases e : shown o x with
    | none =>
      have t := A.there G.v vd hx
      rw [e] at t
      cases q : shown d x with
      | none => rfl
      | some _ => rw [q] at t; cases t
    | some c => exact (hcon c).1 x hx e
  have big : ∀ x p, f x = some p → ∃ a ∈ M, areSame d a x = areSame d x x ∧ areSame o a p = areSame o p p ∧ shown d x = shown d a ∧ shown o p = shown o a ∧ (∀ y, areSame d x y = areSame d a y) ∧ ∀ q, areSame o p q = areSame o a q := fun x p e => by
    by_cases hx : x ∈ M
    · rw [fM x hx] at e
      cases e
      exact ⟨x, hx, rfl, rfl, rfl, rfl, fun _ => rfl, fun _ => rfl⟩
    · obtain ⟨a, ha, hs, hz, hos⟩ := fN x p hx e
      have t1 := same_there vd hs
      have t2 := same_there G.v hos
      have tr : ∀ {k : Dk} (vk : Valid k) {u v : Str}, areSame k u v = true → ∀ y, areSame k v y = areSame k u y := fun {k} vk {u v} h y => by
        cases q : areSame k u y with
        | true => exact same_trans vk (by rw [same_symm]; exact h) q
        | false =>
          rw [Bool.eq_false_iff]
          intro q2
          rw [same_trans vk h q2] at q
          cases q
      have e1 := tr vd hs
      have e2 := tr G.v hos
      exact ⟨a, ha, by rw [e1], by rw [e2], t1.1.symm, t2.1.symm, e1, e2⟩
  refine ⟨f, con, ⟨fun x p e => ?_, fun x y p q e1 e2 => ?_, fun _ _ => rfl, fun _ _ _ => rfl, fun x y e1 e2 => ?_⟩, fun a ha => ⟨fM a ha, fun x e => ?_⟩, fun c hc => (hcon c).2 fun a ha e => G.new a ha c e hc, fun a ha x hx hs => ?_, fun x e => ?_⟩
  · obtain ⟨a, ha, _, _, b1, b2, _, _⟩ := big x p e
    rw [b1, b2]
    exact shM a ha
  · obtain ⟨a, ha, _, _, _, _, b1, b2⟩ := big x p e1
    obtain ⟨b, hb, _, _, _, _, c1, c2⟩ := big y q e2
    rw [b1, b2, same_symm, c1, same_symm (d := o) a q, c2]
    rw [same_symm, same_symm (d := o)]
    exact (A a ha b hb).symm
  · rw [Bool.eq_false_iff]
    intro h
    have hx : x ∉ M := fun q => by rw [fM x q] at e1; cases e1
    obtain ⟨p, e⟩ := Option.ne_none_iff_exists'.mp e2
    obtain ⟨a, ha, _, _, _, _, b1, _⟩ := big y p e
    rw [same_symm, b1] at h
    obtain ⟨_, z, _, _, _, _, q⟩ := (hf x).2.1 hx ⟨a, ha, h⟩
    rw [e1] at q
    cases q
  · by_cases hx : x ∈ M
    · rw [fM x hx] at e
      exact Option.some.inj e
    · obtain ⟨_, _, _, hz, _⟩ := fN x a hx e
      exact absurd ha hz
  · obtain ⟨b, z, hb, hs2, hz, hos, e⟩ := (hf x).2.1 hx ⟨a, ha, hs⟩
    refine ⟨z, hz, e, same_trans G.v ?_ hos⟩
    rw [A a ha b hb]
    exact same_trans vd hs (by rw [same_symm]; exact hs2)
  · by_cases hx : x ∈ M
    · exact .inl hx
    · obtain ⟨p, e2⟩ := Option.ne_none_iff_exists'.mp e
      obtain ⟨a, ha, hs, _, _⟩ := fN x p hx e2
      exact .inr ⟨a, ha, hs⟩
end
/-- programs that do the same on all disks -/
def Alike (p q : List Dd) : Prop := ∀ d, Valid d → after d p = after d q
/-- disks that tell of all disks -/
structure Fam (M : List Str) (C : List Int) (Ds : List Dk) : Prop where
  gen : ∀ o ∈ Ds, Gen M C o ∧ FullMark M o
  all : ∀ d, Valid d → ∃ o ∈ Ds, Agree M o d
section
variable {M : List Str} {C : List Int} {Ds : List Dk} {p q : List Dd}
/-- behind a program: a disk by the one that tells of it -/
theorem gen_after {o d : Dk} (G : Gen M C o) (vd : Valid d) (A : Agree M o d) (K : Mark M o d) (hp : PrIn M C p) (op : ∀ a ∈ p, a.ok) : ∃ f con, Pb f con (shown d) (areSame d) (after o p) (after d p) ∧ (∀ a ∈ M, MpN f a a) ∧ (∀ c ∈ C, con c = c) ∧
    (∀ a ∈ M, ∀ x, x ∉ M → areSame d a x = true → ∃ z, z ∉ M ∧ f x = some z ∧ areSame o a z = true) ∧ Pb f con (shown d) (areSame d) o d := by
  obtain ⟨f, con, P, m, c, t, _⟩ := pb_of G vd A K
  exact ⟨f, con, P.after (MpP.self m c hp) G.v vd op op, m, c, t, P⟩
theorem gen_eq {o d : Dk} (G : Gen M C o) (vd : Valid d) (A : Agree M o d) (K : Mark M o d) (hp : PrIn M C p) (hq : PrIn M C q) (op : ∀ a ∈ p, a.ok) (oq : ∀ a ∈ q, a.ok) (h : after o p = after o q) : after d p = after d q := by
  obtain ⟨f, con, P, m, c, _, _⟩ := pb_of G vd A K
  have P1 := P.after (MpP.self m c hp) G.v vd op op
  have P2 := P.after (MpP.self m c hq) G.v vd oq oq
  rw [h] at P1
  exact P1.eq P2 (valid_after vd op) (valid_after vd oq)
theorem Fam.alike (F : Fam M C Ds) (hp : PrIn M C p) (hq : PrIn M C q) (op : ∀ a ∈ p, a.ok) (oq : ∀ a ∈ q, a.ok) : (∀ o ∈ Ds, after o p = after o q) ↔ Alike p q := by
  constructor
  · intro h d vd
    obtain ⟨o, ho, A⟩ := F.all d vd
    obtain ⟨G, M⟩ := F.gen o ho
    exact gen_eq G vd A (M.mark A G.v vd) hp hq op oq (h o ho)
  · exact fun h o ho => h o (F.gen o ho).1.v
end
theorem Alike.refl (p : List Dd) : Alike p p := fun _ _ => rfl
theorem Alike.symm {p q : List Dd} (h : Alike p q) : Alike q p := fun d v => (h d v).symm
theorem Alike.trans {p q r : List Dd} (h : Alike p q) (h2 : Alike q r) : Alike p r := fun d v => (h d v).trans (h2 d v)
end Z

set_option Elab.async false
set_option linter.all false
set_option maxRecDepth 100000
/-! ND: disks made of groups, further names and contents -/
namespace Z
open PySem PySem.Spec PyProof.Rows L2
abbrev Fm := List (List Str)
/-- the i-th group with its further name, if it is marked -/
def fullG (zs : List Str) (mk : List Nat) (p : List Str × Nat) : List Str := if p.2 ∈ mk then p.1 ++ [zs.getD p.2 default] else p.1
def ownF (φ : Fm) (zs : List Str) (cs : List Int) (mk : List Nat) : List Fl := φ.zipIdx.map fun p => (srt eS (fullG zs mk p), cs.getD p.2 0)
def mkOwn (φ : Fm) (zs : List Str) (cs : List Int) (mk : List Nat) : Dk := srt eFl (ownF φ zs cs mk)
structure OwnOk (M : List Str) (C : List Int) (φ : Fm) (zs : List Str) (cs : List Int) : Prop where
  sub : ∀ g ∈ φ, ∀ n ∈ g, n ∈ M
  nd : φ.flatten.Nodup
  ne : ∀ g ∈ φ, g ≠ []
  ok : okNs M
  zl : φ.length ≤ zs.length
  zn : zs.Nodup
  zm : ∀ z ∈ zs, z ∉ M ∧ okN z
  cl : φ.length ≤ cs.length
  cn : cs.Nodup
  cm : ∀ c ∈ cs, c ∉ C
section
variable {M : List Str} {C : List Int} {φ : Fm} {zs : List Str} {cs : List Int} {mk : List Nat}
theorem mem_zi {p : List Str × Nat} : p ∈ φ.zipIdx ↔ φ[p.2]? = some p.1 := by
  obtain ⟨g, i⟩ := p
  rw [List.mem_zipIdx_iff_getElem?]
theorem OwnOk.z (h : OwnOk M C φ zs cs) {i : Nat} {g : List Str} (e : φ[i]? = some g) : zs[i]? = some (zs.getD i default) ∧ zs.getD i default ∈ zs := by
  have hi : i < zs.length := Nat.lt_of_lt_of_le (List.getElem?_eq_some_iff.mp e).1 h.zl
  rw [List.getD_eq_getElem?_getD, List.getElem?_eq_getElem hi]
  exact ⟨rfl, List.getElem_mem hi⟩
theorem OwnOk.c (h : OwnOk M C φ zs cs) {i : Nat} {g : List Str} (e : φ[i]? = some g) : cs[i]? = some (cs.getD i 0) ∧ cs.getD i 0 ∈ cs := by
  have hi : i < cs.length := Nat.lt_of_lt_of_le (List.getElem?_eq_some_iff.mp e).1 h.cl
  rw [List.getD_eq_getElem?_getD, List.getElem?_eq_getElem hi]
  exact ⟨rfl, List.getElem_mem hi⟩
theorem nd_inj {α : Type} {l : List α} (h : l.Nodup) {i j : Nat} {a : α} (h1 : l[i]? = some a) (h2 : l[j]? = some a) : i = j := by
  obtain ⟨a1, e1⟩ := List.getElem?_eq_some_iff.mp h1
  obtain ⟨a2, e2⟩ := List.getElem?_eq_some_iff.mp h2
  exact (List.getElem_inj h).mp (e1.trans e2.symm)
/-- one name in two groups: one group -/
theorem flat_one : ∀ {φ : Fm}, φ.flatten.Nodup → ∀ {i j : Nat} {g k : List Str} {n : Str}, φ[i]? = some g → φ[j]? = some k → n ∈ g → n ∈ k → i = j
  | [], _, _, _, _, _, _, e, _, _, _ => by simp at e
  | x :: φ, h, 0, 0, _, _, _, _, _, _, _ => rfl
  | x :: φ, h, 0, j + 1, g, k, n, e1, e2, h1, h2 => by
    rw [List.flatten_cons, List.nodup_append] at h
    have e1 : x = g := by simpa using e1
    have e2 : φ[j]? = some k := by simpa using e2
    exact absurd rfl (h.2.2 n (by rw [e1]; exact h1) n (List.mem_flatten.mpr ⟨k, List.mem_of_getElem? e2, h2⟩))
  | x :: φ, h, i + 1, 0, g, k, n, e1, e2, h1, h2 => by
    rw [List.flatten_cons, List.nodup_append] at h
    have e2 : x = k := by simpa using e2
    have e1 : φ[i]? = some g := by simpa using e1
    exact absurd rfl (h.2.2 n (by rw [e2]; exact h2) n (List.mem_flatten.mpr ⟨g, List.mem_of_getElem? e1, h1⟩))
  | x :: φ, h, i + 1, j + 1, g, k, n, e1, e2, h1, h2 => by
    rw [List.flatten_cons, List.nodup_append] at h
    have := flat_one h.2.1 (i := i) (j := j) (by simpa using e1) (by simpa using e2) h1 h2
    omega
theorem mem_fullG {p : List Str × Nat} {x : Str} : x ∈ fullG zs mk p ↔ x ∈ p.1 ∨ (p.2 ∈ mk ∧ x = zs.getD p.2 default) := by
  unfold fullG
  split
  · rename_i h
    simp [h]
  · rename_i h
    simp [h]
theorem full_one (h : OwnOk M C φ zs cs) {p q : List Str × Nat} {x : Str} (hp : φ[p.2]? = some p.1) (hq : φ[q.2]? = some q.1) (h1 : x ∈ fullG zs mk p) (h2 : x ∈ fullG zs mk q) : p = q := by
  have hi : p.2 = q.2 := by
    rcases mem_fullG.mp h1 with h1 | ⟨_, h1⟩
    · rcases mem_fullG.mp h2 with h2 | ⟨_, h2⟩
      · exact flat_one h.nd hp hq h1 h2
      · have := (h.zm _ (h.z hq).2).1
        rw [← h2] at this
        exact absurd (h.sub _ (List.mem_of_getElem? hp) x h1) this
    · rcases mem_fullG.mp h2 with h2 | ⟨_, h2⟩
      · have := (h.zm _ (h.z hp).2).1
        rw [← h1] at this
        exact absurd (h.sub _ (List.mem_of_getElem? hq) x h2) this
      · have a := (h.z hp).1
        have b := (h.z hq).1
        rw [← h1] at a
        rw [← h2] at b
        exact nd_inj h.zn a b
  obtain ⟨g, i⟩ := p
  obtain ⟨k, j⟩ := q
  dsimp only at hi hp hq
  subst hi
  rw [hp] at hq
  cases hq
  rfl
theorem full_nd (h : OwnOk M C φ zs cs) {p : List Str × Nat} (hp : φ[p.2]? = some p.1) : (fullG zs mk p).Nodup := by
  have h0 : p.1.Nodup := by
    have : ∀ {φ : Fm} {i : Nat} {g : List Str}, φ.flatten.Nodup → φ[i]? = some g → g.Nodup := by
      intro φ
      induction φ with
      | nil => intro i g _ e; simp at e
      | cons x φ ih =>
        intro i g hn e
        rw [List.flatten_cons, List.nodup_append] at hn
        cases i with
        | zero =>
          have : x = g := by simpa using e
          rw [← this]
          exact hn.1
        | succ i => exact ih hn.2.1 (by simpa using e)
    exact this h.nd hp
  unfold fullG
  split
  · rw [List.nodup_append]
    refine ⟨h0, by simp, fun a ha b hb e => ?_⟩
    have hb : b = zs.getD p.2 default := by simpa using hb
    have := (h.zm _ (h.z hp).2).1
    rw [← hb, ← e] at this
    exact this (h.sub _ (List.mem_of_getElem? hp) a ha)
  · exact h0
theorem own_fair (h : OwnOk M C φ zs cs) : Fair (ownF φ zs cs mk) := by
  refine ⟨fun f hf q => ?_, ?_, fun n hn => ?_⟩
  · obtain ⟨p, hp, rfl⟩ := List.mem_map.mp hf
    have hp := mem_zi.mp hp
    have h1 : (fullG zs mk p).length = 0 := by rw [← srt_len (enc := eS), show srt eS (fullG zs mk p) = [] from q]; rfl
    have h2 : fullG zs mk p = [] := List.eq_nil_of_length_eq_zero h1
    have h3 := h.ne _ (List.mem_of_getElem? hp)
    cases e : p.1 with
    | nil => exact h3 e
    | cons x r =>
      have : x ∈ fullG zs mk p := mem_fullG.mpr (.inl (by rw [e]; simp))
      rw [h2] at this
      cases this
  · unfold namesD ownF
    rw [List.flatMap_map]
    refine nodup_flat (fun p hp => ?_) ?_
    · exact (srt_perm eS _).nodup_iff.mpr (full_nd h (mem_zi.mp hp))
    · have nz : φ.zipIdx.Nodup := by
        have : (φ.zipIdx.map (·.2)).Nodup := by
          rw [List.zipIdx_map_snd]
          exact List.nodup_range'
        exact List.Pairwise.of_map _ (fun a b hab e => hab (by rw [e])) this
      refine List.Pairwise.imp_of_mem ?_ nz
      intro p q hp hq hne x hx hx2
      exact hne (full_one h (mem_zi.mp hp) (mem_zi.mp hq) (mem_srt.mp hx) (mem_srt.mp hx2))
  · obtain ⟨f, hf, hm⟩ := mem_names.mp hn
    obtain ⟨p, hp, rfl⟩ := List.mem_map.mp hf
    have hp := mem_zi.mp hp
    rcases mem_fullG.mp (mem_srt.mp hm) with q | ⟨_, q⟩
    · exact h.ok n (h.sub _ (List.mem_of_getElem? hp) n q)
    · rw [q]
      exact (h.zm _ (h.z hp).2).2
theorem own_valid (h : OwnOk M C φ zs cs) : Valid (mkOwn φ zs cs mk) := (own_fair h).valid fun f hf => by
  obtain ⟨p, hp, rfl⟩ := List.mem_map.mp hf
  exact srt_pw eS _
theorem own_same {x y : Str} : areSame (mkOwn φ zs cs mk) x y = true ↔ ∃ p : List Str × Nat, φ[p.2]? = some p.1 ∧ x ∈ fullG zs mk p ∧ y ∈ fullG zs mk p := by
  unfold mkOwn
  rw [same_srt, same_iff]
  constructor
  · rintro ⟨f, hf, h1, h2⟩
    obtain ⟨p, hp, rfl⟩ := List.mem_map.mp hf
    exact ⟨p, mem_zi.mp hp, mem_srt.mp h1, mem_srt.mp h2⟩
  · rintro ⟨p, hp, h1, h2⟩
    exact ⟨_, List.mem_map.mpr ⟨p, mem_zi.mpr hp, rfl⟩, mem_srt.mpr h1, mem_srt.mpr h2⟩
theorem own_shown (h : OwnOk M C φ zs cs) {x : Str} {c : Int} : shown (mkOwn φ zs cs mk) x = some c ↔ ∃ p : List Str × Nat, φ[p.2]? = some p.1 ∧ x ∈ fullG zs mk p ∧ c = cs.getD p.2 0 := by
  unfold mkOwn
  rw [shown_srt (own_fair h), shown_iff (own_fair h).nd]
  constructor
  · rintro ⟨f, hf, h1, h2⟩
    obtain ⟨p, hp, rfl⟩ := List.mem_map.mp hf
    exact ⟨p, mem_zi.mp hp, mem_srt.mp h1, h2.symm⟩
  · rintro ⟨p, hp, h1, h2⟩
    exact ⟨_, List.mem_map.mpr ⟨p, mem_zi.mpr hp, rfl⟩, mem_srt.mpr h1, h2.symm⟩
theorem own_gen (h : OwnOk M C φ zs cs) : Gen M C (mkOwn φ zs cs mk) := by
  refine ⟨own_valid h, fun a _ b _ c h1 h2 => ?_, fun a _ c h1 => ?_⟩
  · obtain ⟨p, hp, a1, rfl⟩ := (own_shown h).mp h1
    obtain ⟨q, hq, b1, e⟩ := (own_shown h).mp h2
    have x1 := (h.c hp).1
    have x2 := (h.c hq).1
    rw [← e] at x2
    have := nd_inj h.cn x1 x2
    have : p = q := by
      obtain ⟨g, i⟩ := p
      obtain ⟨k, j⟩ := q
      dsimp only at this hp hq
      subst this
      rw [hp] at hq
      cases hq
      rfl
    subst this
    exact own_same.mpr ⟨p, hp, a1, b1⟩
  · obtain ⟨p, hp, a1, rfl⟩ := (own_shown h).mp h1
    exact h.cm _ (h.c hp).2
/-- the names of M share as the groups say -/
theorem own_on (h : OwnOk M C φ zs cs) {a b : Str} (ha : a ∈ M) (hb : b ∈ M) : areSame (mkOwn φ zs cs mk) a b = true ↔ ∃ g ∈ φ, a ∈ g ∧ b ∈ g := by
  rw [own_same]
  have inG : ∀ {p : List Str × Nat} {x : Str}, φ[p.2]? = some p.1 → x ∈ M → x ∈ fullG zs mk p → x ∈ p.1 := fun {p x} hp hx hf => by
    rcases mem_fullG.mp hf with q | ⟨_, q⟩
    · exact q
    · have := (h.zm _ (h.z hp).2).1
      rw [← q] at this
      exact absurd hx this
  constructor
  · rintro ⟨p, hp, h1, h2⟩
    exact ⟨p.1, List.mem_of_getElem? hp, inG hp ha h1, inG hp hb h2⟩
  · rintro ⟨g, hg, h1, h2⟩
    obtain ⟨i, hi⟩ := List.mem_iff_getElem?.mp hg
    exact ⟨(g, i), hi, mem_fullG.mpr (.inl h1), mem_fullG.mpr (.inl h2)⟩
/-- a group is marked: its names share a further name -/
theorem own_mark (h : OwnOk M C φ zs cs) {a z : Str} (ha : a ∈ M) (hz : z ∉ M) : areSame (mkOwn φ zs cs mk) a z = true ↔ ∃ p : List Str × Nat, φ[p.2]? = some p.1 ∧ a ∈ p.1 ∧ p.2 ∈ mk ∧ z = zs.getD p.2 default := by
  rw [own_same]
  constructor
  · rintro ⟨p, hp, h1, h2⟩
    refine ⟨p, hp, ?_, ?_⟩
    · rcases mem_fullG.mp h1 with q | ⟨_, q⟩
      · exact q
      · have := (h.zm _ (h.z hp).2).1
        rw [← q] at this
        exact absurd ha this
    · rcases mem_fullG.mp h2 with q | q
      · exact absurd (h.sub _ (List.mem_of_getElem? hp) z q) hz
      · exact q
  · rintro ⟨p, hp, h1, h2, h3⟩
    exact ⟨p, hp, mem_fullG.mpr (.inl h1), mem_fullG.mpr (.inr ⟨h2, h3⟩)⟩
theorem own_full (h : OwnOk M C φ zs cs) (hm : ∀ i, i < φ.length → i ∈ mk) : FullMark M (mkOwn φ zs cs mk) := fun a ha hs => by
  obtain ⟨c, e⟩ := Option.isSome_iff_exists.mp hs
  have hself : areSame (mkOwn φ zs cs mk) a a = true := by rw [same_refl (own_valid h), e]; rfl
  obtain ⟨g, hg, h1, _⟩ := (own_on h ha ha).mp hself
  obtain ⟨i, hi⟩ := List.mem_iff_getElem?.mp hg
  have hz := h.zm _ (h.z hi).2
  exact ⟨zs.getD i default, hz.1, (own_mark h ha hz.1).mpr ⟨(g, i), hi, h1, hm i (List.getElem?_eq_some_iff.mp hi).1, rfl⟩⟩
end
end Z

set_option Elab.async false
set_option linter.all false
set_option maxRecDepth 100000
/-! NE: all ways of some names to be there and to share -/
namespace Z
open PySem PySem.Spec PyProof.Rows L2
def ins (n : Str) (φ : Fm) (i : Nat) : Fm := φ.modify i (· ++ [n])
def growP (n : Str) (φ : Fm) : List Fm := [φ, φ ++ [[n]]] ++ (List.range φ.length).map (ins n φ)
def rawP (ns : List Str) : List Fm := ns.foldl (fun found n => found.flatMap (growP n)) [[]]
def growL (n : Str) (φ : Fm) : List Fm := (φ ++ [[n]]) :: (List.range φ.length).map (ins n φ)
def rawL (ns : List Str) : List Fm := ns.foldl (fun found n => found ++ found.flatMap (growL n)) [[]]
theorem flat_perm {α : Type} (g : α → List α) : ∀ l : List α, (l.flatMap fun a => a :: g a).Perm (l ++ l.flatMap g)
  | [] => .refl _
  | a :: l => by
    rw [List.flatMap_cons, List.flatMap_cons, List.cons_append, List.cons_append]
    refine .cons a ?_
    refine ((flat_perm g l).append_left (g a)).trans ?_
    rw [← List.append_assoc, ← List.append_assoc]
    exact (List.perm_append_comm).append_right _
theorem raw_perm' : ∀ (ns : List Str) (A B : List Fm), A.Perm B → (ns.foldl (fun found n => found.flatMap (growP n)) A).Perm (ns.foldl (fun found n => found ++ found.flatMap (growL n)) B)
  | [], _, _, h => h
  | n :: ns, A, B, h => by
    rw [List.foldl_cons, List.foldl_cons]
    refine raw_perm' ns _ _ ((h.flatMap_right (growP n)).trans ?_)
    exact flat_perm (growL n) B
theorem raw_perm (ns : List Str) : (rawP ns).Perm (rawL ns) := raw_perm' ns _ _ (.refl _)
/-- groups of names among p, disjoint, none empty -/
structure WF (p : List Str) (φ : Fm) : Prop where
  sub : ∀ g ∈ φ, ∀ n ∈ g, n ∈ p
  nd : φ.flatten.Nodup
  ne : ∀ g ∈ φ, g ≠ []
theorem flat_modify {n : Str} : ∀ {φ : Fm} {i : Nat}, i < φ.length → (ins n φ i).flatten.Perm (n :: φ.flatten)
  | [], _, h => absurd h (Nat.not_lt_zero _)
  | g :: φ, 0, _ => by
    show ((g ++ [n]) :: φ).flatten.Perm _
    rw [List.flatten_cons, List.flatten_cons, List.append_assoc]
    exact List.perm_middle
  | g :: φ, i + 1, h => by
    show (g :: φ.modify i (· ++ [n])).flatten.Perm _
    rw [List.flatten_cons, List.flatten_cons]
    refine ((flat_modify (φ := φ) (i := i) (by simpa using h)).append_left g).trans ?_
    exact List.perm_middle
theorem mem_ins {n : Str} {φ : Fm} {i : Nat} {g : List Str} (h : g ∈ ins n φ i) : g ∈ φ ∨ ∃ k, φ[i]? = some k ∧ g = k ++ [n] := by
  obtain ⟨j, hj⟩ := List.mem_iff_getElem?.mp h
  unfold ins at hj
  rw [List.getElem?_modify] at hj
  split at hj
  · rename_i e
    subst e
    cases q : φ[i]? with
    | none => rw [q] at hj; cases hj
    | some k =>
      rw [q] at hj
      exact .inr ⟨k, rfl, (Option.some.inj hj).symm⟩
  · cases q : φ[j]? with
    | none => rw [q] at hj; cases hj
    | some k =>
      rw [q] at hj
      cases hj
      exact .inl (List.mem_of_getElem? q)
theorem WF.mono {p q : List Str} {φ : Fm} (h : WF p φ) (s : ∀ n ∈ p, n ∈ q) : WF q φ := ⟨fun g hg n hn => s n (h.sub g hg n hn), h.nd, h.ne⟩
theorem WF.new {p : List Str} {φ : Fm} (h : WF p φ) {n : Str} (hn : n ∉ p) : WF (p ++ [n]) (φ ++ [[n]]) := by
  refine ⟨fun g hg m hm => ?_, ?_, fun g hg => ?_⟩
  · rcases List.mem_append.mp hg with hg | hg
    · exact List.mem_append_left _ (h.sub g hg m hm)
    · rw [List.mem_singleton.mp hg] at hm
      exact List.mem_append_right _ hm
  · rw [List.flatten_append, List.nodup_append]
    refine ⟨h.nd, by simp, fun a ha b hb e => ?_⟩
    have hb : b = n := by simpa using hb
    obtain ⟨g, hg, hm⟩ := List.mem_flatten.mp ha
    have := h.sub g hg a hm
    rw [e, hb] at this
    exact hn this
  · rcases List.mem_append.mp hg with hg | hg
    · exact h.ne g hg
    · rw [List.mem_singleton.mp hg]
      simp
theorem WF.ins {p : List Str} {φ : Fm} (h : WF p φ) {n : Str} (hn : n ∉ p) {i : Nat} (hi : i < φ.length) : WF (p ++ [n]) (ins n φ i) := by
  refine ⟨fun g hg m hm => ?_, ?_, fun g hg => ?_⟩
  · rcases mem_ins hg with hg | ⟨k, hk, rfl⟩
    · exact List.mem_append_left _ (h.sub g hg m hm)
    · rcases List.mem_append.mp hm with hm | hm
      · exact List.mem_append_left _ (h.sub k (List.mem_of_getElem? hk) m hm)
      · exact List.mem_append_right _ hm
  · refine (flat_modify hi).nodup_iff.mpr (List.nodup_cons.mpr ⟨fun q => ?_, h.nd⟩)
    obtain ⟨g, hg, hm⟩ := List.mem_flatten.mp q
    exact hn (h.sub g hg n hm)
  · rcases mem_ins hg with hg | ⟨k, hk, rfl⟩
    · exact h.ne g hg
    · simp
theorem wf_grow {p : List Str} {φ : Fm} (h : WF p φ) {n : Str} (hn : n ∉ p) {χ : Fm} (hc : χ ∈ growP n φ) : WF (p ++ [n]) χ := by
  unfold growP at hc
  rcases List.mem_append.mp hc with hc | hc
  · rcases List.mem_cons.mp hc with rfl | hc
    · exact h.mono fun n hn => List.mem_append_left _ hn
    · rw [List.mem_singleton.mp hc]
      exact h.new hn
  · obtain ⟨i, hi, rfl⟩ := List.mem_map.mp hc
    exact h.ins hn (List.mem_range.mp hi)
theorem wf_raw' : ∀ (ns pre : List Str) (A : List Fm), (pre ++ ns).Nodup → (∀ φ ∈ A, WF pre φ) → ∀ φ ∈ ns.foldl (fun found n => found.flatMap (growP n)) A, WF (pre ++ ns) φ
  | [], pre, A, _, h, φ, hφ => by
    rw [List.append_nil]
    exact h φ hφ
  | n :: ns, pre, A, nd, h, φ, hφ => by
    have e : pre ++ n :: ns = (pre ++ [n]) ++ ns := by simp
    rw [e] at nd ⊢
    have hn : n ∉ pre := fun q => by
      rw [List.append_assoc, List.nodup_append] at nd
      exact nd.2.2 n q n (by simp) rfl
    refine wf_raw' ns (pre ++ [n]) _ nd (fun χ hχ => ?_) φ hφ
    obtain ⟨ψ, hψ, hc⟩ := List.mem_flatMap.mp hχ
    exact wf_grow (h ψ hψ) hn hc
theorem wf_nil : WF [] [] := ⟨fun g hg => (by cases hg), by simp, fun g hg => (by cases hg)⟩
theorem wf_raw {ns : List Str} (nd : ns.Nodup) : ∀ φ ∈ rawP ns, WF ns φ := wf_raw' ns [] [[]] nd fun φ hφ => by
  rw [List.mem_singleton.mp hφ]
  exact wf_nil
/-- the groups say how the names of p share -/
def Says (E : Str → Str → Bool) (p : List Str) (φ : Fm) : Prop := ∀ a ∈ p, ∀ b ∈ p, E a b = true ↔ ∃ g ∈ φ, a ∈ g ∧ b ∈ g
structure Per (E : Str → Str → Bool) : Prop where
  sy : ∀ a b, E a b = true → E b a = true
  tr : ∀ a b c, E a b = true → E b c = true → E a c = true
theorem says_grow {E : Str → Str → Bool} (R : Per E) {p : List Str} {φ : Fm} (h : WF p φ) (S : Says E p φ) {n : Str} (hn : n ∉ p) : ∃ χ ∈ growP n φ, Says E (p ++ [n]) χ := by
  have no : ∀ g ∈ φ, n ∉ g := fun g hg q => hn (h.sub g hg n q)
  by_cases hs : E n n = true
  · by_cases hm : ∃ m ∈ p, E m n = true
    · obtain ⟨m, hmp, hmn⟩ := hm
      obtain ⟨k, hk, hmk, _⟩ := (S m hmp m hmp).mp (R.tr _ _ _ hmn (R.sy _ _ hmn))
      obtain ⟨i, hi⟩ := List.mem_iff_getElem?.mp hk
      have hil := (List.getElem?_eq_some_iff.mp hi).1
      have eqm : ∀ b, E n b = true ↔ E m b = true := fun b => ⟨fun q => R.tr _ _ _ hmn q, fun q => R.tr _ _ _ (R.sy _ _ hmn) q⟩
      have inn : ∀ g ∈ ins n φ i, n ∈ g → g = k ++ [n] := fun g hg q => by
        rcases mem_ins hg with hg | ⟨k', hk', rfl⟩
        · exact absurd q (no g hg)
        · rw [hi] at hk'
          cases hk'
          rfl
      have thk : k ++ [n] ∈ ins n φ i := by
        refine List.mem_iff_getElem?.mpr ⟨i, ?_⟩
        unfold ins
        rw [List.getElem?_modify, hi]
        simp
      have old : ∀ b ∈ p, (∃ g ∈ ins n φ i, n ∈ g ∧ b ∈ g) ↔ E n b = true := fun b hb => by
        rw [eqm b, S m hmp b hb]
        constructor
        · rintro ⟨g, hg, q1, q2⟩
          rw [inn g hg q1] at q2
          rcases List.mem_append.mp q2 with q2 | q2
          · exact ⟨k, hk, hmk, q2⟩
          · rw [List.mem_singleton.mp q2] at hb
            exact absurd hb hn
        · rintro ⟨g, hg, q1, q2⟩
          obtain ⟨j, hj⟩ := List.mem_iff_getElem?.mp hg
          have := flat_one h.nd hi hj hmk q1
          subst this
          rw [hi] at hj
          cases hj
          exact ⟨_, thk, by simp, List.mem_append_left _ q2⟩
      refine ⟨ins n φ i, List.mem_append_right _ (List.mem_map.mpr ⟨i, List.mem_range.mpr hil, rfl⟩), fun a ha b hb => ?_⟩
      rcases List.mem_append.mp ha with ha | ha
      · rcases List.mem_append.mp hb with hb | hb
        · rw [S a ha b hb]
          constructor
          · rintro ⟨g, hg, q1, q2⟩
            obtain ⟨j, hj⟩ := List.mem_iff_getElem?.mp hg
            by_cases e : i = j
            · subst e
              rw [hi] at hj
              cases hj
              exact ⟨_, thk, List.mem_append_left _ q1, List.mem_append_left _ q2⟩
            · refine ⟨g, List.mem_iff_getElem?.mpr ⟨j, ?_⟩, q1, q2⟩
              unfold ins
              rw [List.getElem?_modify, hj]
              simp [e]
          · rintro ⟨g, hg, q1, q2⟩
            rcases mem_ins hg with hg | ⟨k', hk', rfl⟩
            · exact ⟨g, hg, q1, q2⟩
            · refine ⟨k', List.mem_of_getElem? hk', ?_, ?_⟩
              · rcases List.mem_append.mp q1 with q1 | q1
                · exact q1
                · rw [List.mem_singleton.mp q1] at ha
                  exact absurd ha hn
              · rcases List.mem_append.mp q2 with q2 | q2
                · exact q2
                · rw [List.mem_singleton.mp q2] at hb
                  exact absurd hb hn
        · rw [List.mem_singleton.mp hb]
          have := old a ha
          constructor
          · intro q
            obtain ⟨g, hg, q1, q2⟩ := this.mpr (R.sy _ _ q)
            exact ⟨g, hg, q2, q1⟩
          · rintro ⟨g, hg, q1, q2⟩
            exact R.sy _ _ (this.mp ⟨g, hg, q2, q1⟩)
      · rw [List.mem_singleton.mp ha]
        rcases List.mem_append.mp hb with hb | hb
        · exact (old b hb).symm
        · rw [List.mem_singleton.mp hb]
          exact ⟨fun _ => ⟨_, thk, by simp, by simp⟩, fun _ => hs⟩
    · have nob : ∀ b ∈ p, ¬ E n b = true := fun b hb q => hm ⟨b, hb, R.sy _ _ q⟩
      have last : ∀ g ∈ φ ++ [[n]], n ∈ g → g = [n] := fun g hg q => by
        rcases List.mem_append.mp hg with hg | hg
        · exact absurd q (no g hg)
        · exact List.mem_singleton.mp hg
      refine ⟨φ ++ [[n]], List.mem_append_left _ (by simp), fun a ha b hb => ?_⟩
      rcases List.mem_append.mp ha with ha | ha
      · rcases List.mem_append.mp hb with hb | hb
        · rw [S a ha b hb]
          constructor
          · rintro ⟨g, hg, q⟩
            exact ⟨g, List.mem_append_left _ hg, q⟩
          · rintro ⟨g, hg, q1, q2⟩
            rcases List.mem_append.mp hg with hg | hg
            · exact ⟨g, hg, q1, q2⟩
            · rw [List.mem_singleton.mp hg, List.mem_singleton] at q1
              rw [q1] at ha
              exact absurd ha hn
        · rw [List.mem_singleton.mp hb]
          constructor
          · exact fun q => absurd (R.sy _ _ q) (nob a ha)
          · rintro ⟨g, hg, q1, q2⟩
            rw [last g hg q2, List.mem_singleton] at q1
            rw [q1] at ha
            exact absurd ha hn
      · rw [List.mem_singleton.mp ha]
        rcases List.mem_append.mp hb with hb | hb
        · constructor
          · exact fun q => absurd q (nob b hb)
          · rintro ⟨g, hg, q1, q2⟩
            rw [last g hg q1, List.mem_singleton] at q2
            rw [q2] at hb
            exact absurd hb hn
        · rw [List.mem_singleton.mp hb]
          exact ⟨fun _ => ⟨[n], List.mem_append_right _ (by simp), by simp, by simp⟩, fun _ => hs⟩
  · have nob : ∀ b, ¬ E n b = true := fun b q => hs (R.tr _ _ _ q (R.sy _ _ q))
    refine ⟨φ, List.mem_append_left _ (by simp), fun a ha b hb => ?_⟩
    rcases List.mem_append.mp ha with ha | ha
    · rcases List.mem_append.mp hb with hb | hb
      · exact S a ha b hb
      · rw [List.mem_singleton.mp hb]
        constructor
        · exact fun q => absurd (R.sy _ _ q) (nob a)
        · rintro ⟨g, hg, _, q2⟩
          exact absurd q2 (no g hg)
    · rw [List.mem_singleton.mp ha]
      constructor
      · exact fun q => absurd q (nob b)
      · rintro ⟨g, hg, q1, _⟩
        exact absurd q1 (no g hg)
theorem says_raw' {E : Str → Str → Bool} (R : Per E) : ∀ (ns pre : List Str) (A : List Fm), (pre ++ ns).Nodup → (∃ φ ∈ A, WF pre φ ∧ Says E pre φ) → ∃ φ ∈ ns.foldl (fun found n => found.flatMap (growP n)) A, Says E (pre ++ ns) φ
  | [], pre, A, _, ⟨φ, h1, _, h2⟩ => ⟨φ, h1, by rw [List.append_nil]; exact h2⟩
  | n :: ns, pre, A, nd, ⟨φ, h1, w, h2⟩ => by
    have e : pre ++ n :: ns = (pre ++ [n]) ++ ns := by simp
    rw [e] at nd ⊢
    have hn : n ∉ pre := fun q => by
      rw [List.append_assoc, List.nodup_append] at nd
      exact nd.2.2 n q n (by simp) rfl
    obtain ⟨χ, hc, hs⟩ := says_grow R w h2 hn
    exact says_raw' R ns (pre ++ [n]) _ nd ⟨χ, List.mem_flatMap.mpr ⟨φ, h1, hc⟩, wf_grow w hn hc, hs⟩
theorem says_raw {E : Str → Str → Bool} (R : Per E) {ns : List Str} (nd : ns.Nodup) : ∃ φ ∈ rawP ns, Says E ns φ :=
  says_raw' R ns [] [[]] nd ⟨[], by simp, wf_nil, fun a ha => by cases ha⟩
theorem per_same {d : Dk} (v : Valid d) : Per (areSame d) := ⟨fun a b h => by rw [same_symm]; exact h, fun a b c h1 h2 => same_trans v h1 h2⟩
end Z

set_option Elab.async false
set_option linter.all false
set_option maxRecDepth 100000
/-! MI: all groupings -/
namespace Z
open PySem PySem.Spec PyProof.Rows L2
theorem lst_app {h T : MH} {d : D} {xs : List D} (e : lstOf h d = some xs) : lstOf (h ++ T) d = some xs := by
  cases d with
  | lst ys => exact e
  | ref n =>
    unfold lstOf at e ⊢
    dsimp only at e ⊢
    cases q : h[n]? with
    | none => rw [q] at e; cases e
    | some o =>
      rw [q] at e
      rw [List.getElem?_append_left (List.getElem?_eq_some_iff.mp q).1, q]
      exact e
  | _ => cases e
theorem iW_any {h T0 : MH} {d : D} {xs : List D} {R : List D → (MH → Prop) → MH → Prop} (e : lstOf h d = some xs) (k : ∀ chk : MH → Prop, (∀ T, chk (h ++ T)) → R xs chk (h ++ T0)) : iW d (h ++ T0) R := by
  cases d with
  | lst ys =>
    cases e
    exact k _ fun _ => trivial
  | ref n =>
    unfold lstOf at e
    dsimp only at e
    unfold iW
    dsimp only
    cases q : h[n]? with
    | none => rw [q] at e; cases e
    | some o =>
      rw [q] at e
      cases o with
      | lst ys =>
        cases e
        rw [List.getElem?_append_left (List.getElem?_eq_some_iff.mp q).1, q]
        exact k _ fun T => (List.getElem?_append_left (List.getElem?_eq_some_iff.mp q).1).trans q
      | _ => cases e
  | _ => cases e
theorem seq_of_lst {h : MH} {d : D} {xs : List D} (e : lstOf h d = some xs) : seqOf h d = some xs := by
  cases d <;> first | exact e | cases e
/-- longer + [..] where longer is changed -/
theorem w_addR {h : MH} {n : Nat} {xs ys : List D} {Q : D → MH → Prop} (e : h[n]? = some (.lst xs)) (hl : xs.length + ys.length ≤ sizeLine) (k : Q (.ref h.length) (h ++ [.lst (xs ++ ys)])) : wAdd true h (.ref n) (.lst ys) Q := by
  have e2 : lstOf h (.ref n) = some xs := by simp [lstOf, e]
  exact ⟨xs, ys, e2, rfl, hl, k⟩
theorem ins_eq {n : Str} {φ : Fm} {i : Nat} (h : i < φ.length) : ins n φ i = φ.take i ++ (φ[i] ++ [n]) :: φ.drop (i + 1) := List.modify_eq_take_cons_drop h
theorem slF_take {h : MH} {mu : Bool} {φ : Fm} {i : Nat} {Q : D → MH → Prop} (k : Q (eFm (φ.take i)) h) : wSl mu h (eFm φ) none (some (i : Int)) Q := by
  show Q (.tup (cutL (φ.map eNs) none (some (i : Int)))) h
  rw [cutL_take, ← List.map_take]
  exact k
theorem slF_drop {h : MH} {mu : Bool} {φ : Fm} {i : Nat} {Q : D → MH → Prop} (k : Q (eFm (φ.drop (i + 1))) h) : wSl mu h (eFm φ) (some ((i : Int) + 1)) none Q := by
  show Q (.tup (cutL (φ.map eNs) (some ((i : Int) + 1)) none)) h
  rw [show ((i : Int) + 1) = ((i + 1 : Nat) : Int) by omega, cutL_drop, ← List.map_drop]
  exact k
theorem ixF {h : MH} {φ : Fm} {i : Nat} {Q : D → MH → Prop} (hi : i < φ.length) (k : Q (eNs φ[i]) h) : wIx h (eFm φ) (.int i) Q := by
  show ∃ v, atI (φ.map eNs) (i : Int) = some v ∧ Q v h
  refine ⟨_, ?_, k⟩
  rw [atI_of, List.getElem?_map, List.getElem?_eq_getElem hi]
  rfl
/-! how many -/
def fac : Nat → Nat
  | 0 => 1
  | n + 1 => fac n * (n + 2)
theorem ins_len {n : Str} {φ : Fm} {i : Nat} : (ins n φ i).length = φ.length := List.length_modify ..
theorem growP_len {n : Str} {φ : Fm} : (growP n φ).length = φ.length + 2 := by simp [growP]
theorem growP_each {n : Str} {φ χ : Fm} (h : χ ∈ growP n φ) : χ.length ≤ φ.length + 1 := by
  unfold growP at h
  rcases List.mem_append.mp h with h | h
  · rcases List.mem_cons.mp h with rfl | h
    · omega
    · rw [List.mem_singleton.mp h]
      simp
  · obtain ⟨i, _, rfl⟩ := List.mem_map.mp h
    rw [ins_len]
    omega
theorem flatMap_le {α β : Type} {f : α → List β} {m : Nat} : ∀ {l : List α}, (∀ a ∈ l, (f a).length ≤ m) → (l.flatMap f).length ≤ l.length * m
  | [], _ => by simp
  | a :: l, h => by
    have h1 := h a (List.mem_cons_self ..)
    have h2 := flatMap_le (l := l) fun b hb => h b (List.mem_cons_of_mem _ hb)
    rw [List.flatMap_cons, List.length_append, List.length_cons, Nat.succ_mul]
    omega
theorem rawP_snoc (ns : List Str) (n : Str) : rawP (ns ++ [n]) = (rawP ns).flatMap (growP n) := by
  unfold rawP
  rw [List.foldl_append]
  rfl
theorem rawP_small : ∀ {k : Nat} {ns : List Str}, ns.length = k → (rawP ns).length ≤ fac k ∧ ∀ φ ∈ rawP ns, φ.length ≤ k
  | 0, ns, e => by
    rw [List.eq_nil_of_length_eq_zero e]
    exact ⟨by decide, fun φ h => by rw [List.mem_singleton.mp h]; exact Nat.le_refl 0⟩
  | k + 1, ns, e => by
    obtain ⟨ms, n, rfl⟩ : ∃ ms n, ns = ms ++ [n] := ⟨ns.dropLast, ns.getLast (fun q => by rw [q] at e; cases e), (List.dropLast_concat_getLast _).symm⟩
    obtain ⟨h1, h2⟩ := rawP_small (k := k) (ns := ms) (by simpa using e)
    rw [rawP_snoc]
    refine ⟨Nat.le_trans (flatMap_le (m := k + 2) fun φ hφ => ?_) (Nat.mul_le_mul_right _ h1), fun φ hφ => ?_⟩
    · rw [growP_len]
      have := h2 φ hφ
      omega
    · obtain ⟨χ, hc, hg⟩ := List.mem_flatMap.mp hφ
      have := growP_each hg
      have := h2 χ hc
      omega
theorem fac_mono {j k : Nat} (h : j ≤ k) : fac j ≤ fac k := by
  induction h with
  | refl => exact Nat.le_refl _
  | step _ ih =>
    rename_i m _
    refine Nat.le_trans ih ?_
    show fac m ≤ fac m * (m + 2)
    exact Nat.le_mul_of_pos_right _ (by omega)
theorem rawP_le {ns : List Str} (h : ns.length ≤ 8) : (rawP ns).length ≤ 362880 ∧ ∀ φ ∈ rawP ns, φ.length ≤ 8 := by
  obtain ⟨h1, h2⟩ := rawP_small (ns := ns) rfl
  exact ⟨Nat.le_trans h1 (Nat.le_trans (fac_mono h) (by decide)), fun φ hφ => Nat.le_trans (h2 φ hφ) h⟩
theorem rawP_head : ∀ (ns : List Str), ∃ r, rawP ns = [] :: r := by
  suffices ∀ (ns : List Str) (A : List Fm), (∃ r, A = [] :: r) → ∃ r, ns.foldl (fun found n => found.flatMap (growP n)) A = [] :: r from fun ns => this ns _ ⟨_, rfl⟩
  intro ns
  induction ns with
  | nil => exact fun A h => h
  | cons n ns ih =>
    rintro A ⟨r, rfl⟩
    exact ih _ ⟨_, rfl⟩
theorem alikes_Ns : ∀ (a b : Fm), PySem.W.alikeAll (D.pds (a.map eNs)) (D.pds (b.map eNs)) = true
  | [], _ => by simp [D.pds, PySem.W.alikeAll]
  | _ :: _, [] => by simp [D.pds, PySem.W.alikeAll]
  | x :: xs, y :: ys => by
    simp [D.pds, PySem.W.alikeAll, alikes_Ns xs ys]
    exact alike_Ns x y
theorem ok_Fm {n : Nat} {φ : Fm} (h : ∀ g ∈ φ, okNs g) : (eFm φ).ok (n + 2) = true := by
  rw [eFm, D.ok]
  exact oks_map fun a ha => ok_Ns (h a ha)
theorem smp_Fm (φ : Fm) : (eFm φ).smp = true := by
  rw [eFm, D.smp]
  exact smps_map smp_Ns φ
theorem eFm_inj : ∀ a b, eFm a = eFm b → a = b := fun a b h => by
  injection h with h
  exact map_inj eNs_inj h
/-- sorted of forms, the first one empty -/
theorem w_sortF {l : List Fm} (h : ∀ φ ∈ l, ∀ g ∈ φ, okNs g) {r : List Fm} (e0 : l = [] :: r) {mu : Bool} {hh : MH} {d : D} {Q : D → MH → Prop} (e : seqOf hh d = some (l.map eFm)) (k : mkL mu ((srt eFm l).map eFm) hh Q) : bSorted2 mu hh [d] Q := by
  refine .inl ⟨l.map eFm, e, oks_map fun a ha => ok_Fm (h a ha), ⟨fun x hx y hy => ?_, .inr ⟨?_, fun x hx => ?_⟩⟩, by rw [sortD_map]; exact k⟩
  · rw [List.map_map] at hx hy
    obtain ⟨a, _, rfl⟩ := List.mem_map.mp hx
    obtain ⟨b, _, rfl⟩ := List.mem_map.mp hy
    simp only [Function.comp_apply, eFm, D.pd, PySem.W.alike]
    exact alikes_Ns a b
  · rw [e0]
    exact ⟨_, rfl⟩
  · rw [List.map_map] at hx
    obtain ⟨a, _, rfl⟩ := List.mem_map.mp hx
    exact ⟨_, rfl⟩
theorem nd_of_flat : ∀ {φ : Fm}, φ.flatten.Nodup → ∀ {g : List Str}, g ∈ φ → g.Nodup
  | [], _, _, hg => by cases hg
  | x :: φ, h, g, hg => by
    rw [List.flatten_cons, List.nodup_append] at h
    rcases List.mem_cons.mp hg with rfl | hg
    · exact h.1
    · exact nd_of_flat h.2.1 hg
def allForms (ns : List Str) : List Fm := srt eFm ((rawP ns).map (srt eNs))
def G_all_forms : Gs := fun ds h K => ∃ ns : List Str, ds = [eNs ns] ∧ ns.length ≤ 8 ∧ ns.Nodup ∧ okNs ns ∧ K (.lst ((allForms ns).map eFm)) h
theorem pre_flat {α β : Type} (f : α → List β) {l p q : List α} (e : l = p ++ q) : (p.flatMap f).length ≤ (l.flatMap f).length := by
  rw [e, List.flatMap_append, List.length_append]
  omega
theorem p_all_forms {ds : List D} {h : MH} {K : D → MH → Prop} (g : G_all_forms ds h K) : bodyG 6 1 s_all_forms ds h K := by
  obtain ⟨ns, rfl, hl, nd, ho, k⟩ := g
  refine ⟨rfl, ?_⟩
  have sl : 1000000 ≤ sizeLine := by decide
  simp [s_all_forms, List.replicate]
  refine forL_pre (enc := eS) (fun p ρ h' => (∃ d x y z w, ρ = [some (eNs ns), some d, x, y, z, w] ∧ lstOf h' d = some ((rawP p).map eFm)) ∧ ∃ T, h' = h ++ T) ns _ _ ⟨⟨_, _, _, _, _, rfl, rfl⟩, [], by simp⟩ (fun _ _ _ _ => trivial) (fun p n q e ρ' h' K' hP k' => ?_) fun ρ' h' hP => ?_
  · obtain ⟨⟨d, x, y, z, w, rfl, ed⟩, T, rfl⟩ := hP
    have hp8 : (p ++ [n]).length ≤ 8 := by
      rw [e] at hl
      simp at hl ⊢
      omega
    have ndp : p.Nodup := by
      rw [e, List.nodup_append] at nd
      exact nd.1
    obtain ⟨b1, b2⟩ := rawP_le hp8
    obtain ⟨c1, c2⟩ := rawP_le (ns := p) (by simp at hp8; omega)
    rw [rawP_snoc] at b1 b2
    generalize hF : rawP p = F at *
    generalize hH : h ++ T = h0 at *
    simp
    refine iW_any ed fun chk hc => ?_
    refine forL_pre (enc := eFm) (fun fs ρ h' => ∃ h1, (∃ T1, h1 = h0 ++ T1) ∧ h' = h1 ++ [.lst ((fs.flatMap (growP n)).map eFm)] ∧ ∃ z w, ρ = [some (eNs ns), some d, some (.str n), some (.ref h1.length), z, w]) F _ _ ⟨h0, ⟨[], by simp⟩, rfl, _, _, rfl⟩ ?_ (fun fs φ r e2 ρ2 h2 K2 hP2 k2 => ?_) fun ρ2 h2 hP2 => ?_
    · rintro fs ρ2 h2 ⟨h1, ⟨T1, rfl⟩, rfl, _⟩
      rw [List.append_assoc]
      exact hc _
    · obtain ⟨h1, ⟨T1, e1⟩, rfl, z2, w2, rfl⟩ := hP2
      have hφ : φ ∈ F := by rw [e2]; simp
      have hφ8 := c2 φ hφ
      have hlen := pre_flat (growP n) (p := fs ++ [φ]) (q := r) (l := F) (by rw [e2, List.append_assoc]; rfl)
      rw [List.flatMap_append, List.length_append] at hlen
      have hg : ([φ].flatMap (growP n)) = growP n φ := by simp
      rw [hg, growP_len] at hlen
      generalize hA : fs.flatMap (growP n) = A at *
      have hfm : ∀ χ : Fm, seqOf (h1 ++ [O.lst (A.map eFm)]) (eFm χ) = some (χ.map eNs) := fun _ => rfl
      simp
      refine ⟨_, rfl, by simp; omega, ?_⟩
      have e3 : D.lst [eFm φ, D.tup (φ.map eNs ++ [D.tup [D.str n]])] = D.lst ([φ, φ ++ [[n]]].map eFm) := by simp [eFm, eNs, eS]
      rw [e3]
      refine w_addR get_new (by simp; omega) ?_
      rw [← List.map_append]
      refine w_len (xs := φ.map eNs) rfl fun _ => ⟨(φ.length : Int), by simp, by omega, by omega, ?_⟩
      rw [Int.toNat_natCast]
      generalize hh1 : h1 ++ [O.lst (A.map eFm)] = h3
      refine forL_pre (enc := fun i : Nat => D.int i) (fun is ρ h' => h' = h3 ++ [.lst ((A ++ [φ, φ ++ [[n]]] ++ is.map (ins n φ)).map eFm)] ∧ ∃ w, ρ = [some (eNs ns), some d, some (.str n), some (.ref h3.length), some (eFm φ), w]) (List.range φ.length) _ _ ⟨by simp, _, rfl⟩ (fun _ _ _ _ => trivial) (fun is i js e4 ρ3 h4 K3 hP3 k3 => ?_) fun ρ3 h4 hP3 => ?_
      · obtain ⟨rfl, w3, rfl⟩ := hP3
        have hi : i < φ.length := by
          have : i ∈ List.range φ.length := by rw [e4]; simp
          simpa using this
        have hil : is.length < φ.length := by
          have := congrArg List.length e4
          simp at this
          omega
        have hgl : (φ[i]).length ≤ 8 := by
          have wf := wf_raw ndp φ (by rw [hF]; exact hφ)
          have hin := wf.sub φ[i] (List.getElem_mem hi)
          have hnd : (φ[i]).Nodup := nd_of_flat wf.nd (List.getElem_mem hi)
          have := len_sub hnd hin
          simp at hp8
          omega
        simp
        refine slF_take ⟨_, rfl, ixF hi ⟨_, rfl, by simp; omega, slF_drop ⟨_, rfl, by simp; omega, ?_⟩⟩⟩
        refine w_app get_new (by simp; omega) ?_
        have e5 : D.tup ((φ.take i).map eNs ++ D.tup (φ[i].map eS ++ [D.str n]) :: (φ.drop (i + 1)).map eNs) = eFm (ins n φ i) := by
          rw [ins_eq hi]
          simp [eFm, eNs, eS]
        rw [e5]
        refine k3 _ _ ⟨?_, _, rfl⟩
        simp
      · obtain ⟨rfl, w3, rfl⟩ := hP3
        refine k2 _ _ ⟨h3, ⟨T1 ++ [O.lst (A.map eFm)], ?_⟩, ?_, _, _, rfl⟩
        · rw [← hh1, e1, List.append_assoc]
        · rw [List.flatMap_append, hA, hg]
          simp [growP]
    · obtain ⟨h1, ⟨T1, e1⟩, rfl, z2, w2, rfl⟩ := hP2
      simp
      refine k' _ _ ⟨⟨_, _, _, _, _, rfl, ?_⟩, ?_⟩
      · rw [rawP_snoc, hF]
        simp
      · rw [e1, ← hH]
        exact ⟨T ++ (T1 ++ [.lst ((F.flatMap (growP n)).map eFm)]), by simp⟩
  · obtain ⟨⟨d, x, y, z, w, rfl, ed⟩, T, rfl⟩ := hP
    obtain ⟨b1, b2⟩ := rawP_le hl
    simp
    have hh : h ++ T = (h ++ T) ++ [] := by simp
    rw [hh]
    refine iW_any ed fun chk hc => ?_
    rw [← hh]
    refine turns_all (enc := eFm) (fun φ : Fm => eFm (srt eNs φ)) (by rw [hh]; exact hc _) (rawP ns) [] (by simp; omega) (fun φ hφ acc K2 hl2 k2 => ?_) ?_
    · have wf := wf_raw nd φ hφ
      simp
      refine w_sorted srtE_Ns (l := φ) (fun g hg => ⟨fun n hn => ho n (wf.sub g hg n hn), wf.ne g hg⟩) rfl ?_
      simp
      exact ⟨hl2, k2⟩
    · obtain ⟨r, er⟩ := rawP_head ns
      simp
      refine w_sortF (l := (rawP ns).map (srt eNs)) (fun φ hφ g hg => ?_) (r := r.map (srt eNs)) ?_ ?_ ?_
      · obtain ⟨χ, hc, rfl⟩ := List.mem_map.mp hφ
        exact fun n hn => ho n ((wf_raw nd χ hc).sub g (mem_srt.mp hg) n hn)
      · rw [er, List.map_cons]
        simp [srt]
      · rw [List.map_map]
        rfl
      · simp
        refine gc_new ?_ k
        rw [D.bel]
        exact bels_smp (smps_map smp_Fm _)
end Z

set_option Elab.async false
set_option linter.all false
set_option maxRecDepth 100000
/-! MJ: the law's groupings -/
namespace Z
open PySem PySem.Spec PyProof.Rows L2
theorem rawL_snoc (ns : List Str) (n : Str) : rawL (ns ++ [n]) = rawL ns ++ (rawL ns).flatMap (growL n) := by
  unfold rawL
  rw [List.foldl_append]
  rfl
theorem rawL_le {ns : List Str} (h : ns.length ≤ 8) : (rawL ns).length ≤ 362880 ∧ ∀ φ ∈ rawL ns, φ.length ≤ 8 := by
  obtain ⟨h1, h2⟩ := rawP_le h
  have p := raw_perm ns
  exact ⟨by rw [← p.length_eq]; exact h1, fun φ hφ => h2 φ (p.mem_iff.mpr hφ)⟩
theorem growL_len {n : Str} {φ : Fm} : (growL n φ).length = φ.length + 1 := by simp [growL]
theorem wf_rawL {ns : List Str} (nd : ns.Nodup) : ∀ φ ∈ rawL ns, WF ns φ := fun φ hφ => wf_raw nd φ ((raw_perm ns).mem_iff.mpr hφ)
theorem w_listR {h : MH} {d : D} {xs : List D} {Q : D → MH → Prop} (e : lstOf h d = some xs) (k : Q (.ref h.length) (h ++ [.lst xs])) : bList true h [d] Q := by
  have q := seq_of_lst e
  cases d with
  | scr ns => cases e
  | _ => exact ⟨xs, q, k⟩
def G_L_groupings : Gs := fun ds h K => ∃ ns : List Str, ds = [.lst (ns.map eS)] ∧ ns.length ≤ 8 ∧ ns.Nodup ∧ okNs ns ∧ K (.lst ((rawL ns).map eFm)) h
theorem p_L_groupings {ds : List D} {h : MH} {K : D → MH → Prop} (g : G_L_groupings ds h K) : bodyG 6 1 s_L_groupings ds h K := by
  obtain ⟨ns, rfl, hl, nd, ho, k⟩ := g
  refine ⟨rfl, ?_⟩
  have sl : 1000000 ≤ sizeLine := by decide
  simp [s_L_groupings, List.replicate]
  refine forL_pre (enc := eS) (fun p ρ h' => (∃ d x y z w, ρ = [some (.lst (ns.map eS)), some d, x, y, z, w] ∧ lstOf h' d = some ((rawL p).map eFm) ∧ (d = .lst ((rawL p).map eFm) ∨ ∃ m, d = .ref m ∧ h.length ≤ m)) ∧ ∃ T, h' = h ++ T) ns _ _ ⟨⟨_, _, _, _, _, rfl, rfl, .inl rfl⟩, [], by simp⟩ (fun _ _ _ _ => trivial) (fun p n q e ρ' h' K' hP k' => ?_) fun ρ' h' hP => ?_
  · obtain ⟨⟨d, x, y, z, w, rfl, ed, _⟩, T, rfl⟩ := hP
    have hp8 : (p ++ [n]).length ≤ 8 := by
      rw [e] at hl
      simp at hl ⊢
      omega
    have ndp : p.Nodup := by
      rw [e, List.nodup_append] at nd
      exact nd.1
    obtain ⟨b1, b2⟩ := rawL_le hp8
    obtain ⟨c1, c2⟩ := rawL_le (ns := p) (by simp at hp8; omega)
    rw [rawL_snoc, List.length_append] at b1
    generalize hF : rawL p = F at *
    generalize hH : h ++ T = h0 at *
    simp
    refine w_listR ed ?_
    refine iW_any ed fun chk hc => ?_
    refine forL_pre (enc := eFm) (fun fs ρ h' => h' = h0 ++ [.lst ((F ++ fs.flatMap (growL n)).map eFm)] ∧ ∃ z w, ρ = [some (.lst (ns.map eS)), some d, some (.str n), some (.ref h0.length), z, w]) F _ _ ⟨by simp, _, _, rfl⟩ ?_ (fun fs φ r e2 ρ2 h2 K2 hP2 k2 => ?_) fun ρ2 h2 hP2 => ?_
    · rintro fs ρ2 h2 ⟨rfl, _⟩
      exact hc _
    · obtain ⟨rfl, z2, w2, rfl⟩ := hP2
      have hφ : φ ∈ F := by rw [e2]; simp
      have hφ8 := c2 φ hφ
      have hlen := pre_flat (growL n) (p := fs ++ [φ]) (q := r) (l := F) (by rw [e2, List.append_assoc]; rfl)
      rw [List.flatMap_append, List.length_append] at hlen
      have hg : ([φ].flatMap (growL n)) = growL n φ := by simp
      rw [hg, growL_len] at hlen
      generalize hA : fs.flatMap (growL n) = A at *
      simp
      have ea : ∀ (Q : D → MH → Prop), Q (eFm (φ ++ [[n]])) (h0 ++ [O.lst (F.map eFm ++ A.map eFm)]) → wAdd false (h0 ++ [O.lst (F.map eFm ++ A.map eFm)]) (eFm φ) (D.tup [D.tup [D.str n]]) Q := fun Q q => by
        refine ⟨by simp; omega, ?_⟩
        have : eFm (φ ++ [[n]]) = D.tup (φ.map eNs ++ [D.tup [D.str n]]) := by simp [eFm, eNs, eS]
        rw [← this]
        exact q
      refine ea _ ?_
      refine w_app get_new (by simp; omega) ?_
      rw [set_new]
      refine w_len (xs := φ.map eNs) rfl fun _ => ⟨(φ.length : Int), by simp, by omega, by omega, ?_⟩
      rw [Int.toNat_natCast]
      refine forL_pre (enc := fun i : Nat => D.int i) (fun is ρ h' => h' = h0 ++ [.lst ((F ++ A ++ [φ ++ [[n]]] ++ is.map (ins n φ)).map eFm)] ∧ ∃ w, ρ = [some (.lst (ns.map eS)), some d, some (.str n), some (.ref h0.length), some (eFm φ), w]) (List.range φ.length) _ _ ⟨by simp, _, rfl⟩ (fun _ _ _ _ => trivial) (fun is i js e4 ρ3 h4 K3 hP3 k3 => ?_) fun ρ3 h4 hP3 => ?_
      · obtain ⟨rfl, w3, rfl⟩ := hP3
        have hi : i < φ.length := by
          have : i ∈ List.range φ.length := by rw [e4]; simp
          simpa using this
        have hil : is.length < φ.length := by
          have := congrArg List.length e4
          simp at this
          omega
        have hgl : (φ[i]).length ≤ 8 := by
          have wf := wf_rawL ndp φ (by rw [hF]; exact hφ)
          have hin := wf.sub φ[i] (List.getElem_mem hi)
          have hnd : (φ[i]).Nodup := nd_of_flat wf.nd (List.getElem_mem hi)
          have := len_sub hnd hin
          simp at hp8
          omega
        simp
        refine slF_take (ixF hi ?_)
        have e6 : ∀ {h : MH} {Q : D → MH → Prop}, Q (eNs (φ[i] ++ [n])) h → wAdd false h (eNs φ[i]) (D.tup [D.str n]) Q := fun {h Q} q => by
          refine ⟨by simp; omega, ?_⟩
          have : eNs (φ[i] ++ [n]) = D.tup (φ[i].map eS ++ [D.str n]) := by simp [eNs, eS]
          rw [← this]
          exact q
        refine e6 ?_
        have e7 : ∀ {h : MH} {Q : D → MH → Prop}, Q (eFm (φ.take i ++ [φ[i] ++ [n]])) h → wAdd false h (eFm (φ.take i)) (D.tup [eNs (φ[i] ++ [n])]) Q := fun {h Q} q => by
          refine ⟨by simp; omega, ?_⟩
          have : eFm (φ.take i ++ [φ[i] ++ [n]]) = D.tup ((φ.take i).map eNs ++ [eNs (φ[i] ++ [n])]) := by simp [eFm]
          rw [← this]
          exact q
        refine e7 ?_
        refine slF_drop ?_
        have e8 : ∀ {h : MH} {Q : D → MH → Prop}, Q (eFm (ins n φ i)) h → wAdd false h (eFm (φ.take i ++ [φ[i] ++ [n]])) (eFm (φ.drop (i + 1))) Q := fun {h Q} q => by
          refine ⟨by simp; omega, ?_⟩
          have : eFm (ins n φ i) = D.tup ((φ.take i ++ [φ[i] ++ [n]]).map eNs ++ (φ.drop (i + 1)).map eNs) := by rw [ins_eq hi]; simp [eFm]
          rw [← this]
          exact q
        refine e8 ?_
        refine w_app get_new (by simp; omega) ?_
        refine k3 _ _ ⟨?_, _, rfl⟩
        simp
      · obtain ⟨rfl, w3, rfl⟩ := hP3
        refine k2 _ _ ⟨?_, _, _, rfl⟩
        rw [List.flatMap_append, hA, hg]
        simp [growL]
    · obtain ⟨rfl, z2, w2, rfl⟩ := hP2
      simp
      refine k' _ _ ⟨⟨_, _, _, _, _, rfl, ?_, .inr ⟨_, rfl, ?_⟩⟩, ?_⟩
      · rw [rawL_snoc, hF]
        simp
      · rw [← hH, List.length_append]
        omega
      · rw [← hH, List.append_assoc]
        exact ⟨_, rfl⟩
  · obtain ⟨⟨d, x, y, z, w, rfl, ed, hd⟩, T, rfl⟩ := hP
    simp
    rcases hd with rfl | ⟨m, rfl, hm⟩
    · refine gc_new ?_ k
      rw [D.bel]
      exact bels_smp (smps_map smp_Fm _)
    · refine .inr (.inr (.inl ⟨m, _, T, rfl, rfl, hm, ?_, bels_smp (smps_map smp_Fm _), k⟩))
      unfold lstOf at ed
      dsimp only at ed
      cases q : (h ++ T)[m]? with
      | none => rw [q] at ed; cases ed
      | some o =>
        rw [q] at ed
        cases o with
        | lst ys => cases ed; rfl
        | _ => cases ed
end Z

set_option Elab.async false
set_option linter.all false
set_option maxRecDepth 100000
/-! MK: further names, own contents -/
namespace Z
open PySem PySem.Spec PyProof.Rows L2
def signs (z : Str) : List Str := z.cps.toList.map fun c => ⟨#[c]⟩
def LETT : Str := "abcdefghijklmnopqrstuvwxyz"
def SOMEN : List Str := (("" : Str) :: signs LETT).flatMap fun a => (signs LETT).map fun b => a ++ b
def asc : List Nat → Bool
  | a :: b :: l => decide (a < b) && asc (b :: l)
  | _ => true
theorem asc_pw : ∀ {l : List Nat}, asc l = true → l.Pairwise (· < ·)
  | [], _ => .nil
  | [a], _ => List.pairwise_singleton _ _
  | a :: b :: l, h => by
    rw [asc, Bool.and_eq_true, decide_eq_true_eq] at h
    have ih := asc_pw h.2
    refine List.pairwise_cons.mpr ⟨fun x hx => ?_, ih⟩
    rcases List.mem_cons.mp hx with rfl | hx
    · exact h.1
    · exact Nat.lt_trans h.1 ((List.pairwise_cons.mp ih).1 x hx)
def codeS (x : Str) : Nat := x.cps.toList.foldl (fun a c => a * 128 + c) 0
theorem somen_asc : asc (SOMEN.map codeS) = true := by decide +kernel
theorem somen_nd : SOMEN.Nodup := by
  have h := asc_pw somen_asc
  rw [List.pairwise_map] at h
  exact h.imp fun h e => by rw [e] at h; exact Nat.lt_irrefl _ h
theorem somen_ok : okNs SOMEN := by decide +kernel
theorem somen_len : SOMEN.length = 702 := by decide +kernel
def fresh (M : List Str) (m : Nat) : List Str := (SOMEN.filter fun n => !decide (n ∈ M)).take m
theorem fresh_mem {M : List Str} {m : Nat} {n : Str} (h : n ∈ fresh M m) : n ∉ M ∧ okN n := by
  have h := List.mem_of_mem_take h
  obtain ⟨h1, h2⟩ := List.mem_filter.mp h
  exact ⟨by simpa using h2, somen_ok n h1⟩
theorem fresh_nd (M : List Str) (m : Nat) : (fresh M m).Nodup := (somen_nd.filter _).sublist (List.take_sublist _ _)
theorem filter_out {α : Type} [DecidableEq α] {l M : List α} (nd : l.Nodup) : l.length ≤ (l.filter fun n => !decide (n ∈ M)).length + M.length := by
  have h1 : (l.filter fun n => decide (n ∈ M)).length ≤ M.length := len_sub (nd.filter _) fun a ha => by simpa using (List.mem_filter.mp ha).2
  have h2 : ∀ l : List α, l.length = (l.filter fun n => decide (n ∈ M)).length + (l.filter fun n => !decide (n ∈ M)).length := fun l => by
    induction l with
    | nil => rfl
    | cons a l ih =>
      rw [List.filter_cons, List.filter_cons, List.length_cons, ih]
      by_cases q : a ∈ M
      · simp [q]
        omega
      · simp [q]
        omega
  have := h2 l
  omega
theorem fresh_len {M : List Str} {m : Nat} (h : M.length + m ≤ 700) : (fresh M m).length = m := by
  have := filter_out (l := SOMEN) (M := M) somen_nd
  rw [somen_len] at this
  unfold fresh
  rw [List.length_take]
  omega
def G_further_names : Gs := fun ds h K => ∃ (M : List Str) (m : Nat), ds = [eNs M, .int m] ∧ okNs M ∧ K (.lst ((fresh M m).map eS)) h
theorem p_further_names {ds : List D} {h : MH} {K : D → MH → Prop} (g : G_further_names ds h K) : bodyG 6 2 s_further_names ds h K := by
  obtain ⟨M, m, rfl, ho, k⟩ := g
  refine ⟨rfl, ?_⟩
  have sl : 1000000 ≤ sizeLine := by decide
  have e1 : signD LETT = (signs LETT).map eS := by
    unfold signD signs
    rw [List.map_map]
    rfl
  simp [s_further_names, List.replicate, wipeR, c_LETTERS]
  refine ⟨by decide, by decide +kernel, ?_⟩
  have e2 : D.str (Str.ofString "") :: signD (Str.ofString "abcdefghijklmnopqrstuvwxyz") = (("" : Str) :: signs LETT).map eS := by
    show _ :: signD LETT = _
    rw [e1]
    rfl
  rw [e2]
  have ls : ∀ a ∈ (("" : Str) :: signs LETT), a.length ≤ 1 := by decide +kernel
  have ll : (signs LETT).length = 26 := by decide +kernel
  refine turns_flat (enc := eS) (fun a : Str => (signs LETT).map fun b => eS (a ++ b)) trivial (("" : Str) :: signs LETT) [] ?_ (fun a ha acc K' hl k' => ?_) ?_
  · have := flatMap_le (f := fun a : Str => (signs LETT).map fun b => eS (a ++ b)) (m := 26) (l := ("" : Str) :: signs LETT) fun a _ => by rw [List.length_map]; exact Nat.le_of_eq ll
    rw [List.length_cons, ll] at this
    simp only [List.length_nil, Nat.zero_add]
    omega
  · simp
    have e3 : (fun c : Nat => D.str { cps := #[c] }) = fun c => eS ⟨#[c]⟩ := rfl
    show turns _ _ _ _ ((Str.ofString "abcdefghijklmnopqrstuvwxyz").cps.toList.map fun c => D.str ⟨#[c]⟩) _ _ _ _
    have e4 : ((Str.ofString "abcdefghijklmnopqrstuvwxyz").cps.toList.map fun c => D.str ⟨#[c]⟩) = (signs LETT).map eS := e1
    rw [e4]
    refine turns_all (enc := eS) (fun b : Str => eS (a ++ b)) trivial (signs LETT) acc (by simpa using hl) (fun b hb acc K2 hl2 k2 => ?_) k'
    have h1 := ls a ha
    have h2 := ls b (List.mem_cons_of_mem _ hb)
    simp [eS]
    refine ⟨by omega, hl2, ?_⟩
    exact k2
  · have e5 : ((("" : Str) :: signs LETT).flatMap fun a : Str => (signs LETT).map fun b => eS (a ++ b)) = SOMEN.map eS := by
      unfold SOMEN
      rw [List.map_flatMap]
      simp only [List.map_map]
      rfl
    rw [e5]
    have l7 := somen_len
    simp
    refine turns_filter (fun n : Str => !decide (n ∈ M)) eS trivial SOMEN [] (by rw [l7]; simp; omega) (fun n hn acc K2 hl2 k2 k3 => ?_) ?_
    · simp [eS]
      refine w_inNs (somen_ok n hn) ho ?_
      by_cases q : n ∈ M
      · simp [q]
        exact k3 (by simp [q])
      · simp [q]
        exact ⟨hl2, k2 (by simp [q])⟩
    · simp
      refine gc_same ?_
      have e6 : cutL ((SOMEN.filter fun n => !decide (n ∈ M)).map eS) none (some (m : Int)) = (fresh M m).map eS := by rw [cutL_take, ← List.map_take]; rfl
      have k := k
      rw [← e6] at k
      exact k
end Z

set_option Elab.async false
set_option linter.all false
set_option maxRecDepth 100000
/-! MN: own contents, own disks -/
namespace Z
open PySem PySem.Spec PyProof.Rows L2
def lastD : Dd → D
  | .wr _ c => .int c | .sv _ c => .int c | .lk _ b => .str b | .mv _ b => .str b | .cp _ b => .str b | .rn _ b => .str b | .rm a => .str a
theorem eDd_last (w : Dd) : ∃ xs, eDd w = .tup xs ∧ atI xs (-1) = some (lastD w) := by
  cases w <;> exact ⟨_, rfl, rfl⟩
theorem lastD_ok {w : Dd} (h : w.ok) : (lastD w).ok 50 = true := by
  cases w with
  | wr a c => rfl
  | sv a c => rfl
  | lk a b => exact ok_S (h b (by simp [Dd.names]))
  | mv a b => exact ok_S (h b (by simp [Dd.names]))
  | cp a b => exact ok_S (h b (by simp [Dd.names]))
  | rn a b => exact ok_S (h b (by simp [Dd.names]))
  | rm a => exact ok_S (h a (by simp [Dd.names]))
theorem last_any (i : Int) : ∀ ws : List Dd, ((ws.map lastD).any fun z => z.eqv (.int i)) = decide (i ∈ ws.flatMap Dd.vals)
  | [] => rfl
  | w :: ws => by
    rw [List.map_cons, List.any_cons, last_any i ws]
    have e : (lastD w).eqv (.int i) = decide (i ∈ w.vals) := by
      have ei : ∀ c : Int, (c == i) = decide (i = c) := fun c => by
        rw [Bool.eq_iff_iff]
        simp
        exact eq_comm
      cases w <;> simp [lastD, Dd.vals, D.eqv, D.pd, PyData.eqv, ei]
    rw [e]
    simp
def valsP (ps : List (List Dd)) : List Int := ps.flatten.flatMap Dd.vals
def freshC (ps : List (List Dd)) (m : Nat) : List Int := (((List.range (ps.flatten.length + m + 1)).filter fun i : Nat => !decide ((i : Int) ∈ valsP ps)).take m).map fun i : Nat => (i : Int)
theorem freshC_mem {ps : List (List Dd)} {m : Nat} {c : Int} (h : c ∈ freshC ps m) : c ∉ valsP ps := by
  obtain ⟨i, hi, rfl⟩ := List.mem_map.mp h
  have h := (List.mem_filter.mp (List.mem_of_mem_take hi)).2
  simpa using h
theorem freshC_nd (ps : List (List Dd)) (m : Nat) : (freshC ps m).Nodup := by
  unfold freshC
  have h : ((List.range (ps.flatten.length + m + 1)).filter fun i : Nat => !decide ((i : Int) ∈ valsP ps)).Nodup := List.nodup_range.filter _
  have h := h.sublist (List.take_sublist m _)
  exact List.Pairwise.map _ (fun a b q e => q (by exact Int.ofNat.inj e)) h
theorem vals_len (ws : List Dd) : (ws.flatMap Dd.vals).length ≤ ws.length := by
  have := flatMap_le (f := Dd.vals) (m := 1) (l := ws) fun w _ => by cases w <;> simp [Dd.vals]
  omega
theorem freshC_len (ps : List (List Dd)) (m : Nat) : (freshC ps m).length = m := by
  have h1 : ((List.range (ps.flatten.length + m + 1)).map fun i : Nat => (i : Int)).Nodup := List.Pairwise.map _ (fun a b q e => q (Int.ofNat.inj e)) List.nodup_range
  have h2 := filter_out (M := valsP ps) h1
  rw [List.length_map, List.length_range, List.filter_map, List.length_map] at h2
  have h3 := vals_len ps.flatten
  unfold freshC
  rw [List.length_map, List.length_take]
  unfold valsP at h2 ⊢
  simp only [Function.comp_def] at h2
  omega
/-- lists of programs of bounded size -/
structure PsOk (ps : List (List Dd)) : Prop where
  n : ps.length ≤ 10
  l : ∀ p ∈ ps, p.length ≤ 100 ∧ ∀ w ∈ p, w.ok
  m : (mentN ps).length ≤ 8
def G_own_contents : Gs := fun ds h K => ∃ (ps : List (List Dd)) (m : Nat), ds = [.tup (ps.map eP), .int m] ∧ PsOk ps ∧ m ≤ 100 ∧ K (.lst ((freshC ps m).map .int)) h
theorem p_own_contents {ds : List D} {h : MH} {K : D → MH → Prop} (g : G_own_contents ds h K) : bodyG 6 2 s_own_contents ds h K := by
  obtain ⟨ps, m, rfl, hp, hm, k⟩ := g
  refine ⟨rfl, ?_⟩
  have sl : 1000000 ≤ sizeLine := by decide
  have hf := flat_len hp.n fun p q => (hp.l p q).1
  have e0 : (ps.flatMap fun p : List Dd => p.map lastD) = ps.flatten.map lastD := by rw [List.flatMap, List.map_flatten]
  have ow : ∀ w ∈ ps.flatten, w.ok := fun w hw => by
    obtain ⟨p, q, hw⟩ := List.mem_flatten.mp hw
    exact (hp.l p q).2 w hw
  simp [s_own_contents, List.replicate, wipeR]
  refine turns_flat (enc := eP) (fun p : List Dd => p.map lastD) trivial ps [] ?_ (fun p hpp acc K' hl k' => ?_) ?_
  · rw [e0]
    simp only [List.length_nil, List.length_map, Nat.zero_add]
    omega
  · simp
    refine turns_all (fun w : Dd => lastD w) trivial p acc (by simpa using hl) (fun w hw acc K2 hl2 k2 => ?_) k'
    obtain ⟨xs, e1, e2⟩ := eDd_last w
    simp [e1, e2, hl2]
    exact k2
  · rw [e0]
    unfold freshC valsP at k
    generalize ps.flatten = ws at *
    simp
    refine fun _ => ⟨by omega, by omega, ?_⟩
    rw [show ((ws.length : Int) + (m : Int) + 1).toNat = ws.length + m + 1 by omega]
    refine turns_filter (enc := fun i : Nat => D.int i) (fun i : Nat => !decide ((i : Int) ∈ ws.flatMap Dd.vals)) (fun i : Nat => D.int i) trivial (List.range (ws.length + m + 1)) [] (by simp; omega) (fun i hi acc K2 hl2 k2 k3 => ?_) ?_
    · simp
      refine .inr ⟨_, rfl, rfl, oks_map fun w hw => lastD_ok (ow w hw), ?_⟩
      rw [last_any]
      by_cases q : (i : Int) ∈ ws.flatMap Dd.vals
      · rw [decide_eq_true q]
        exact k3 (by rw [decide_eq_true q]; rfl)
      · rw [decide_eq_false q]
        exact ⟨hl2, k2 (by rw [decide_eq_false q]; rfl)⟩
    · simp only [List.nil_append]
      refine gc_same ?_
      have e6 : ∀ l : List Nat, cutL (l.map fun i : Nat => D.int i) none (some (m : Int)) = ((l.take m).map fun i : Nat => (i : Int)).map .int := fun l => by rw [cutL_take, ← List.map_take, List.map_map]; rfl
      rw [← e6] at k
      exact k
end Z

set_option Elab.async false
set_option linter.all false
set_option maxRecDepth 100000
/-! MO: own disks, labelled disks -/
namespace Z
open PySem PySem.Spec PyProof.Rows L2
def eN' (i : Nat) : D := .int i
theorem eN'_inj : ∀ a b, eN' a = eN' b → a = b := fun a b h => by
  injection h with h
  exact Int.ofNat.inj h
theorem smp_N' (i : Nat) : (eN' i).smp = true := rfl
def ownD (ps : List (List Dd)) (φ : Fm) (mk : List Nat) : Dk := mkOwn φ (fresh (mentN ps) φ.length) (freshC ps φ.length) mk
theorem enumE {φ : Fm} : (((List.range (φ.map eNs).length).zip (φ.map eNs)).map fun p => D.tup [.int p.1, p.2]) = φ.zipIdx.map fun p : List Str × Nat => D.tup [eN' p.2, eNs p.1] := by
  refine List.ext_getElem (by simp) fun i h1 h2 => ?_
  simp [eN']
theorem zi_get {φ : Fm} {p q : List (List Str × Nat)} {a : List Str × Nat} (e : φ.zipIdx = p ++ a :: q) : a.2 = p.length ∧ p.length < φ.length ∧ φ[a.2]? = some a.1 := by
  have hl : p.length < φ.length := by
    have := congrArg List.length e
    simp at this
    omega
  have h1 : φ.zipIdx[p.length]? = some a := by
    rw [e, List.getElem?_append_right (Nat.le_refl _)]
    simp
  rw [List.getElem?_zipIdx, List.getElem?_eq_getElem hl] at h1
  have h1 : (φ[p.length], 0 + p.length) = a := by simpa using h1
  rw [← h1]
  refine ⟨by simp, hl, ?_⟩
  simp
def eMk (md : D) (mk : List Nat) : Prop := md = .lst (mk.map eN') ∨ md = .tup (mk.map eN')
theorem eMk.seq {md : D} {mk : List Nat} (h : eMk md mk) (hh : MH) : seqOf hh md = some (mk.map eN') := by
  rcases h with rfl | rfl <;> rfl
theorem eMk.ns {md : D} {mk : List Nat} (h : eMk md mk) : ∀ z, md ≠ .str z := by
  rcases h with rfl | rfl <;> intro z e <;> cases e
theorem ixL {α : Type} {enc : α → D} {h : MH} {l : List α} {i : Nat} {a : α} {Q : D → MH → Prop} (e : l[i]? = some a) (k : Q (enc a) h) : wIx h (.lst (l.map enc)) (.int i) Q := by
  simp
  exact ⟨_, by rw [atI_of, List.getElem?_map, e]; rfl, k⟩
def G_own_disk : Gs := fun ds h K => ∃ (φ : Fm) (ps : List (List Dd)) (mk : List Nat) (md : D), ds = [eFm φ, .tup (ps.map eP), md] ∧ eMk md mk ∧ PsOk ps ∧ φ.length ≤ 8 ∧ (∀ g ∈ φ, g.length ≤ 8 ∧ okNs g) ∧ K (eDk (ownD ps φ mk)) h
theorem p_own_disk {ds : List D} {h : MH} {K : D → MH → Prop} (g : G_own_disk ds h K) : bodyG 10 3 (s_own_disk G_own_contents G_further_names G_mentioned) ds h K := by
  obtain ⟨φ, ps, mk, md, rfl, hmd, hp, hl, hg, k⟩ := g
  refine ⟨rfl, ?_⟩
  have sl : 1000000 ≤ sizeLine := by decide
  have oM : okNs (mentN ps) := mentN_ok fun p q => (hp.l p q).2
  have hm8 := hp.m
  simp [s_own_disk, List.replicate]
  refine ⟨ps, rfl, hp.n, hp.l, ?_⟩
  refine w_len (xs := φ.map eNs) rfl fun _ => ?_
  refine ⟨mentN ps, φ.length, by simp, oM, ?_⟩
  refine w_len (xs := φ.map eNs) rfl fun _ => ?_
  refine ⟨ps, φ.length, by simp, hp, by omega, ?_⟩
  have zl := fresh_len (M := mentN ps) (m := φ.length) (by omega)
  have cl := freshC_len ps φ.length
  have zok : ∀ z ∈ fresh (mentN ps) φ.length, okN z := fun z hz => (fresh_mem hz).2
  unfold ownD at k
  generalize fresh (mentN ps) φ.length = zs at *
  generalize freshC ps φ.length = cs at *
  simp
  refine ⟨_, rfl, ?_⟩
  rw [enumE]
  refine forL_pre (enc := fun p : List Str × Nat => D.tup [eN' p.2, eNs p.1]) (fun p ρ h' => (∃ x y z, ρ = [some (eFm φ), some (.tup (ps.map eP)), some md, some (eNs (mentN ps)), some (.lst (zs.map eS)), some (.lst (cs.map .int)), some (.ref h.length), x, y, z]) ∧ h' = h ++ [.lst ((p.map fun q : List Str × Nat => ((srt eS (fullG zs mk q), cs.getD q.2 0) : Fl)).map eFl)]) φ.zipIdx _ _ ⟨⟨_, _, _, rfl⟩, rfl⟩ (fun _ _ _ _ => trivial) (fun p a q e ρ' h' K' hP k' => ?_) fun ρ' h' hP => ?_
  · obtain ⟨⟨x, y, z, rfl⟩, rfl⟩ := hP
    obtain ⟨i, hi, hgi⟩ := zi_get e
    obtain ⟨ag, ai⟩ := a
    dsimp only at i hgi
    subst i
    obtain ⟨gl, go⟩ := hg ag (List.mem_of_getElem? hgi)
    have zi : zs[p.length]? = some (zs.getD p.length default) := by
      rw [List.getD_eq_getElem?_getD, List.getElem?_eq_getElem (by omega)]
      rfl
    have ci : cs[p.length]? = some (cs.getD p.length 0) := by
      rw [List.getD_eq_getElem?_getD, List.getElem?_eq_getElem (by omega)]
      rfl
    have okF : okNs (fullG zs mk (ag, p.length)) := fun n hn => by
      rcases mem_fullG.mp hn with hn | ⟨_, rfl⟩
      · exact go n hn
      · exact zok _ (List.mem_of_getElem? zi)
    have fl : (fullG zs mk (ag, p.length)).length ≤ 9 := by
      unfold fullG
      split
      · simp
        omega
      · dsimp only
        omega
    simp
    refine w_inE (enc := eN') eN'_inj smp_N' (hmd.ns) (hmd.seq _) rfl (fun _ _ => rfl) ?_
    by_cases hk : p.length ∈ mk
    · have ef : D.tup (ag.map eS ++ [D.str (zs.getD p.length default)]) = eNs (fullG zs mk (ag, p.length)) := by
        unfold fullG
        rw [if_pos hk]
        simp [eNs, eS]
      simp [hk]
      refine ixL (enc := eS) zi ⟨by omega, _, ty_new, rfl, ?_⟩
      have ef' : D.tup (ag.map eS ++ [eS (zs.getD p.length default)]) = eNs (fullG zs mk (ag, p.length)) := ef
      rw [ef']
      refine w_sorted srtE_S (l := fullG zs mk (ag, p.length)) okF rfl ?_
      simp
      refine ixL (enc := D.int) ci ?_
      refine w_app get_new (by simp; have := zi_get e; omega) ?_
      refine k' _ _ ⟨⟨_, _, _, rfl⟩, ?_⟩
      simp [eFl, eNs]
    · have ef : fullG zs mk (ag, p.length) = ag := by
        unfold fullG
        rw [if_neg hk]
      simp [hk]
      refine w_sorted srtE_S (l := ag) go rfl ?_
      simp
      refine ixL (enc := D.int) ci ?_
      refine w_app get_new (by simp; have := zi_get e; omega) ?_
      refine k' _ _ ⟨⟨_, _, _, rfl⟩, ?_⟩
      simp [eFl, eNs, ef]
  · obtain ⟨⟨x, y, z, rfl⟩, rfl⟩ := hP
    simp
    refine w_sorted (l := ownF φ zs cs mk) srtE_Fl (fun f hf => ?_) (by simp [ownF]) ?_
    · obtain ⟨p, hpz, rfl⟩ := List.mem_map.mp hf
      have hpz := mem_zi.mp hpz
      intro n hn
      rcases mem_fullG.mp (mem_srt.mp hn) with hn | ⟨_, rfl⟩
      · exact (hg _ (List.mem_of_getElem? hpz)).2 n hn
      · have hi : p.2 < zs.length := by
          have := (List.getElem?_eq_some_iff.mp hpz).1
          omega
        refine zok _ ?_
        rw [List.getD_eq_getElem?_getD, List.getElem?_eq_getElem hi]
        exact List.getElem_mem hi
    · simp
      exact gc_new (bel_smp (smp_Dk _)) k
end Z

set_option Elab.async false
set_option linter.all false
set_option maxRecDepth 100000
/-! MP: rows of own disks; labelled disks -/
namespace Z
open PySem PySem.Spec PyProof.Rows L2
theorem perm_flatten {α : Type} {a b : List (List α)} (p : a.Perm b) : a.flatten.Perm b.flatten := by
  induction p with
  | nil => exact .refl _
  | cons x _ ih => exact ih.append_left x
  | swap x y l =>
    rw [List.flatten_cons, List.flatten_cons, List.flatten_cons, List.flatten_cons, ← List.append_assoc, ← List.append_assoc]
    exact (List.perm_append_comm).append_right _
  | trans _ _ i1 i2 => exact i1.trans i2
theorem WF.perm {p : List Str} {φ χ : Fm} (h : WF p φ) (e : χ.Perm φ) : WF p χ :=
  ⟨fun g hg => h.sub g (e.mem_iff.mp hg), (perm_flatten e).nodup_iff.mpr h.nd, fun g hg => h.ne g (e.mem_iff.mp hg)⟩
theorem wf_forms {ns : List Str} (nd : ns.Nodup) {φ : Fm} (h : φ ∈ allForms ns) : WF ns φ := by
  obtain ⟨χ, hc, rfl⟩ := List.mem_map.mp (mem_srt.mp h)
  exact (wf_raw nd χ hc).perm (srt_perm eNs χ)
theorem forms_len {ns : List Str} (hl : ns.length ≤ 8) : (allForms ns).length ≤ 362880 ∧ ∀ φ ∈ allForms ns, φ.length ≤ 8 := by
  obtain ⟨h1, h2⟩ := rawP_le hl
  refine ⟨by rw [allForms, srt_len, List.length_map]; exact h1, fun φ hφ => ?_⟩
  obtain ⟨χ, hc, rfl⟩ := List.mem_map.mp (mem_srt.mp hφ)
  rw [srt_len]
  exact h2 χ hc
theorem WF.small {ns : List Str} {φ : Fm} (h : WF ns φ) (hl : ns.length ≤ 8) (ho : okNs ns) : ∀ g ∈ φ, g.length ≤ 8 ∧ okNs g := fun g hg =>
  ⟨Nat.le_trans (len_sub (nd_of_flat h.nd hg) (h.sub g hg)) hl, fun n hn => ho n (h.sub g hg n hn)⟩
def ownDs (ps : List (List Dd)) : List Dk := (allForms (mentN ps)).map fun φ => ownD ps φ (List.range φ.length)
theorem PsOk.oM {ps : List (List Dd)} (hp : PsOk ps) : okNs (mentN ps) := mentN_ok fun p q => (hp.l p q).2
theorem rng_mk (n : Nat) : eMk (.lst (rngL n)) (List.range n) := .inl rfl
def G_own_disks : Gs := fun ds h K => ∃ ps : List (List Dd), ds = ps.map eP ∧ PsOk ps ∧ K (.lst ((ownDs ps).map eDk)) h
theorem p_own_disks {ds : List D} {h : MH} {K : D → MH → Prop} (g : G_own_disks ds h K) : starG 2 (s_own_disks G_all_forms G_mentioned G_own_disk) ds h K := by
  obtain ⟨ps, rfl, hp, k⟩ := g
  have sl : 1000000 ≤ sizeLine := by decide
  have hn := hp.n
  refine ⟨by simp; omega, rfl, ?_⟩
  obtain ⟨f1, f2⟩ := forms_len hp.m
  simp [s_own_disks, List.replicate, wipeR]
  refine ⟨ps, rfl, hp.n, hp.l, mentN ps, rfl, hp.m, mentN_nd ps, hp.oM, ?_⟩
  simp
  refine turns_all (enc := eFm) (fun φ : Fm => eDk (ownD ps φ (List.range φ.length))) trivial (allForms (mentN ps)) [] (by simp; omega) (fun φ hφ acc K2 hl2 k2 => ?_) ?_
  · simp
    have f8 := f2 φ hφ
    refine w_len (xs := φ.map eNs) rfl fun _ => ?_
    refine ⟨φ.length, by simp, by omega, φ, ps, List.range φ.length, _, rfl, rng_mk _, hp, f8, (wf_forms (mentN_nd ps) hφ).small hp.m hp.oM, hl2, k2⟩
  · simp
    refine gc_same ?_
    unfold ownDs at k
    rw [List.map_map] at k
    exact k
/-! the law's -/
def ZS : List Str := ["za", "zb", "zc", "zd", "ze", "zf", "zg", "zh", "zi", "zj"]
def CS : List Int := [500, 501, 502, 503, 504, 505, 506, 507, 508, 509]
theorem cs_at : ∀ i : Nat, i < 10 → CS.getD i 0 = 500 + (i : Int) := by decide +kernel
theorem zs_at : ∀ i : Nat, i < 10 → ∃ c, atI (Str.ofString "abcdefghij").cps.toList (i : Int) = some c ∧ ZS.getD i default = (Str.ofString "z") ++ (⟨#[c]⟩ : Str) := by
  intro i hi
  rw [atI_of]
  match i, hi with
  | 0, _ => exact ⟨_, rfl, by decide +kernel⟩
  | 1, _ => exact ⟨_, rfl, by decide +kernel⟩
  | 2, _ => exact ⟨_, rfl, by decide +kernel⟩
  | 3, _ => exact ⟨_, rfl, by decide +kernel⟩
  | 4, _ => exact ⟨_, rfl, by decide +kernel⟩
  | 5, _ => exact ⟨_, rfl, by decide +kernel⟩
  | 6, _ => exact ⟨_, rfl, by decide +kernel⟩
  | 7, _ => exact ⟨_, rfl, by decide +kernel⟩
  | 8, _ => exact ⟨_, rfl, by decide +kernel⟩
  | 9, _ => exact ⟨_, rfl, by decide +kernel⟩
def labD (φ : Fm) (mk : List Nat) : Dk := mkOwn φ ZS CS mk
theorem zs_ok : okNs ZS := by decide +kernel
def G_L_labelled : Gs := fun ds h K => ∃ (φ : Fm) (mk : List Nat) (md : D), ds = [eFm φ, md] ∧ eMk md mk ∧ φ.length ≤ 8 ∧ (∀ g ∈ φ, g.length ≤ 8 ∧ okNs g) ∧ K (eDk (labD φ mk)) h
theorem p_L_labelled {ds : List D} {h : MH} {K : D → MH → Prop} (g : G_L_labelled ds h K) : bodyG 6 2 s_L_labelled ds h K := by
  obtain ⟨φ, mk, md, rfl, hmd, hl, hg, k⟩ := g
  refine ⟨rfl, ?_⟩
  have sl : 1000000 ≤ sizeLine := by decide
  simp [s_L_labelled, List.replicate]
  refine ⟨_, rfl, ?_⟩
  rw [enumE]
  refine forL_pre (enc := fun p : List Str × Nat => D.tup [eN' p.2, eNs p.1]) (fun p ρ h' => (∃ x y z, ρ = [some (eFm φ), some md, some (.ref h.length), x, y, z]) ∧ h' = h ++ [.lst ((p.map fun q : List Str × Nat => ((srt eS (fullG ZS mk q), CS.getD q.2 0) : Fl)).map eFl)]) φ.zipIdx _ _ ⟨⟨_, _, _, rfl⟩, rfl⟩ (fun _ _ _ _ => trivial) (fun p a q e ρ' h' K' hP k' => ?_) fun ρ' h' hP => ?_
  · obtain ⟨⟨x, y, z, rfl⟩, rfl⟩ := hP
    obtain ⟨i, hi, hgi⟩ := zi_get e
    obtain ⟨ag, ai⟩ := a
    dsimp only at i hgi
    subst i
    obtain ⟨gl, go⟩ := hg ag (List.mem_of_getElem? hgi)
    have hi10 : p.length < 10 := by omega
    obtain ⟨c, ec, ez⟩ := zs_at p.length hi10
    have zi : ZS.getD p.length default ∈ ZS := by
      rw [List.getD_eq_getElem?_getD, List.getElem?_eq_getElem (show p.length < ZS.length from hi10)]
      exact List.getElem_mem _
    have okF : okNs (fullG ZS mk (ag, p.length)) := fun n hn => by
      rcases mem_fullG.mp hn with hn | ⟨_, rfl⟩
      · exact go n hn
      · exact zs_ok _ zi
    have e5 : D.int (500 + (p.length : Int)) = .int (CS.getD p.length 0) := by rw [cs_at _ hi10]
    simp
    refine w_inE (enc := eN') eN'_inj smp_N' (hmd.ns) (hmd.seq _) rfl (fun _ _ => rfl) ?_
    by_cases hk : p.length ∈ mk
    · have ef : D.tup (ag.map eS ++ [D.str (ZS.getD p.length default)]) = eNs (fullG ZS mk (ag, p.length)) := by
        unfold fullG
        rw [if_pos hk]
        simp [eNs, eS]
      simp [hk]
      refine ⟨by decide, c, ec, ?_⟩
      show (Str.ofString "z").length + (⟨#[c]⟩ : Str).length ≤ sizeLine ∧ _
      have l1 : (Str.ofString "z").length + (⟨#[c]⟩ : Str).length = 2 := rfl
      refine ⟨by rw [l1]; omega, ?_⟩
      rw [← ez]
      refine ⟨_, ty_new, rfl, ⟨by simp; omega, ?_⟩⟩
      rw [ef]
      refine w_sorted srtE_S (l := fullG ZS mk (ag, p.length)) okF rfl ?_
      simp
      show wAdd false _ (D.int 500) (D.int (p.length : Int)) _
      rw [w_addI]
      rw [e5]
      refine w_app get_new (by simp; have := zi_get e; omega) ?_
      refine k' _ _ ⟨⟨_, _, _, rfl⟩, ?_⟩
      simp [eFl, eNs]
    · have ef : fullG ZS mk (ag, p.length) = ag := by
        unfold fullG
        rw [if_neg hk]
      simp [hk]
      have ew : ∀ {h : MH} {Q : D → MH → Prop}, Q (eNs ag) h → wAdd false h (eNs ag) (D.tup []) Q := fun {h Q} q => by
        refine ⟨by simp; omega, ?_⟩
        rw [List.append_nil]
        exact q
      refine ew ?_
      refine w_sorted srtE_S (l := ag) go rfl ?_
      simp
      show wAdd false _ (D.int 500) (D.int (p.length : Int)) _
      rw [w_addI]
      rw [e5]
      refine w_app get_new (by simp; have := zi_get e; omega) ?_
      refine k' _ _ ⟨⟨_, _, _, rfl⟩, ?_⟩
      simp [eFl, eNs, ef]
  · obtain ⟨⟨x, y, z, rfl⟩, rfl⟩ := hP
    simp
    refine w_sorted (l := ownF φ ZS CS mk) srtE_Fl (fun f hf => ?_) (by simp [ownF]) ?_
    · obtain ⟨p, hpz, rfl⟩ := List.mem_map.mp hf
      have hpz := mem_zi.mp hpz
      intro n hn
      rcases mem_fullG.mp (mem_srt.mp hn) with hn | ⟨_, rfl⟩
      · exact (hg _ (List.mem_of_getElem? hpz)).2 n hn
      · have hi : p.2 < ZS.length := by
          have := (List.getElem?_eq_some_iff.mp hpz).1
          have e : ZS.length = 10 := rfl
          omega
        refine zs_ok _ ?_
        rw [List.getD_eq_getElem?_getD, List.getElem?_eq_getElem hi]
        exact List.getElem_mem hi
    · simp
      exact gc_new (bel_smp (smp_Dk _)) k
def provDs (ns : List Str) : List Dk := (rawL ns).map fun φ => labD φ (List.range φ.length)
def G_L_proving : Gs := fun ds h K => ∃ ns : List Str, ds = [.lst (ns.map eS)] ∧ ns.length ≤ 8 ∧ ns.Nodup ∧ okNs ns ∧ K (.lst ((provDs ns).map eDk)) h
theorem p_L_proving {ds : List D} {h : MH} {K : D → MH → Prop} (g : G_L_proving ds h K) : bodyG 2 1 (s_L_proving G_L_groupings G_L_labelled) ds h K := by
  obtain ⟨ns, rfl, hl, nd, ho, k⟩ := g
  have sl : 1000000 ≤ sizeLine := by decide
  refine ⟨rfl, ?_⟩
  obtain ⟨f1, f2⟩ := rawL_le hl
  simp [s_L_proving, List.replicate, wipeR]
  refine ⟨ns, rfl, hl, nd, ho, ?_⟩
  simp
  refine turns_all (enc := eFm) (fun φ : Fm => eDk (labD φ (List.range φ.length))) trivial (rawL ns) [] (by simp; omega) (fun φ hφ acc K2 hl2 k2 => ?_) ?_
  · simp
    have f8 := f2 φ hφ
    refine w_len (xs := φ.map eNs) rfl fun _ => ?_
    refine ⟨φ.length, by simp, by omega, φ, List.range φ.length, _, rfl, rng_mk _, f8, (wf_rawL nd φ hφ).small hl ho, hl2, k2⟩
  · simp
    refine gc_same ?_
    unfold provDs at k
    rw [List.map_map] at k
    exact k
end Z

set_option Elab.async false
set_option linter.all false
set_option maxRecDepth 100000
/-! NF: the program's and the law's rows of disks tell of all disks -/
namespace Z
open PySem PySem.Spec PyProof.Rows L2
theorem valsP_mem {ps : List (List Dd)} {c : Int} : c ∈ valsP ps ↔ ∃ p ∈ ps, ∃ w ∈ p, c ∈ w.vals := by
  unfold valsP
  rw [List.mem_flatMap]
  constructor
  · rintro ⟨w, hw, hn⟩
    obtain ⟨p, hp, hw⟩ := List.mem_flatten.mp hw
    exact ⟨p, hp, w, hw, hn⟩
  · rintro ⟨p, hp, w, hw, hn⟩
    exact ⟨w, List.mem_flatten.mpr ⟨p, hp, hw⟩, hn⟩
theorem prIn_of {ps : List (List Dd)} {p : List Dd} (h : p ∈ ps) : PrIn (mentN ps) (valsP ps) p := fun w hw =>
  ⟨fun n hn => mem_mentN.mpr ⟨p, h, w, hw, hn⟩, fun c hc => valsP_mem.mpr ⟨p, h, w, hw, hc⟩⟩
theorem PrIn.sub {M : List Str} {C : List Int} {p q : List Dd} (h : PrIn M C p) (s : ∀ w ∈ q, w ∈ p) : PrIn M C q := fun w hw => h w (s w hw)
theorem PrIn.app {M : List Str} {C : List Int} {p q : List Dd} (h : PrIn M C p) (h2 : PrIn M C q) : PrIn M C (p ++ q) := fun w hw => (List.mem_append.mp hw).elim (h w) (h2 w)
theorem own_ok {ps : List (List Dd)} (hp : PsOk ps) {φ : Fm} (w : WF (mentN ps) φ) (hl : φ.length ≤ 8) : OwnOk (mentN ps) (valsP ps) φ (fresh (mentN ps) φ.length) (freshC ps φ.length) where
  sub := w.sub
  nd := w.nd
  ne := w.ne
  ok := hp.oM
  zl := Nat.le_of_eq (fresh_len (by have := hp.m; omega)).symm
  zn := fresh_nd _ _
  zm := fun z hz => fresh_mem hz
  cl := Nat.le_of_eq (freshC_len ps _).symm
  cn := freshC_nd _ _
  cm := fun c hc => freshC_mem hc
theorem lab_ok {M : List Str} {C : List Int} {φ : Fm} (w : WF M φ) (hl : φ.length ≤ 8) (ho : okNs M) (hz : ∀ z ∈ ZS, z ∉ M) (hc : ∀ c ∈ CS, c ∉ C) : OwnOk M C φ ZS CS where
  sub := w.sub
  nd := w.nd
  ne := w.ne
  ok := ho
  zl := Nat.le_trans hl (by decide)
  zn := by decide +kernel
  zm := fun z h => ⟨hz z h, zs_ok z h⟩
  cl := Nat.le_trans hl (by decide)
  cn := by decide +kernel
  cm := hc
/-- the groups in another order -/
theorem Says.perm {E : Str → Str → Bool} {p : List Str} {φ χ : Fm} (h : Says E p φ) (e : χ.Perm φ) : Says E p χ := fun a ha b hb => by
  rw [h a ha b hb]
  exact ⟨fun ⟨g, hg, q⟩ => ⟨g, e.mem_iff.mpr hg, q⟩, fun ⟨g, hg, q⟩ => ⟨g, e.mem_iff.mp hg, q⟩⟩
theorem agree_of {M : List Str} {C : List Int} {φ : Fm} {zs : List Str} {cs : List Int} {mk : List Nat} (h : OwnOk M C φ zs cs) {d : Dk} (s : Says (areSame d) M φ) : Agree M (mkOwn φ zs cs mk) d := fun a ha b hb => by
  rw [Bool.eq_iff_iff, own_on h ha hb, s a ha b hb]
theorem says_forms {d : Dk} (v : Valid d) {ns : List Str} (nd : ns.Nodup) : ∃ φ ∈ allForms ns, Says (areSame d) ns φ := by
  obtain ⟨φ, hφ, s⟩ := says_raw (per_same v) nd
  exact ⟨srt eNs φ, mem_srt.mpr (List.mem_map.mpr ⟨φ, hφ, rfl⟩), s.perm (srt_perm eNs φ)⟩
theorem fam_own {ps : List (List Dd)} (hp : PsOk ps) : Fam (mentN ps) (valsP ps) (ownDs ps) := by
  have nd := mentN_nd ps
  obtain ⟨_, f2⟩ := forms_len hp.m
  refine ⟨fun o ho => ?_, fun d v => ?_⟩
  · obtain ⟨φ, hφ, rfl⟩ := List.mem_map.mp ho
    have h := own_ok hp (wf_forms nd hφ) (f2 φ hφ)
    exact ⟨own_gen h, own_full h fun i hi => List.mem_range.mpr hi⟩
  · obtain ⟨φ, hφ, s⟩ := says_forms v nd
    exact ⟨_, List.mem_map.mpr ⟨φ, hφ, rfl⟩, agree_of (own_ok hp (wf_forms nd hφ) (f2 φ hφ)) s⟩
theorem fam_prov {M : List Str} {C : List Int} (nd : M.Nodup) (hl : M.length ≤ 8) (ho : okNs M) (hz : ∀ z ∈ ZS, z ∉ M) (hc : ∀ c ∈ CS, c ∉ C) : Fam M C (provDs M) := by
  obtain ⟨_, f2⟩ := rawL_le hl
  refine ⟨fun o ho' => ?_, fun d v => ?_⟩
  · obtain ⟨φ, hφ, rfl⟩ := List.mem_map.mp ho'
    have h := lab_ok (C := C) (wf_rawL nd φ hφ) (f2 φ hφ) ho hz hc
    exact ⟨own_gen h, own_full h fun i hi => List.mem_range.mpr hi⟩
  · obtain ⟨φ, hφ, s⟩ := says_raw (per_same v) nd
    have hφ := (raw_perm M).mem_iff.mp hφ
    exact ⟨_, List.mem_map.mpr ⟨φ, hφ, rfl⟩, agree_of (lab_ok (C := C) (wf_rawL nd φ hφ) (f2 φ hφ) ho hz hc) s⟩
/-! sizes of such disks -/
theorem own_size {φ : Fm} {zs : List Str} {cs : List Int} {mk : List Nat} {M : List Str} (w : WF M φ) : (mkOwn φ zs cs mk).length = φ.length ∧ tot (mkOwn φ zs cs mk) ≤ M.length + φ.length := by
  have h1 : (mkOwn φ zs cs mk).length = φ.length := by
    unfold mkOwn ownF
    rw [srt_len, List.length_map, List.length_zipIdx]
  refine ⟨h1, ?_⟩
  have h2 : tot (mkOwn φ zs cs mk) = tot (ownF φ zs cs mk) := by
    unfold tot
    exact ((srt_perm eFl (ownF φ zs cs mk)).flatMap_right _).length_eq
  have h3 : ∀ (φ : Fm) (k : Nat), (((φ.zipIdx k).map fun p => (srt eS (fullG zs mk p), cs.getD p.2 0)).flatMap (fun f : Fl => f.1)).length ≤ φ.flatten.length + φ.length := by
    intro φ
    induction φ with
    | nil => intro k; simp
    | cons g φ ih =>
      intro k
      rw [List.zipIdx_cons, List.map_cons, List.flatMap_cons, List.length_append, List.flatten_cons, List.length_append, List.length_cons]
      have := ih (k + 1)
      have : (srt eS (fullG zs mk (g, k))).length ≤ g.length + 1 := by
        rw [srt_len]
        unfold fullG
        split
        · simp
        · simp
      dsimp only
      omega
  have h4 := h3 φ 0
  have h5 : φ.flatten.length ≤ M.length := len_sub w.nd fun a ha => by
    obtain ⟨g, hg, hm⟩ := List.mem_flatten.mp ha
    exact w.sub g hg a hm
  rw [h2]
  unfold tot ownF
  omega
end Z

set_option Elab.async false
set_option linter.all false
set_option maxRecDepth 100000
/-! MQ: alike, the law's same, near -/
namespace Z
open PySem PySem.Spec PyProof.Rows L2
theorem after_run {o : Dk} (v : Valid o) (hs : o.length ≤ 8 ∧ tot o ≤ 16) {p : List Dd} (hl : p.length ≤ 100) (ok : ∀ w ∈ p, w.ok) : okRun o p := okRun_valid v ok (by omega)
theorem own_sz {ps : List (List Dd)} (hp : PsOk ps) {o : Dk} (h : o ∈ ownDs ps) : o.length ≤ 8 ∧ tot o ≤ 16 := by
  obtain ⟨φ, hφ, rfl⟩ := List.mem_map.mp h
  have f8 := (forms_len hp.m).2 φ hφ
  obtain ⟨h1, h2⟩ := own_size (zs := fresh (mentN ps) φ.length) (cs := freshC ps φ.length) (mk := List.range φ.length) (wf_forms (mentN_nd ps) hφ)
  have := hp.m
  unfold ownD
  omega
theorem prov_sz {M : List Str} (nd : M.Nodup) (hl : M.length ≤ 8) {o : Dk} (h : o ∈ provDs M) : o.length ≤ 8 ∧ tot o ≤ 16 := by
  obtain ⟨φ, hφ, rfl⟩ := List.mem_map.mp h
  have f8 := (rawL_le hl).2 φ hφ
  obtain ⟨h1, h2⟩ := own_size (zs := ZS) (cs := CS) (mk := List.range φ.length) (wf_rawL nd φ hφ)
  unfold labD
  omega
def G_alike : Gs := fun ds h K => ∃ p q : List Dd, ds = [eP p, eP q] ∧ PsOk [p, q] ∧ ∀ b : Bool, (b = true ↔ Alike p q) → K (.bl b) h
theorem p_alike {ds : List D} {h : MH} {K : D → MH → Prop} (g : G_alike ds h K) : bodyG 3 2 (s_alike G_own_disks G_after) ds h K := by
  obtain ⟨p, q, rfl, hp, k⟩ := g
  have sl : 1000000 ≤ sizeLine := by decide
  refine ⟨rfl, ?_⟩
  have F := fam_own hp
  obtain ⟨lp, op⟩ := hp.l p (by simp)
  obtain ⟨lq, oq⟩ := hp.l q (by simp)
  have f1 := (forms_len hp.m).1
  simp [s_alike, List.replicate, wipeR]
  refine ⟨[p, q], rfl, hp, ?_⟩
  simp
  refine turns_all (enc := eDk) (fun o : Dk => D.bl (decide (after o p = after o q))) trivial (ownDs [p, q]) [] (by simp [ownDs]; omega) (fun o ho acc K2 hl2 k2 => ?_) ?_
  · have v := (F.gen o ho).1.v
    have sz := own_sz hp ho
    have v1 := valid_after v op
    have v2 := valid_after v oq
    simp
    refine ⟨(o, p), rfl, after_run v sz lp op, (o, q), rfl, after_run v sz lq oq, ?_⟩
    refine w_eqDk.mpr ?_
    refine w_eqE (enc := eDk) eDk_inj smp_Dk (eDk_60 v1) (eDk_60 v2) ?_
    simp
    exact ⟨hl2, k2⟩
  · simp
    refine ⟨(ownDs [p, q]).map fun o => decide (after o p = after o q), by rw [List.map_map]; rfl, ?_⟩
    refine gc_same (k _ ?_)
    rw [← F.alike (prIn_of (by simp)) (prIn_of (by simp)) op oq]
    simp
/-- fit for the law's comparison -/
structure LawOk (p q : List Dd) : Prop where
  ps : PsOk [p, q]
  l : p.length ≤ 40 ∧ q.length ≤ 40
  z : ∀ z ∈ ZS, z ∉ mentN [p, q]
  c : ∀ c ∈ CS, c ∉ valsP [p, q]
theorem mentN_app (p q : List Dd) : mentN [p ++ q] = mentN [p, q] := by
  unfold mentN allN
  simp
def G_L_same : Gs := fun ds h K => ∃ p q : List Dd, ds = [eP p, eP q] ∧ LawOk p q ∧ ∀ b : Bool, (b = true ↔ Alike p q) → K (.bl b) h
theorem p_L_same {ds : List D} {h : MH} {K : D → MH → Prop} (g : G_L_same ds h K) : bodyG 3 2 (s_L_same G_L_proving G_L_mentioned G_L_after) ds h K := by
  obtain ⟨p, q, rfl, L, k⟩ := g
  have sl : 1000000 ≤ sizeLine := by decide
  have bg : 1000 ≤ BIG := by decide
  refine ⟨rfl, ?_⟩
  have hp := L.ps
  have nd := mentN_nd [p, q]
  have F := fam_prov (C := valsP [p, q]) nd hp.m hp.oM L.z L.c
  obtain ⟨lp, op⟩ := hp.l p (by simp)
  obtain ⟨lq, oq⟩ := hp.l q (by simp)
  obtain ⟨l1, l2⟩ := L.l
  have opq : ∀ w ∈ p ++ q, w.ok := fun w hw => (List.mem_append.mp hw).elim (op w) (oq w)
  have A := F.alike (prIn_of (ps := [p, q]) (by simp)) (prIn_of (ps := [p, q]) (by simp)) op oq
  simp [s_L_same, List.replicate]
  have ea : ∀ {Q : D → MH → Prop}, Q (eP (p ++ q)) h → wAdd false h (eP p) (eP q) Q := fun {Q} z => by
    refine ⟨by simp; omega, ?_⟩
    rw [← List.map_append]
    exact z
  refine ea ⟨p ++ q, rfl, by simp; omega, opq, ?_, ?_⟩
  · rw [mentN_app]
    have := hp.m
    omega
  rw [mentN_app]
  refine ⟨mentN [p, q], rfl, hp.m, nd, hp.oM, ?_⟩
  simp
  refine forL_pre (enc := eDk) (fun os ρ h' => (∃ x, ρ = [some (eP p), some (eP q), x]) ∧ h' = h ∧ ∀ o ∈ os, after o p = after o q) (provDs (mentN [p, q])) _ _ ⟨⟨_, rfl⟩, rfl, fun o ho => by cases ho⟩ (fun _ _ _ _ => trivial) (fun os o r e ρ' h' K' hP k' => ?_) fun ρ' h' hP => ?_
  · obtain ⟨⟨x, rfl⟩, rfl, hq⟩ := hP
    have ho : o ∈ provDs (mentN [p, q]) := by rw [e]; simp
    have v := (F.gen o ho).1.v
    have sz := prov_sz nd hp.m ho
    have v1 := valid_after v op
    have v2 := valid_after v oq
    simp
    refine ⟨o, p, rfl, by omega, by omega, okTab_of v op (by omega) (by omega), ?_⟩
    rw [lawAfter_eq v op]
    refine ⟨o, q, rfl, by omega, by omega, okTab_of v oq (by omega) (by omega), ?_⟩
    rw [lawAfter_eq v oq]
    refine w_eqDk.mpr ?_
    refine w_eqE (enc := eDk) eDk_inj smp_Dk (eDk_60 v1) (eDk_60 v2) ?_
    by_cases z : after o p = after o q
    · simp [z]
      refine k' _ _ ⟨⟨_, rfl⟩, rfl, fun y hy => ?_⟩
      rcases List.mem_append.mp hy with hy | hy
      · exact hq y hy
      · rw [List.mem_singleton.mp hy]
        exact z
    · simp [z]
      refine gc_same (k false ?_)
      rw [← A]
      constructor
      · intro e; cases e
      · exact fun q => absurd (q o ho) z
  · obtain ⟨⟨x, rfl⟩, rfl, hq⟩ := hP
    simp
    exact gc_same (k true ⟨fun _ => A.mp hq, fun _ => rfl⟩)
end Z

set_option Elab.async false
set_option linter.all false
set_option maxRecDepth 100000
/-! MR: near programs; programs that are drawn -/
namespace Z
open PySem PySem.Spec PyProof.Rows L2
section
variable {h : MH} {Q : D → MH → Prop} {p q : List Dd} {i : Nat} {mu : Bool}
theorem slP_take (k : Q (eP (p.take i)) h) : wSl mu h (eP p) none (some (i : Int)) Q := by
  show Q (.tup (cutL (p.map eDd) none (some (i : Int)))) h
  rw [cutL_take, ← List.map_take]
  exact k
theorem slP_drop (k : Q (eP (p.drop i)) h) : wSl mu h (eP p) (some (i : Int)) none Q := by
  show Q (.tup (cutL (p.map eDd) (some (i : Int)) none)) h
  rw [cutL_drop, ← List.map_drop]
  exact k
theorem slP_drop1 (k : Q (eP (p.drop (i + 1))) h) : wSl mu h (eP p) (some ((i : Int) + 1)) none Q := by
  have := slP_drop (mu := mu) (i := i + 1) k
  rwa [show ((i + 1 : Nat) : Int) = (i : Int) + 1 by omega] at this
theorem addP (hl : p.length + q.length ≤ sizeLine) (k : Q (eP (p ++ q)) h) : wAdd mu h (eP p) (eP q) Q := by
  refine ⟨by simpa using hl, ?_⟩
  rw [← List.map_append]
  exact k
theorem addP1 {w : Dd} (hl : p.length + 1 ≤ sizeLine) (k : Q (eP (p ++ [w])) h) : wAdd mu h (eP p) (.tup [eDd w]) Q := addP (q := [w]) (by simpa using hl) k
theorem lenP (hl : p.length ≤ sizeLine) (k : Q (.int p.length) h) : bLen h [eP p] Q := w_len (xs := p.map eDd) rfl fun _ => by simpa using k
theorem revP (k : Q (eP p.reverse) h) : wRev mu h (eP p) Q := by
  show Q (.tup (p.map eDd).reverse) h
  rw [← List.map_reverse]
  exact k
end
def G_L_near : Gs := fun ds h K => ∃ (t b : Nat) (ns : List Str) (p : List Dd), ds = [.ref t, eP p, .lst (ns.map eS)] ∧ 0 < ns.length ∧ ns.length ≤ 1000 ∧ p.length ≤ 50 ∧ isPr ns p ∧ Tp h t (b + 6) ∧
  ∀ (q : List Dd) (o : O), isPr ns q → q.length ≤ p.length + 1 → Tp (h.set t o) t b → K (eP q) (h.set t o)
theorem p_L_near {ds : List D} {h : MH} {K : D → MH → Prop} (g : G_L_near ds h K) : bodyG 6 3 (s_L_near G_L_deed G_L_draw) ds h K := by
  obtain ⟨t, b, ns, p, rfl, n0, n1, pl, pi, x, k⟩ := g
  have sl : 1000000 ≤ sizeLine := by decide
  refine ⟨rfl, ?_⟩
  simp [s_L_near, List.replicate]
  refine lenP (by omega) ?_
  rw [w_addI]
  refine draw_call (b := b + 5) (m := (p.length : Int) + 1) (by omega) (by omega) x fun r o r0 r1 x1 => ?_
  obtain ⟨i, rfl⟩ : ∃ n : Nat, r = n := ⟨r.toNat, by omega⟩
  refine draw_call (b := b + 4) (by omega) (by omega) x1 fun w o2 w0 w1 x2 => ?_
  rw [List.set_set] at x2 ⊢
  refine ⟨t, b, ns, rfl, n0, n1, x2, fun dd o3 hd x3 => ?_⟩
  rw [List.set_set] at x3 ⊢
  have hi : i ≤ p.length := by omega
  have pt : isPr ns (p.take i) := fun a ha => pi a (List.mem_of_mem_take ha)
  have pd : ∀ j, isPr ns (p.drop j) := fun j a ha => pi a (List.mem_of_mem_drop ha)
  have pa : ∀ {a b : List Dd}, isPr ns a → isPr ns b → isPr ns (a ++ b) := fun h1 h2 y hy => (List.mem_append.mp hy).elim (h1 y) (h2 y)
  have p1 : isPr ns [dd] := fun a ha => by rw [List.mem_singleton.mp ha]; exact hd
  have lt : (p.take i).length = i := by rw [List.length_take]; omega
  have ld : (p.drop i).length = p.length - i := List.length_drop
  have ld1 : (p.drop (i + 1)).length = p.length - (i + 1) := List.length_drop
  have tail3 : (wSl false (h.set t o3) (eP p) none (some (i : Int)) fun x h1 => wRev false h1 x fun d h2 => wSl false h2 (eP p) (some (i : Int)) none fun d2 h3 => wAdd false h3 d d2 (gcK h K)) := by
    refine slP_take (revP (slP_drop (addP (by rw [List.length_reverse]; omega) (gc_same (k _ _ ?_ ?_ x3)))))
    · exact pa (fun a ha => pt a (List.mem_reverse.mp ha)) (pd i)
    · rw [List.length_append, List.length_reverse]
      omega
  have tail1 : (wSl false (h.set t o3) (eP p) none (some (i : Int)) fun x h1 => wSl false h1 (eP p) (some ((i : Int) + 1)) none fun y h2 => wAdd false h2 x y (gcK h K)) := by
    refine slP_take (slP_drop1 (addP (by omega) (gc_same (k _ _ (pa pt (pd _)) ?_ x3))))
    rw [List.length_append]
    omega
  have ins0 : (wSl false (h.set t o3) (eP p) none (some (i : Int)) fun x h1 => wAdd false h1 x (D.tup [eDd dd]) fun x h1 => wSl false h1 (eP p) (some (i : Int)) none fun y h2 => wAdd false h2 x y (gcK h K)) := by
    refine slP_take (addP1 (by omega) (slP_drop (addP ?_ (gc_same (k _ _ (pa (pa pt p1) (pd _)) ?_ x3)))))
    · simp
      omega
    · simp
      omega
  have ins1 : (wSl false (h.set t o3) (eP p) none (some (i : Int)) fun x h1 => wAdd false h1 x (D.tup [eDd dd]) fun x h1 => wSl false h1 (eP p) (some ((i : Int) + 1)) none fun y h2 => wAdd false h2 x y (gcK h K)) := by
    refine slP_take (addP1 (by omega) (slP_drop1 (addP ?_ (gc_same (k _ _ (pa (pa pt p1) (pd _)) ?_ x3)))))
    · simp
      omega
    · simp
      omega
  obtain hw | hw | hw | hw : w = 0 ∨ w = 1 ∨ w = 2 ∨ w = 3 := by omega
  · subst hw
    simp
    refine lenP (by omega) ?_
    rw [w_ltI]
    by_cases h8 : (p.length : Int) < 8
    · rw [decide_eq_true h8]
      exact ins0
    · rw [decide_eq_false h8]
      exact tail3
  · subst hw
    simp
    exact tail1
  · subst hw
    simp
    refine lenP (by omega) ?_
    rw [w_ltI]
    by_cases h3 : (i : Int) < p.length
    · rw [decide_eq_true h3]
      exact ins1
    · rw [decide_eq_false h3]
      exact tail3
  · subst hw
    simp
    exact tail3
theorem psOk_of {ws : List Str} {ps : List (List Dd)} (W : OkWs ws) (hn : ps.length ≤ 10) (h : ∀ p ∈ ps, isPr ws p ∧ p.length ≤ 100) : PsOk ps where
  n := hn
  l := fun p hp => ⟨(h p hp).2, (h p hp).1.ok W.ok⟩
  m := Nat.le_trans (mentN_len (fun p hp => (h p hp).1) W.nd) (Nat.le_trans W.le (by decide))
theorem psOk2 {ws : List Str} {p q : List Dd} (W : OkWs ws) (hp : isPr ws p) (hq : isPr ws q) (l1 : p.length ≤ 100) (l2 : q.length ≤ 100) : PsOk [p, q] := psOk_of W (by simp) fun r hr => by
  rcases List.mem_cons.mp hr with rfl | hr
  · exact ⟨hp, l1⟩
  · rw [List.mem_singleton.mp hr]
    exact ⟨hq, l2⟩
theorem lawOk_of {ws : List Str} {p q : List Dd} (W : OkWs ws) (hp : isPr ws p) (hq : isPr ws q) (l1 : p.length ≤ 40) (l2 : q.length ≤ 40) : LawOk p q := by
  have two : ∀ r ∈ [p, q], isPr ws r := fun r hr => by
    rcases List.mem_cons.mp hr with rfl | hr
    · exact hp
    · rw [List.mem_singleton.mp hr]
      exact hq
  refine ⟨psOk2 W hp hq (by omega) (by omega), ⟨l1, l2⟩, fun z hz hm => ?_, fun c hc hm => ?_⟩
  · obtain ⟨r, hr, w, hw, hn⟩ := mem_mentN.mp hm
    have h1 := W.sub z ((two r hr w hw).1 z hn)
    have h2 : ∀ z ∈ ZS, z ∉ WORDS := by decide +kernel
    exact h2 z hz h1
  · obtain ⟨r, hr, w, hw, hn⟩ := valsP_mem.mp hm
    have h1 := (two r hr w hw).2 c hn
    have h2 : ∀ c ∈ CS, c ∉ CONT := by decide +kernel
    exact h2 c hc h1
theorem bool_same {b c : Bool} {P : Prop} (h1 : b = true ↔ P) (h2 : c = true ↔ P) : b = c := by
  rw [Bool.eq_iff_iff, h1, h2]
end Z

set_option Elab.async false
set_option linter.all false
set_option maxRecDepth 100000
/-! NH: names that are there, that share, on all disks -/
namespace Z
open PySem PySem.Spec PyProof.Rows L2
/-- decided -/
noncomputable def dec (P : Prop) : Bool := @decide P (Classical.propDecidable P)
theorem dec_iff {P : Prop} : dec P = true ↔ P := by
  unfold dec
  exact @decide_eq_true_iff P (Classical.propDecidable P)
theorem dec_eq {P : Prop} {b : Bool} (h : b = true ↔ P) : b = dec P := by rw [Bool.eq_iff_iff, h, dec_iff]
def There (p : List Dd) (a : Str) : Prop := ∀ d, Valid d → (shown (after d p) a).isSome = true
def Gone (p : List Dd) (a : Str) : Prop := ∀ d, Valid d → (shown (after d p) a).isSome = false
def Tied (p : List Dd) (a b : Str) : Prop := ∀ d, Valid d → areSame (after d p) a b = true
def Free (p : List Dd) (a b : Str) : Prop := ∀ d, Valid d → areSame (after d p) a b = false
noncomputable def thereN (p : List Dd) : List Str := (mentN [p]).filter fun a => dec (There p a)
noncomputable def goneN (p : List Dd) : List Str := (mentN [p]).filter fun a => dec (Gone p a)
section
variable {M : List Str} {C : List Int} {Ds : List Dk} {p : List Dd}
theorem Fam.rep (F : Fam M C Ds) (hp : PrIn M C p) (op : ∀ a ∈ p, a.ok) {d : Dk} (v : Valid d) : ∃ o ∈ Ds, (∀ a ∈ M, (shown (after d p) a).isSome = (shown (after o p) a).isSome) ∧ ∀ a ∈ M, ∀ b ∈ M, areSame (after d p) a b = areSame (after o p) a b := by
  obtain ⟨o, ho, A⟩ := F.all d v
  obtain ⟨G, Mk⟩ := F.gen o ho
  obtain ⟨f, con, P, m, _, _⟩ := gen_after G v A (Mk.mark A G.v v) hp op
  refine ⟨o, ho, fun a ha => ?_, fun a ha b hb => P.sm a b a b (m a ha).to (m b hb).to⟩
  rw [P.sh a a (m a ha).to]
  cases shown (after o p) a <;> rfl
theorem Fam.there (F : Fam M C Ds) (hp : PrIn M C p) (op : ∀ a ∈ p, a.ok) {a : Str} (ha : a ∈ M) : (∀ o ∈ Ds, (shown (after o p) a).isSome = true) ↔ There p a := by
  constructor
  · intro h d v
    obtain ⟨o, ho, q, _⟩ := F.rep hp op v
    rw [q a ha]
    exact h o ho
  · exact fun h o ho => h o (F.gen o ho).1.v
theorem Fam.gone (F : Fam M C Ds) (hp : PrIn M C p) (op : ∀ a ∈ p, a.ok) {a : Str} (ha : a ∈ M) : (∀ o ∈ Ds, (shown (after o p) a).isSome = false) ↔ Gone p a := by
  constructor
  · intro h d v
    obtain ⟨o, ho, q, _⟩ := F.rep hp op v
    rw [q a ha]
    exact h o ho
  · exact fun h o ho => h o (F.gen o ho).1.v
theorem Fam.tied (F : Fam M C Ds) (hp : PrIn M C p) (op : ∀ a ∈ p, a.ok) {a b : Str} (ha : a ∈ M) (hb : b ∈ M) : (∀ o ∈ Ds, areSame (after o p) a b = true) ↔ Tied p a b := by
  constructor
  · intro h d v
    obtain ⟨o, ho, _, q⟩ := F.rep hp op v
    rw [q a ha b hb]
    exact h o ho
  · exact fun h o ho => h o (F.gen o ho).1.v
theorem Fam.free (F : Fam M C Ds) (hp : PrIn M C p) (op : ∀ a ∈ p, a.ok) {a b : Str} (ha : a ∈ M) (hb : b ∈ M) : (∀ o ∈ Ds, areSame (after o p) a b = false) ↔ Free p a b := by
  constructor
  · intro h d v
    obtain ⟨o, ho, _, q⟩ := F.rep hp op v
    rw [q a ha b hb]
    exact h o ho
  · exact fun h o ho => h o (F.gen o ho).1.v
end
end Z

set_option Elab.async false
set_option linter.all false
set_option maxRecDepth 100000
/-! MT: sure names, gone names -/
namespace Z
open PySem PySem.Spec PyProof.Rows L2
theorem eO_isN (x : Option Int) : (eO x).isN = !x.isSome := by cases x <;> rfl
theorem okRun.last {d : Dk} {p : List Dd} (h : okRun d p) : okD BIG (after d p) := (h.1 p [] (by simp)).mono (by decide)
/-- behind a program: own disks -/
def eDks (l : List Dk) : D := .lst (l.map eDk)
theorem eDks_inj : ∀ a b, eDks a = eDks b → a = b := fun a b h => by
  injection h with h
  exact map_inj eDk_inj h
theorem smp_Dks (l : List Dk) : (eDks l).smp = true := by
  rw [eDks, D.smp]
  exact smps_map smp_Dk l
theorem ok_Dks {l : List Dk} (h : ∀ d ∈ l, Valid d) : (eDks l).ok 60 = true := by
  rw [eDks, D.ok]
  exact oks_map fun d hd => ok_Dk fun f hf n hn => (h d hd).ok n (mem_names.mpr ⟨f, hf, hn⟩)
theorem iW_Dks {l : List Dk} {h : MH} {R : List D → (MH → Prop) → MH → Prop} (k : R (l.map eDk) (fun _ => True) h) : iW (eDks l) h R := k
def eSs (l : List Str) : D := .lst (l.map eS)
theorem eSs_inj : ∀ a b, eSs a = eSs b → a = b := fun a b h => by
  injection h with h
  exact map_inj eS_inj h
theorem smp_Ss (l : List Str) : (eSs l).smp = true := by
  rw [eSs, D.smp]
  exact smps_map smp_S l
theorem ok_Ss {l : List Str} {n : Nat} (h : okNs l) : (eSs l).ok (n + 1) = true := by
  rw [eSs, D.ok]
  exact oks_map fun a ha => ok_S (h a ha)
structure PrOk (p : List Dd) : Prop where
  ps : PsOk [p]
theorem PsOk.one {p : List Dd} (h : PsOk [p]) : p.length ≤ 100 ∧ ∀ w ∈ p, w.ok := h.l p (by simp)
def G_sure_names : Gs := fun ds h K => ∃ p : List Dd, ds = [eP p] ∧ PsOk [p] ∧ K (eSs (thereN p)) h
def G_gone_names : Gs := fun ds h K => ∃ p : List Dd, ds = [eP p] ∧ PsOk [p] ∧ K (eSs (goneN p)) h
theorem p_sure_names {ds : List D} {h : MH} {K : D → MH → Prop} (g : G_sure_names ds h K) : bodyG 4 1 (s_sure_names G_mentioned G_shown G_own_disks G_after) ds h K := by
  obtain ⟨p, rfl, hp, k⟩ := g
  have sl : 1000000 ≤ sizeLine := by decide
  refine ⟨rfl, ?_⟩
  have F := fam_own hp
  obtain ⟨lp, op⟩ := hp.one
  have f1 := (forms_len hp.m).1
  have hDl : (ownDs [p]).length ≤ 362880 := by simp [ownDs]; omega
  have hv : ∀ o ∈ ownDs [p], Valid o := fun o ho => (F.gen o ho).1.v
  have hr : ∀ o ∈ ownDs [p], okRun o p := fun o ho => after_run (hv o ho) (own_sz hp ho) lp op
  simp [s_sure_names, List.replicate, wipeR]
  refine ⟨[p], rfl, hp, ?_⟩
  simp
  refine turns_all (enc := eDk) (fun o : Dk => eDk (after o p)) trivial (ownDs [p]) [] (by simp; omega) (fun o ho acc K2 hl2 k2 => ?_) ?_
  · simp
    exact ⟨(o, p), rfl, hr o ho, hl2, k2⟩
  · simp
    refine ⟨[p], rfl, hp.n, hp.l, ?_⟩
    simp
    refine turns_filter (enc := eS) (fun a : Str => dec (There p a)) eS trivial (mentN [p]) [] (by simp; have := hp.m; omega) (fun a ha acc K2 hl2 k2 k3 => ?_) ?_
    · simp [eS]
      have oa : okN a := hp.oM a ha
      rw [show (ownDs [p]).map (fun o => eDk (after o p)) = ((ownDs [p]).map fun o => after o p).map eDk by rw [List.map_map]; rfl]
      refine turns_all (enc := eDk) (fun o : Dk => D.bl (shown o a).isSome) trivial ((ownDs [p]).map fun o => after o p) [] (by simp; omega) (fun o ho acc K4 hl4 k4 => ?_) ?_
      · obtain ⟨o, ho', rfl⟩ := List.mem_map.mp ho
        simp
        refine ⟨(after o p, a), rfl, ⟨(hr o ho').last, oa⟩, ?_⟩
        simp [eO_isN]
        exact ⟨hl4, k4⟩
      · simp
        refine ⟨((ownDs [p]).map fun o => after o p).map fun o => (shown o a).isSome, by simp [Function.comp_def], ?_⟩
        have e : ((((ownDs [p]).map fun o => after o p).map fun o => (shown o a).isSome).all id) = dec (There p a) := dec_eq (by
          rw [← F.there (prIn_of (by simp)) op ha]
          simp)
        rw [e]
        cases ed : dec (There p a) with
        | true => exact ⟨hl2, k2 ed⟩
        | false => exact k3 ed
    · simp
      exact gc_same k
theorem p_gone_names {ds : List D} {h : MH} {K : D → MH → Prop} (g : G_gone_names ds h K) : bodyG 4 1 (s_gone_names G_mentioned G_shown G_own_disks G_after) ds h K := by
  obtain ⟨p, rfl, hp, k⟩ := g
  have sl : 1000000 ≤ sizeLine := by decide
  refine ⟨rfl, ?_⟩
  have F := fam_own hp
  obtain ⟨lp, op⟩ := hp.one
  have f1 := (forms_len hp.m).1
  have hDl : (ownDs [p]).length ≤ 362880 := by simp [ownDs]; omega
  have hv : ∀ o ∈ ownDs [p], Valid o := fun o ho => (F.gen o ho).1.v
  have hr : ∀ o ∈ ownDs [p], okRun o p := fun o ho => after_run (hv o ho) (own_sz hp ho) lp op
  simp [s_gone_names, List.replicate, wipeR]
  refine ⟨[p], rfl, hp, ?_⟩
  simp
  refine turns_all (enc := eDk) (fun o : Dk => eDk (after o p)) trivial (ownDs [p]) [] (by simp; omega) (fun o ho acc K2 hl2 k2 => ?_) ?_
  · simp
    exact ⟨(o, p), rfl, hr o ho, hl2, k2⟩
  · simp
    refine ⟨[p], rfl, hp.n, hp.l, ?_⟩
    simp
    refine turns_filter (enc := eS) (fun a : Str => dec (Gone p a)) eS trivial (mentN [p]) [] (by simp; have := hp.m; omega) (fun a ha acc K2 hl2 k2 k3 => ?_) ?_
    · simp [eS]
      have oa : okN a := hp.oM a ha
      rw [show (ownDs [p]).map (fun o => eDk (after o p)) = ((ownDs [p]).map fun o => after o p).map eDk by rw [List.map_map]; rfl]
      refine turns_all (enc := eDk) (fun o : Dk => D.bl (!(shown o a).isSome)) trivial ((ownDs [p]).map fun o => after o p) [] (by simp; omega) (fun o ho acc K4 hl4 k4 => ?_) ?_
      · obtain ⟨o, ho', rfl⟩ := List.mem_map.mp ho
        simp
        refine ⟨(after o p, a), rfl, ⟨(hr o ho').last, oa⟩, ?_⟩
        simp [eO_isN]
        exact ⟨hl4, by simpa using k4⟩
      · simp
        refine ⟨((ownDs [p]).map fun o => after o p).map fun o => !(shown o a).isSome, by simp [Function.comp_def], ?_⟩
        have e : ((((ownDs [p]).map fun o => after o p).map fun o => !(shown o a).isSome).all id) = dec (Gone p a) := dec_eq (by
          rw [← F.gone (prIn_of (by simp)) op ha]
          simp)
        rw [e]
        cases ed : dec (Gone p a) with
        | true => exact ⟨hl2, k2 ed⟩
        | false => exact k3 ed
    · simp
      exact gc_same k
end Z

set_option Elab.async false
set_option linter.all false
set_option maxRecDepth 100000
/-! MU: the law's disks behind a program -/
namespace Z
open PySem PySem.Spec PyProof.Rows L2
structure Law1 (p : List Dd) : Prop where
  ps : PsOk [p]
  l : p.length ≤ 40
  z : ∀ z ∈ ZS, z ∉ mentN [p]
  c : ∀ c ∈ CS, c ∉ valsP [p]
theorem law1_of {ws : List Str} {p : List Dd} (W : OkWs ws) (hp : isPr ws p) (l : p.length ≤ 40) : Law1 p := by
  have one : ∀ r ∈ [p], isPr ws r := fun r hr => by rw [List.mem_singleton.mp hr]; exact hp
  refine ⟨psOk_of W (by simp) fun r hr => ⟨one r hr, by rw [List.mem_singleton.mp hr]; omega⟩, l, fun z hz hm => ?_, fun c hc hm => ?_⟩
  · obtain ⟨r, hr, w, hw, hn⟩ := mem_mentN.mp hm
    have h1 := W.sub z ((one r hr w hw).1 z hn)
    have h2 : ∀ z ∈ ZS, z ∉ WORDS := by decide +kernel
    exact h2 z hz h1
  · obtain ⟨r, hr, w, hw, hn⟩ := valsP_mem.mp hm
    have h1 := (one r hr w hw).2 c hn
    have h2 : ∀ c ∈ CS, c ∉ CONT := by decide +kernel
    exact h2 c hc h1
theorem Law1.fam {p : List Dd} (L : Law1 p) : Fam (mentN [p]) (valsP [p]) (provDs (mentN [p])) := fam_prov (mentN_nd _) L.ps.m L.ps.oM L.z L.c
theorem Law1.tab {p : List Dd} (L : Law1 p) {o : Dk} (ho : o ∈ provDs (mentN [p])) : Valid o ∧ tot o ≤ 16 ∧ o.length ≤ 8 ∧ okTab o p ∧ Valid (after o p) ∧ okRun o p := by
  have v := (L.fam.gen o ho).1.v
  have sz := prov_sz (mentN_nd _) L.ps.m ho
  have l := L.l
  have op := L.ps.one.2
  exact ⟨v, sz.2, sz.1, okTab_of v op (by omega) (by omega), valid_after v op, after_run v sz (by omega) op⟩
/-- [.. for name in some if [disk for disk in disks if ..] == []] -/
theorem prov_len {p : List Dd} (L : Law1 p) : (provDs (mentN [p])).length ≤ 362880 := by
  have := (rawL_le L.ps.m).1
  simp [provDs]
  omega
end Z

set_option Elab.async false
set_option linter.all false
set_option maxRecDepth 100000
/-! MY: pairs of names that share -/
namespace Z
open PySem PySem.Spec PyProof.Rows L2
/-- a clause that appends some for each; a bound of one's own -/
theorem turns_flatN {α : Type} {enc : α → D} {g : Gv} {ts : Tv} {B : List D → Rho → MH → (List D → MH → Prop) → Prop} {chk : MH → Prop} {ρ : Rho} {h : MH} {K : List D → MH → Prop} (N : Nat) (f : α → List D) (hc : chk h) : ∀ (l : List α) (acc : List D), acc.length + (l.flatMap f).length ≤ N →
    (∀ a ∈ l, ∀ (acc : List D) (K' : List D → MH → Prop), acc.length + (f a).length ≤ N → K' (acc ++ f a) h → g (enc a) ρ h fun ρ1 h1 => ts ρ1 h1 fun b h2 => match b with
      | true => B acc ρ1 h2 K'
      | false => K' acc h2) →
    K (acc ++ l.flatMap f) h → turns g ts B chk (l.map enc) acc ρ h K
  | [], acc, _, _, k => ⟨hc, by simpa using k⟩
  | a :: l, acc, hl, st, k => by
    rw [List.flatMap_cons, List.length_append] at hl
    refine ⟨hc, st a (List.mem_cons_self ..) acc _ (by omega) ?_⟩
    refine turns_flatN N f hc l _ (by rw [List.length_append]; omega) (fun b hb => st b (List.mem_cons_of_mem _ hb)) ?_
    rw [List.append_assoc, ← List.flatMap_cons]
    exact k
def pairA (M : List Str) (a : Str) : List (Str × Str) := (M.filter fun b => strLt a b).map fun b => (a, b)
def pairsN (M : List Str) : List (Str × Str) := M.flatMap (pairA M)
def ePr (x : Str × Str) : D := .tup [.str x.1, .str x.2]
theorem ePr_inj : ∀ a b, ePr a = ePr b → a = b := fun a b h => by
  injection h with h
  injection h with h1 h
  injection h with h2 _
  injection h1 with h1
  injection h2 with h2
  exact Prod.ext h1 h2
theorem smp_Pr (x : Str × Str) : (ePr x).smp = true := by simp [ePr, D.smp, D.smps]
theorem ok_Pr {n : Nat} {x : Str × Str} (h : okN x.1 ∧ okN x.2) : (ePr x).ok (n + 1) = true := by
  have h1 := ok_S (n := n) h.1
  have h2 := ok_S (n := n) h.2
  rw [ePr, D.ok]
  simp only [D.oks, Bool.and_eq_true]
  exact ⟨h1, h2, trivial⟩
theorem pairA_mem {M : List Str} {a : Str} {x : Str × Str} (h : x ∈ pairA M a) : x.1 = a ∧ x.2 ∈ M := by
  obtain ⟨b, hb, rfl⟩ := List.mem_map.mp h
  exact ⟨rfl, (List.mem_filter.mp hb).1⟩
theorem pairs_mem {M : List Str} {x : Str × Str} (h : x ∈ pairsN M) : x.1 ∈ M ∧ x.2 ∈ M := by
  obtain ⟨a, ha, hx⟩ := List.mem_flatMap.mp h
  obtain ⟨e, h2⟩ := pairA_mem hx
  rw [e]
  exact ⟨ha, h2⟩
theorem pairA_len (M : List Str) (a : Str) : (pairA M a).length ≤ M.length := by
  unfold pairA
  rw [List.length_map]
  exact List.length_filter_le ..
theorem pairs_len (M : List Str) : (pairsN M).length ≤ M.length * M.length := flatMap_le fun a _ => pairA_len M a
def G_pairs_of : Gs := fun ds h K => ∃ p : List Dd, ds = [eP p] ∧ PsOk [p] ∧ K (.lst ((pairsN (mentN [p])).map ePr)) h
theorem p_pairs_of {ds : List D} {h : MH} {K : D → MH → Prop} (g : G_pairs_of ds h K) : bodyG 4 1 (s_pairs_of G_mentioned) ds h K := by
  obtain ⟨p, rfl, hp, k⟩ := g
  have sl : 1000000 ≤ sizeLine := by decide
  refine ⟨rfl, ?_⟩
  have hm := hp.m
  simp [s_pairs_of, List.replicate, wipeR]
  refine ⟨[p], rfl, hp.n, hp.l, ?_⟩
  simp
  generalize mentN [p] = M at *
  have e0 : (M.flatMap fun a => (pairA M a).map ePr) = (pairsN M).map ePr := by rw [pairsN, List.map_flatMap]
  have pl := pairs_len M
  have mm : M.length * M.length ≤ 64 := Nat.mul_le_mul hm hm
  refine turns_flatN 64 (enc := eS) (fun a : Str => (pairA M a).map ePr) trivial M [] (by rw [e0]; simp; omega) (fun a ha acc K' hl k' => ?_) ?_
  · simp
    have e1 : (pairA M a).map ePr = (M.filter fun b => strLt a b).map fun b => ePr (a, b) := by rw [pairA, List.map_map]; rfl
    rw [e1] at k'
    refine turns_filter (enc := eS) (fun b : Str => strLt a b) (fun b : Str => ePr (a, b)) trivial M acc (by omega) (fun b hb acc K2 hl2 k2 k3 => ?_) k'
    simp [eS, ePr]
    show wLt h (.str a) (.str b) _
    have e2 : wLt h (.str a) (.str b) = fun Q => Q (.bl (strLt a b)) h := rfl
    rw [e2]
    cases e : strLt a b with
    | true => exact ⟨hl2, k2 e⟩
    | false => exact k3 e
  · rw [e0]
    simp
    exact gc_same k
noncomputable def sureP (p : List Dd) : List (Str × Str) := (pairsN (mentN [p])).filter fun x => dec (Tied p x.1 x.2)
noncomputable def neverP (p : List Dd) : List (Str × Str) := (pairsN (mentN [p])).filter fun x => dec (Free p x.1 x.2)
def ePs (l : List (Str × Str)) : D := .lst (l.map ePr)
theorem ePs_inj : ∀ a b, ePs a = ePs b → a = b := fun a b h => by
  injection h with h
  exact map_inj ePr_inj h
theorem smp_Ps (l : List (Str × Str)) : (ePs l).smp = true := by
  rw [ePs, D.smp]
  exact smps_map smp_Pr l
theorem ok_Ps {l : List (Str × Str)} {n : Nat} (h : ∀ x ∈ l, okN x.1 ∧ okN x.2) : (ePs l).ok (n + 2) = true := by
  rw [ePs, D.ok]
  exact oks_map fun a ha => ok_Pr (h a ha)
theorem pairs_ok {M : List Str} (ho : okNs M) {x : Str × Str} (h : x ∈ pairsN M) : okN x.1 ∧ okN x.2 := ⟨ho _ (pairs_mem h).1, ho _ (pairs_mem h).2⟩
def G_sure_shared : Gs := fun ds h K => ∃ p : List Dd, ds = [eP p] ∧ PsOk [p] ∧ K (ePs (sureP p)) h
def G_never_shared : Gs := fun ds h K => ∃ p : List Dd, ds = [eP p] ∧ PsOk [p] ∧ K (ePs (neverP p)) h
theorem p_sure_shared {ds : List D} {h : MH} {K : D → MH → Prop} (g : G_sure_shared ds h K) : bodyG 4 1 (s_sure_shared G_pairs_of G_are_same G_own_disks G_after) ds h K := by
  obtain ⟨p, rfl, hp, k⟩ := g
  have sl : 1000000 ≤ sizeLine := by decide
  refine ⟨rfl, ?_⟩
  have F := fam_own hp
  obtain ⟨lp, op⟩ := hp.one
  have f1 := (forms_len hp.m).1
  have hm := hp.m
  have hDl : (ownDs [p]).length ≤ 362880 := by simp [ownDs]; omega
  have hv : ∀ o ∈ ownDs [p], Valid o := fun o ho => (F.gen o ho).1.v
  have hr : ∀ o ∈ ownDs [p], okRun o p := fun o ho => after_run (hv o ho) (own_sz hp ho) lp op
  have pl := pairs_len (mentN [p])
  have mm : (mentN [p]).length * (mentN [p]).length ≤ 64 := Nat.mul_le_mul hm hm
  simp [s_sure_shared, List.replicate, wipeR]
  refine ⟨[p], rfl, hp, ?_⟩
  simp
  refine turns_all (enc := eDk) (fun o : Dk => eDk (after o p)) trivial (ownDs [p]) [] (by simp; omega) (fun o ho acc K2 hl2 k2 => ?_) ?_
  · simp
    exact ⟨(o, p), rfl, hr o ho, hl2, k2⟩
  · simp
    refine ⟨p, rfl, hp, ?_⟩
    simp
    refine turns_filter (enc := ePr) (fun x : Str × Str => dec (Tied p x.1 x.2)) ePr trivial (pairsN (mentN [p])) [] (by simp; omega) (fun x hx acc K2 hl2 k2 k3 => ?_) ?_
    · obtain ⟨o1, o2⟩ := pairs_ok hp.oM hx
      obtain ⟨m1, m2⟩ := pairs_mem hx
      simp
      rw [show (ownDs [p]).map (fun o => eDk (after o p)) = ((ownDs [p]).map fun o => after o p).map eDk by rw [List.map_map]; rfl]
      refine turns_all (enc := eDk) (fun o : Dk => D.bl (areSame o x.1 x.2)) trivial ((ownDs [p]).map fun o => after o p) [] (by simp; omega) (fun o ho acc K4 hl4 k4 => ?_) ?_
      · obtain ⟨o, ho', rfl⟩ := List.mem_map.mp ho
        simp [ePr]
        exact ⟨(after o p, x.1, x.2), rfl, ⟨(hr o ho').last, o1, o2⟩, hl4, k4⟩
      · simp
        refine ⟨((ownDs [p]).map fun o => after o p).map fun o => areSame o x.1 x.2, by simp [Function.comp_def], ?_⟩
        have e : ((((ownDs [p]).map fun o => after o p).map fun o => areSame o x.1 x.2).all id) = dec (Tied p x.1 x.2) := dec_eq (by
          rw [← F.tied (prIn_of (by simp)) op m1 m2]
          simp)
        rw [e]
        cases ed : dec (Tied p x.1 x.2) with
        | true => exact ⟨hl2, k2 ed⟩
        | false => exact k3 ed
    · simp
      exact gc_same k
theorem p_never_shared {ds : List D} {h : MH} {K : D → MH → Prop} (g : G_never_shared ds h K) : bodyG 4 1 (s_never_shared G_pairs_of G_are_same G_own_disks G_after) ds h K := by
  obtain ⟨p, rfl, hp, k⟩ := g
  have sl : 1000000 ≤ sizeLine := by decide
  refine ⟨rfl, ?_⟩
  have F := fam_own hp
  obtain ⟨lp, op⟩ := hp.one
  have f1 := (forms_len hp.m).1
  have hm := hp.m
  have hDl : (ownDs [p]).length ≤ 362880 := by simp [ownDs]; omega
  have hv : ∀ o ∈ ownDs [p], Valid o := fun o ho => (F.gen o ho).1.v
  have hr : ∀ o ∈ ownDs [p], okRun o p := fun o ho => after_run (hv o ho) (own_sz hp ho) lp op
  have pl := pairs_len (mentN [p])
  have mm : (mentN [p]).length * (mentN [p]).length ≤ 64 := Nat.mul_le_mul hm hm
  simp [s_never_shared, List.replicate, wipeR]
  refine ⟨[p], rfl, hp, ?_⟩
  simp
  refine turns_all (enc := eDk) (fun o : Dk => eDk (after o p)) trivial (ownDs [p]) [] (by simp; omega) (fun o ho acc K2 hl2 k2 => ?_) ?_
  · simp
    exact ⟨(o, p), rfl, hr o ho, hl2, k2⟩
  · simp
    refine ⟨p, rfl, hp, ?_⟩
    simp
    refine turns_filter (enc := ePr) (fun x : Str × Str => dec (Free p x.1 x.2)) ePr trivial (pairsN (mentN [p])) [] (by simp; omega) (fun x hx acc K2 hl2 k2 k3 => ?_) ?_
    · obtain ⟨o1, o2⟩ := pairs_ok hp.oM hx
      obtain ⟨m1, m2⟩ := pairs_mem hx
      simp
      rw [show (ownDs [p]).map (fun o => eDk (after o p)) = ((ownDs [p]).map fun o => after o p).map eDk by rw [List.map_map]; rfl]
      refine turns_all (enc := eDk) (fun o : Dk => D.bl (areSame o x.1 x.2)) trivial ((ownDs [p]).map fun o => after o p) [] (by simp; omega) (fun o ho acc K4 hl4 k4 => ?_) ?_
      · obtain ⟨o, ho', rfl⟩ := List.mem_map.mp ho
        simp [ePr]
        exact ⟨(after o p, x.1, x.2), rfl, ⟨(hr o ho').last, o1, o2⟩, hl4, k4⟩
      · simp
        refine ⟨((ownDs [p]).map fun o => after o p).map fun o => areSame o x.1 x.2, by simp [Function.comp_def], ?_⟩
        have e : (!((((ownDs [p]).map fun o => after o p).map fun o => areSame o x.1 x.2).any id)) = dec (Free p x.1 x.2) := dec_eq (by
          rw [← F.free (prIn_of (by simp)) op m1 m2]
          simp)
        rw [e]
        cases ed : dec (Free p x.1 x.2) with
        | true => exact ⟨hl2, k2 ed⟩
        | false => exact k3 ed
    · simp
      exact gc_same k
def G_L_together : Gs := G_are_same
theorem p_L_together {ds : List D} {h : MH} {K : D → MH → Prop} (g : G_L_together ds h K) : bodyG 5 3 s_L_together ds h K := by
  obtain ⟨⟨d, a, b⟩, rfl, ⟨hd, ha, hb⟩, k⟩ := g
  dsimp only at *
  refine ⟨rfl, ?_⟩
  simp [s_L_together, List.replicate, wipeR]
  refine turns_filter (enc := eFl) (fun f : Fl => decide (a ∈ f.1) && decide (b ∈ f.1)) (fun _ => D.int 1) trivial d [] (by simpa using len_line (Nat.le_trans hd.1 (by decide))) (fun f hf acc K2 hl2 k2 k3 => ?_) ?_
  · simp [eFl]
    refine w_inNs ha (hd.2 f hf).2 ?_
    by_cases h1 : a ∈ f.1
    · simp only [h1, decide_true, Bool.false_xor]
      refine w_inNs hb (hd.2 f hf).2 ?_
      by_cases h2 : b ∈ f.1
      · simp only [h2, decide_true, Bool.false_xor]
        exact ⟨hl2, k2 (by simp [h1, h2])⟩
      · simp only [h2, decide_false, Bool.false_xor]
        exact k3 (by simp [h2])
    · simp only [h1, decide_false, Bool.false_xor]
      exact k3 (by simp [h1])
  · simp
    have eL : ∀ l : List Fl, (D.eqv (.lst (l.map fun _ => D.int 1)) (.lst [])) = decide (l = []) := fun l => by
      have h1 : (D.lst (l.map fun _ => D.int 1)).smp = true := by
        rw [D.smp]
        exact smps_map (enc := fun _ : Fl => D.int 1) (fun _ => rfl) l
      rw [Bool.eq_iff_iff, eqv_iff _ _ h1 (by simp [D.smp, D.smps]), decide_eq_true_iff]
      simp
    refine .inl ⟨?_, by simp [D.ok, D.oks], ?_⟩
    · rw [D.ok]
      exact oks_map (enc := fun _ : Fl => D.int 1) fun _ _ => rfl
    · rw [eL]
      have e : (true ^^ decide ((d.filter fun f : Fl => decide (a ∈ f.1) && decide (b ∈ f.1)) = [])) = areSame d a b := by
        rw [Bool.true_xor, Bool.eq_iff_iff]
        unfold areSame
        rw [List.any_eq_true]
        simp
      rw [e]
      exact gc_same k
end Z

set_option Elab.async false
set_option linter.all false
set_option maxRecDepth 100000
/-! NK: names that keep their outside partners; contents outside -/
namespace Z
open PySem PySem.Spec PyProof.Rows L2
def Keeps (p : List Dd) (M : List Str) (a : Str) : Prop := ∀ d, Valid d → ∀ x, x ∉ M → areSame d a x = true → areSame (after d p) a x = true
def Spares (p : List Dd) (M : List Str) (a : Str) : Prop := ∀ d, Valid d → ∀ x, x ∉ M → areSame d a x = true → shown (after d p) x = shown d x
section
variable {M : List Str} {C : List Int} {Ds : List Dk} {p : List Dd}
theorem Fam.keeps (F : Fam M C Ds) (hp : PrIn M C p) (op : ∀ a ∈ p, a.ok) {a : Str} (ha : a ∈ M) : (∀ o ∈ Ds, ∀ z, z ∉ M → areSame o a z = true → areSame (after o p) a z = true) ↔ Keeps p M a := by
  constructor
  · intro h d v x hx hs
    obtain ⟨o, ho, A⟩ := F.all d v
    obtain ⟨G, Mk⟩ := F.gen o ho
    obtain ⟨f, con, P, m, _, t, _⟩ := gen_after G v A (Mk.mark A G.v v) hp op
    obtain ⟨z, hz, ez, hos⟩ := t a ha x hx hs
    rw [P.sm a x a z (m a ha).to ez]
    exact h o ho z hz hos
  · exact fun h o ho => h o (F.gen o ho).1.v
theorem Fam.spares (F : Fam M C Ds) (hp : PrIn M C p) (op : ∀ a ∈ p, a.ok) {a : Str} (ha : a ∈ M) : (∀ o ∈ Ds, ∀ z, z ∉ M → areSame o a z = true → shown (after o p) z = shown o z) ↔ Spares p M a := by
  constructor
  · intro h d v x hx hs
    obtain ⟨o, ho, A⟩ := F.all d v
    obtain ⟨G, Mk⟩ := F.gen o ho
    obtain ⟨f, con, P, m, _, t, P0⟩ := gen_after G v A (Mk.mark A G.v v) hp op
    obtain ⟨z, hz, ez, hos⟩ := t a ha x hx hs
    rw [P.sh x z ez, P0.sh x z ez, h o ho z hz hos]
  · exact fun h o ho => h o (F.gen o ho).1.v
end
/-- the names outside that share a name's file -/
def outD (M : List Str) (d : Dk) (a : Str) : List Str := d.flatMap fun f : Fl => if decide (a ∈ f.1) then f.1.filter fun x => !decide (x ∈ M) else []
theorem outD_mem {M : List Str} {d : Dk} {a x : Str} : x ∈ outD M d a ↔ x ∉ M ∧ areSame d a x = true := by
  unfold outD
  rw [List.mem_flatMap, same_iff]
  constructor
  · rintro ⟨f, hf, hx⟩
    split at hx
    · rename_i h
      obtain ⟨h1, h2⟩ := List.mem_filter.mp hx
      exact ⟨by simpa using h2, f, hf, by simpa using h, h1⟩
    · cases hx
  · rintro ⟨hx, f, hf, h1, h2⟩
    refine ⟨f, hf, ?_⟩
    rw [if_pos (by simpa using h1)]
    exact List.mem_filter.mpr ⟨h2, by simpa using hx⟩
end Z

set_option Elab.async false
set_option linter.all false
set_option maxRecDepth 100000
/-! MZ: partners, kept_links, spoiled -/
namespace Z
open PySem PySem.Spec PyProof.Rows L2
theorem outD_len (M : List Str) (d : Dk) (a : Str) : (outD M d a).length ≤ tot d := by
  unfold outD tot
  induction d with
  | nil => simp
  | cons f d ih =>
    rw [List.flatMap_cons, List.flatMap_cons, List.length_append, List.length_append]
    have : (if decide (a ∈ f.1) = true then f.1.filter fun x => !decide (x ∈ M) else []).length ≤ f.1.length := by
      split
      · exact List.length_filter_le ..
      · simp
    omega
def G_partners : Gs := fun ds h K => ∃ (p : List Dd) (d : Dk) (a : Str), ds = [eP p, eDk d, .str a] ∧ PsOk [p] ∧ okD BIG d ∧ tot d ≤ 1000 ∧ okN a ∧ K (eSs (outD (mentN [p]) d a)) h
theorem p_partners {ds : List D} {h : MH} {K : D → MH → Prop} (g : G_partners ds h K) : bodyG 7 3 (s_partners G_mentioned) ds h K := by
  obtain ⟨p, d, a, rfl, hp, hd, ht, ha, k⟩ := g
  have sl : 1000000 ≤ sizeLine := by decide
  refine ⟨rfl, ?_⟩
  simp [s_partners, List.replicate, wipeR]
  refine ⟨[p], rfl, hp.n, hp.l, ?_⟩
  simp
  have oM := hp.oM
  have ol := outD_len (mentN [p]) d a
  generalize mentN [p] = M at *
  have e0 : (d.flatMap fun f : Fl => (if decide (a ∈ f.1) then f.1.filter fun x => !decide (x ∈ M) else []).map eS) = (outD M d a).map eS := by rw [outD, List.map_flatMap]
  refine turns_flatN 1000 (enc := eFl) (fun f : Fl => (if decide (a ∈ f.1) then f.1.filter fun x => !decide (x ∈ M) else []).map eS) trivial d [] (by rw [e0]; simp; omega) (fun f hf acc K' hl k' => ?_) ?_
  · have fl := len_flat hf
    have fo := (hd.2 f hf).2
    simp [eFl]
    refine w_inNs ha fo ?_
    by_cases q : a ∈ f.1
    · simp only [q, decide_true, if_true, Bool.false_xor] at k' ⊢
      refine turns_filter (enc := eS) (fun x : Str => !decide (x ∈ M)) eS trivial f.1 acc (by unfold tot at ht; omega) (fun x hx acc K2 hl2 k2 k3 => ?_) k'
      simp [eS]
      refine w_inNs (fo x hx) oM ?_
      by_cases q2 : x ∈ M
      · simp only [q2, decide_true, Bool.true_xor, Bool.not_true]
        exact k3 (by simp [q2])
      · simp only [q2, decide_false, Bool.true_xor, Bool.not_false]
        exact ⟨hl2, k2 (by simp [q2])⟩
    · simp only [q, decide_false, Bool.false_xor] at k' ⊢
      simpa using k'
  · rw [e0]
    simp
    exact gc_same k
noncomputable def keptN (p : List Dd) : List Str := (mentN [p]).filter fun a => dec (Keeps p (mentN [p]) a)
noncomputable def spoilN (p : List Dd) : List Str := (mentN [p]).filter fun a => !dec (Spares p (mentN [p]) a)
def keepC (p : List Dd) (M : List Str) (a : Str) (o : Dk) : Bool := (outD M o a).all fun z => areSame (after o p) a z
def spareC (p : List Dd) (M : List Str) (a : Str) (o : Dk) : Bool := (outD M o a).any fun z => !decide (shown (after o p) z = shown o z)
section
variable {M : List Str} {C : List Int} {Ds : List Dk} {p : List Dd}
theorem Fam.keep_all (F : Fam M C Ds) (hp : PrIn M C p) (op : ∀ a ∈ p, a.ok) {a : Str} (ha : a ∈ M) : (Ds.all (keepC p M a)) = dec (Keeps p M a) := dec_eq (by
  rw [← F.keeps hp op ha, List.all_eq_true]
  unfold keepC
  simp only [List.all_eq_true, outD_mem, and_imp])
theorem Fam.spare_any (F : Fam M C Ds) (hp : PrIn M C p) (op : ∀ a ∈ p, a.ok) {a : Str} (ha : a ∈ M) : (Ds.any (spareC p M a)) = !dec (Spares p M a) := by
  have h : (!(Ds.any (spareC p M a))) = dec (Spares p M a) := dec_eq (by
    rw [← F.spares hp op ha, Bool.not_eq_true', List.any_eq_false]
    unfold spareC
    simp only [Bool.not_eq_true, List.any_eq_false, outD_mem, and_imp, Bool.not_eq_false', decide_eq_true_eq])
  rw [← h, Bool.not_not]
end
def G_kept_links : Gs := fun ds h K => ∃ p : List Dd, ds = [eP p] ∧ PsOk [p] ∧ K (eSs (keptN p)) h
theorem p_kept_links {ds : List D} {h : MH} {K : D → MH → Prop} (g : G_kept_links ds h K) : bodyG 7 1 (s_kept_links G_mentioned G_own_disks G_partners G_are_same G_after) ds h K := by
  obtain ⟨p, rfl, hp, k⟩ := g
  have sl : 1000000 ≤ sizeLine := by decide
  have bg : 1000 ≤ BIG := by decide
  refine ⟨rfl, ?_⟩
  have F := fam_own hp
  obtain ⟨lp, op⟩ := hp.one
  have hm := hp.m
  have oM := hp.oM
  have hv : ∀ o ∈ ownDs [p], Valid o := fun o ho => (F.gen o ho).1.v
  have hr : ∀ o ∈ ownDs [p], okRun o p := fun o ho => after_run (hv o ho) (own_sz hp ho) lp op
  simp [s_kept_links, List.replicate, wipeR]
  refine ⟨[p], rfl, hp.n, hp.l, ?_⟩
  simp
  refine forL_pre (enc := eS) (fun c ρ h' => (∃ a b x y z, ρ = [some (eP p), some (.ref h.length), a, b, x, y, z]) ∧ h' = h ++ [.lst ((c.filter fun a => dec (Keeps p (mentN [p]) a)).map eS)]) (mentN [p]) _ _ ⟨⟨_, _, _, _, _, rfl⟩, rfl⟩ (fun _ _ _ _ => trivial) (fun c a r e ρ' h' K' hP k' => ?_) fun ρ' h' hP => ?_
  · obtain ⟨⟨v0, v1, v2, v3, v4, rfl⟩, rfl⟩ := hP
    have ha : a ∈ mentN [p] := by rw [e]; simp
    have oa := oM a ha
    have cl : c.length ≤ 8 := by
      have := congrArg List.length e
      simp at this
      omega
    have fl := List.length_filter_le (fun a => dec (Keeps p (mentN [p]) a)) c
    simp
    refine ⟨[p], rfl, hp, ?_⟩
    generalize hh : h ++ [O.lst ((c.filter fun a => dec (Keeps p (mentN [p]) a)).map eS)] = h1
    simp
    refine forL_pre (enc := eDk) (fun q ρ h' => (∃ x y z, ρ = [some (eP p), some (.ref h.length), some (.str a), some (.bl (q.all (keepC p (mentN [p]) a))), x, y, z]) ∧ h' = h1) (ownDs [p]) _ _ ⟨⟨_, _, _, rfl⟩, rfl⟩ (fun _ _ _ _ => trivial) (fun q o s e2 ρ2 h2 K2 hP2 k2 => ?_) fun ρ2 h2 hP2 => ?_
    · obtain ⟨⟨w0, w1, w2, rfl⟩, rfl⟩ := hP2
      have ho : o ∈ ownDs [p] := by rw [e2]; simp
      have v := hv o ho
      have sz := own_sz hp ho
      have run := hr o ho
      simp
      refine ⟨(o, p), rfl, run, ?_⟩
      dsimp only
      have ea : (q ++ [o]).all (keepC p (mentN [p]) a) = (q.all (keepC p (mentN [p]) a) && keepC p (mentN [p]) a o) := by simp
      rw [ea] at k2
      cases eq : q.all (keepC p (mentN [p]) a) with
      | false =>
        rw [eq] at k2
        exact k2 _ _ ⟨⟨_, _, _, rfl⟩, rfl⟩
      | true =>
        rw [eq] at k2
        have hd : okD BIG o := (run.1 [] p (by simp)).mono (by decide)
        have ol := outD_len (mentN [p]) o a
        simp
        refine ⟨p, o, a, rfl, hp, hd, by omega, oa, ?_⟩
        show iW (.lst ((outD (mentN [p]) o a).map eS)) _ _
        simp
        refine turns_all (enc := eS) (fun z : Str => D.bl (areSame (after o p) a z)) trivial (outD (mentN [p]) o a) [] (by simp; omega) (fun z hz acc K4 hl4 k4 => ?_) ?_
        · obtain ⟨_, hs⟩ := outD_mem.mp hz
          have oz : okN z := by
            obtain ⟨f, hf, _, h2⟩ := same_iff.mp hs
            exact (hd.2 f hf).2 z h2
          simp [eS]
          exact ⟨(after o p, a, z), rfl, ⟨run.last, oa, oz⟩, hl4, k4⟩
        · simp
          refine ⟨(outD (mentN [p]) o a).map fun z => areSame (after o p) a z, by simp [Function.comp_def], ?_⟩
          have eb : ((outD (mentN [p]) o a).map fun z => areSame (after o p) a z).all id = keepC p (mentN [p]) a o := by simp [keepC, Function.comp_def]
          rw [eb]
          exact k2 _ _ ⟨⟨_, _, _, by rw [Bool.true_and]⟩, rfl⟩
    · obtain ⟨⟨w0, w1, w2, rfl⟩, rfl⟩ := hP2
      rw [F.keep_all (prIn_of (by simp)) op ha]
      cases ed : dec (Keeps p (mentN [p]) a) with
      | true =>
        simp
        rw [← hh]
        refine ⟨_, ty_new, rfl, w_app get_new (by rw [List.length_map]; omega) ?_⟩
        refine k' _ _ ⟨⟨_, _, _, _, _, rfl⟩, ?_⟩
        simp [List.filter_append, ed, eS]
      | false =>
        refine ⟨_, rfl, ?_⟩
        show K' _ _
        refine k' _ _ ⟨⟨_, _, _, _, _, rfl⟩, ?_⟩
        rw [← hh]
        simp [List.filter_append, ed]
  · obtain ⟨⟨v0, v1, v2, v3, v4, rfl⟩, rfl⟩ := hP
    simp
    refine gc_set (t := []) (bels_smp (smps_map smp_S _)) k
theorem eO_inj : ∀ a b, eO a = eO b → a = b := fun a b h => by
  cases a <;> cases b <;> first | rfl | (injection h with h; rw [h]) | cases h
theorem smp_O (x : Option Int) : (eO x).smp = true := by cases x <;> rfl
theorem w_eqO {neg : Bool} {x y : Option Int} {h : MH} {Q : D → MH → Prop} (k : Q (.bl (xor neg (decide (x = y)))) h) : wEq neg h (eO x) (eO y) Q := by
  refine w_eq_ok (by cases x <;> rfl) (by cases y <;> rfl) ?_
  rw [eqv_dec eO_inj smp_O]
  exact k
def G_spoiled : Gs := fun ds h K => ∃ p : List Dd, ds = [eP p] ∧ PsOk [p] ∧ K (eSs (spoilN p)) h
theorem p_spoiled {ds : List D} {h : MH} {K : D → MH → Prop} (g : G_spoiled ds h K) : bodyG 7 1 (s_spoiled G_mentioned G_own_disks G_partners G_shown G_after) ds h K := by
  obtain ⟨p, rfl, hp, k⟩ := g
  have sl : 1000000 ≤ sizeLine := by decide
  have bg : 1000 ≤ BIG := by decide
  refine ⟨rfl, ?_⟩
  have F := fam_own hp
  obtain ⟨lp, op⟩ := hp.one
  have hm := hp.m
  have oM := hp.oM
  have hv : ∀ o ∈ ownDs [p], Valid o := fun o ho => (F.gen o ho).1.v
  have hr : ∀ o ∈ ownDs [p], okRun o p := fun o ho => after_run (hv o ho) (own_sz hp ho) lp op
  simp [s_spoiled, List.replicate, wipeR]
  refine ⟨[p], rfl, hp.n, hp.l, ?_⟩
  simp
  refine forL_pre (enc := eS) (fun c ρ h' => (∃ a b x y z, ρ = [some (eP p), some (.ref h.length), a, b, x, y, z]) ∧ h' = h ++ [.lst ((c.filter fun a => (!dec (Spares p (mentN [p]) a))).map eS)]) (mentN [p]) _ _ ⟨⟨_, _, _, _, _, rfl⟩, rfl⟩ (fun _ _ _ _ => trivial) (fun c a r e ρ' h' K' hP k' => ?_) fun ρ' h' hP => ?_
  · obtain ⟨⟨v0, v1, v2, v3, v4, rfl⟩, rfl⟩ := hP
    have ha : a ∈ mentN [p] := by rw [e]; simp
    have oa := oM a ha
    have cl : c.length ≤ 8 := by
      have := congrArg List.length e
      simp at this
      omega
    have fl := List.length_filter_le (fun a => (!dec (Spares p (mentN [p]) a))) c
    simp
    refine ⟨[p], rfl, hp, ?_⟩
    generalize hh : h ++ [O.lst ((c.filter fun a => (!dec (Spares p (mentN [p]) a))).map eS)] = h1
    simp
    refine forL_pre (enc := eDk) (fun q ρ h' => (∃ x y z, ρ = [some (eP p), some (.ref h.length), some (.str a), some (.bl (q.any (spareC p (mentN [p]) a))), x, y, z]) ∧ h' = h1) (ownDs [p]) _ _ ⟨⟨_, _, _, rfl⟩, rfl⟩ (fun _ _ _ _ => trivial) (fun q o s e2 ρ2 h2 K2 hP2 k2 => ?_) fun ρ2 h2 hP2 => ?_
    · obtain ⟨⟨w0, w1, w2, rfl⟩, rfl⟩ := hP2
      have ho : o ∈ ownDs [p] := by rw [e2]; simp
      have v := hv o ho
      have sz := own_sz hp ho
      have run := hr o ho
      simp
      refine ⟨(o, p), rfl, run, ?_⟩
      dsimp only
      have ea : (q ++ [o]).any (spareC p (mentN [p]) a) = (q.any (spareC p (mentN [p]) a) || spareC p (mentN [p]) a o) := by simp
      rw [ea] at k2
      cases eq : q.any (spareC p (mentN [p]) a) with
      | true =>
        rw [eq] at k2
        exact k2 _ _ ⟨⟨_, _, _, rfl⟩, rfl⟩
      | false =>
        rw [eq] at k2
        have hd : okD BIG o := (run.1 [] p (by simp)).mono (by decide)
        have ol := outD_len (mentN [p]) o a
        simp
        refine ⟨p, o, a, rfl, hp, hd, by omega, oa, ?_⟩
        show iW (.lst ((outD (mentN [p]) o a).map eS)) _ _
        simp
        refine turns_all (enc := eS) (fun z : Str => D.bl (!decide (shown (after o p) z = shown o z))) trivial (outD (mentN [p]) o a) [] (by simp; omega) (fun z hz acc K4 hl4 k4 => ?_) ?_
        · obtain ⟨_, hs⟩ := outD_mem.mp hz
          have oz : okN z := by
            obtain ⟨f, hf, _, h2⟩ := same_iff.mp hs
            exact (hd.2 f hf).2 z h2
          simp [eS]
          refine ⟨(after o p, z), rfl, ⟨run.last, oz⟩, (o, z), rfl, ⟨hd, oz⟩, ?_⟩
          refine w_eqO ?_
          exact ⟨hl4, by simpa using k4⟩
        · simp
          refine ⟨(outD (mentN [p]) o a).map fun z => !decide (shown (after o p) z = shown o z), by simp [Function.comp_def], ?_⟩
          have eb : ((outD (mentN [p]) o a).map fun z => !decide (shown (after o p) z = shown o z)).any id = spareC p (mentN [p]) a o := by simp [spareC, Function.comp_def]
          rw [eb]
          exact k2 _ _ ⟨⟨_, _, _, by rw [Bool.false_or]⟩, rfl⟩
    · obtain ⟨⟨w0, w1, w2, rfl⟩, rfl⟩ := hP2
      rw [F.spare_any (prIn_of (by simp)) op ha]
      cases ed : (!dec (Spares p (mentN [p]) a)) with
      | true =>
        simp
        rw [← hh]
        refine ⟨_, ty_new, rfl, w_app get_new (by rw [List.length_map]; omega) ?_⟩
        refine k' _ _ ⟨⟨_, _, _, _, _, rfl⟩, ?_⟩
        simp [List.filter_append, ed, eS]
      | false =>
        refine ⟨_, rfl, ?_⟩
        show K' _ _
        refine k' _ _ ⟨⟨_, _, _, _, _, rfl⟩, ?_⟩
        rw [← hh]
        simp [List.filter_append, ed]
  · obtain ⟨⟨v0, v1, v2, v3, v4, rfl⟩, rfl⟩ := hP
    simp
    refine gc_set (t := []) (bels_smp (smps_map smp_S _)) k
end Z

set_option Elab.async false
set_option linter.all false
set_option maxRecDepth 100000
/-! P1: the law's outside -/
namespace Z
open PySem PySem.Spec PyProof.Rows L2
def G_L_outside : Gs := fun ds h K => ∃ (d : Dk) (a : Str) (M : List Str), ds = [eDk d, .str a, .lst (M.map eS)] ∧ Valid d ∧ tot d ≤ 1000 ∧ d.length ≤ 1000 ∧ okN a ∧ okNs M ∧ K (eSs (outD M d a)) h
theorem outD_app (M : List Str) (c : Dk) (f : Fl) (a : Str) : outD M (c ++ [f]) a = outD M c a ++ if decide (a ∈ f.1) then f.1.filter fun x => !decide (x ∈ M) else [] := by
  simp [outD, List.flatMap_append]
theorem p_L_outside {ds : List D} {h : MH} {K : D → MH → Prop} (g : G_L_outside ds h K) : bodyG 7 3 s_L_outside ds h K := by
  obtain ⟨d, a, M, rfl, v, ht, hl, oa, oM, k⟩ := g
  have sl : 1000000 ≤ sizeLine := by decide
  refine ⟨rfl, ?_⟩
  simp [s_L_outside, List.replicate, wipeR]
  refine forL_pre (enc := eFl) (fun c ρ h' => (∃ x y z, ρ = [some (eDk d), some (.str a), some (.lst (M.map eS)), some (eSs (outD M c a)), x, y, z]) ∧ h' = h) d _ _ ⟨⟨_, _, _, rfl⟩, rfl⟩ (fun _ _ _ _ => trivial) (fun c f r e ρ' h' K' hP k' => ?_) fun ρ' h' hP => ?_
  · obtain ⟨⟨x, y, z, rfl⟩, rfl⟩ := hP
    have hf : f ∈ d := by rw [e]; simp
    have fo : okNs f.1 := fun m hm => v.ok m (mem_names.mpr ⟨f, hf, hm⟩)
    have fl := len_flat hf
    rw [outD_app] at k'
    simp [eFl]
    refine w_inNs oa fo ?_
    by_cases q : a ∈ f.1
    · have none : outD M c a = [] := by
        unfold outD
        rw [List.flatMap_eq_nil_iff]
        intro g hg
        by_cases q2 : a ∈ g.1
        · have hgd : g ∈ d := by rw [e]; exact List.mem_append_left _ hg
          have := nd_one v.nd hgd hf q2 q
          subst this
          have nn := nd_of_names v.toFair
          rw [e, List.nodup_append] at nn
          exact absurd rfl (nn.2.2 g hg g (by simp))
        · simp [q2]
      rw [none] at k' ⊢
      simp only [q, decide_true, if_true, Bool.false_xor, List.nil_append] at k' ⊢
      refine turns_filter (enc := eS) (fun x : Str => !decide (x ∈ M)) eS trivial f.1 [] (by unfold tot at ht; simp; omega) (fun x hx acc K2 hl2 k2 k3 => ?_) ?_
      · simp [eS]
        refine w_inE (enc := eS) eS_inj smp_S (a := x) (l := M) (fun z e => by cases e) rfl (ok_S (fo x hx)) (fun b hb => ok_S (oM b hb)) ?_
        by_cases q2 : x ∈ M
        · simp only [q2, decide_true, Bool.true_xor, Bool.not_true]
          exact k3 (by simp [q2])
        · simp only [q2, decide_false, Bool.true_xor, Bool.not_false]
          exact ⟨hl2, k2 (by simp [q2])⟩
      · simp
        exact k' _ _ ⟨⟨_, _, _, rfl⟩, rfl⟩
    · simp only [q, decide_false, Bool.false_xor] at k' ⊢
      simp at k'
      exact k' _ _ _ _ _ rfl rfl
  · obtain ⟨⟨x, y, z, rfl⟩, rfl⟩ := hP
    simp
    exact gc_same k
end Z

set_option Elab.async false
set_option linter.all false
set_option maxRecDepth 100000
/-! L13: the law k13 -/
namespace Z
open PySem PySem.Spec PyProof.Rows L2
def N_law : List Str := ["script", "tape", "turn", "names", "program", "some", "kept", "bad", "name", "ask", "good", "spoilt", "disk", "later", "own"]
def s_law (G_spoiled G_kept_links G_L_outside G_shown G_L_together G_after G_L_disk G_L_like G_L_proving G_L_content_of G_L_after G_L_mentioned G_L_program G_L_names : Gs) : Sv := (sSeq (sSet 1 (cLst true (aCons (cB (bList false) (aCons (cVar 0) aNil)) (aCons (cK (.int 0)) (aCons (cK (.int 0)) aNil))))) (sSeq (sFor (iRange1 (aCons (cK (.int 6)) aNil)) (gvName 2) (sSeq (sSet 3 (cCall G_L_names (aCons (cVar 1) (aCons (cK (.int 4)) aNil)))) (sSeq (sSet 4 (cCall G_L_program (aCons (cVar 1) (aCons (cVar 3) (aCons (cK (.int 6)) aNil))))) (sSeq (sPar [5, 6, 7] (aCons (cCall G_L_mentioned (aCons (cVar 4) aNil)) (aCons (cLst false aNil) (aCons (cLst false aNil) aNil)))) (sSeq (sFor (iVal (cVar 5)) (gvName 8) (sSeq (sAsg (gvTup 2 (gvCons (gvName 10) (gvCons (gvName 11) gvNil))) (cTup (aCons (cK (.bl true)) (aCons (cK (.bl false)) aNil)))) (sSeq (sFor (iVal (cCall G_L_proving (aCons (cVar 5) aNil))) (gvName 12) (sSeq (sSet 13 (cCall G_L_after (aCons (cVar 12) (aCons (cVar 4) aNil)))) (sFor (iVal (cCall G_L_outside (aCons (cVar 12) (aCons (cVar 8) (aCons (cVar 5) aNil))))) (gvName 14) (sSeq (sSet 10 (cAndV (cVar 10) (cCall G_L_together (aCons (cVar 13) (aCons (cVar 8) (aCons (cVar 14) aNil)))))) (sSet 11 (cOrV (cVar 11) (cBin (wEq true) (cCall G_L_content_of (aCons (cVar 13) (aCons (cVar 14) aNil))) (cCall G_L_content_of (aCons (cVar 12) (aCons (cVar 14) aNil)))))))))) (sSeq (sSet 6 (cBin (wAdd false) (cVar 6) (cBin wMul (cLst false (aCons (cVar 8) aNil)) (cB bInt (aCons (cVar 10) aNil))))) (sSet 7 (cBin (wAdd false) (cVar 7) (cBin wMul (cLst false (aCons (cVar 8) aNil)) (cB bInt (aCons (cVar 11) aNil))))))))) (sSeq (sIf (cOr (cNot (cTest (cCall G_L_like (aCons (cCall G_kept_links (aCons (cVar 4) aNil)) (aCons (cVar 6) aNil))))) (cNot (cTest (cCall G_L_like (aCons (cCall G_spoiled (aCons (cVar 4) aNil)) (aCons (cVar 7) aNil)))))) (sRet (cK (.bl false))) sNil) (sFor (iRange1 (aCons (cK (.int 4)) aNil)) (gvName 9) (sSeq (sSet 12 (cCall G_L_disk (aCons (cVar 1) (aCons (cBin (wAdd false) (cVar 3) (cLst false (aCons (cK (.str "x")) (aCons (cK (.str "yy")) (aCons (cK (.str "zz")) aNil))))) aNil)))) (sSeq (sSet 13 (cCall G_after (aCons (cVar 12) (aCons (cVar 4) aNil)))) (sFor (iVal (cVar 5)) (gvName 8) (sFor (iVal (cCall G_L_outside (aCons (cVar 12) (aCons (cVar 8) (aCons (cVar 5) aNil))))) (gvName 14) (sSeq (sIf (cAnd (cTest (cBin (wIn false) (cVar 8) (cVar 6))) (cNot (cTest (cCall G_L_together (aCons (cVar 13) (aCons (cVar 8) (aCons (cVar 14) aNil))))))) (sRet (cK (.bl false))) sNil) (sIf (cAnd (cTest (cBin (wIn true) (cVar 8) (cVar 7))) (cTest (cBin (wEq true) (cCall G_shown (aCons (cVar 13) (aCons (cVar 14) aNil))) (cCall G_shown (aCons (cVar 12) (aCons (cVar 14) aNil)))))) (sRet (cK (.bl false))) sNil))))))))))))) (sRet (cAndV (cBin (wEq false) (cCall G_kept_links (aCons (cTup (aCons (cTup (aCons (cK (.str "write")) (aCons (cK (.str "a")) (aCons (cK (.int 1)) aNil)))) aNil)) aNil)) (cLst false (aCons (cK (.str "a")) aNil))) (cBin (wEq false) (cCall G_spoiled (aCons (cTup (aCons (cTup (aCons (cK (.str "save")) (aCons (cK (.str "a")) (aCons (cK (.int 1)) aNil)))) aNil)) aNil)) (cLst false aNil))))))
@[simp] theorem w_int {h : MH} {b : Bool} {Q : D → MH → Prop} : bInt h [.bl b] Q ↔ Q (.int (if b then 1 else 0)) h := Iff.rfl
theorem w_times {h : MH} {xs : List D} {b : Bool} {Q : D → MH → Prop} (hl : xs.length ≤ 1000) (k : Q (.lst (if b then xs else [])) h) : wMul h (.lst xs) (.int (if b then 1 else 0)) Q := by
  have sl : 1000000 ≤ sizeLine := by decide
  cases b with
  | true => exact ⟨xs, rfl, by decide, by decide, by simp; omega, by simpa using k⟩
  | false => exact ⟨xs, rfl, by decide, by decide, by simp, by simpa using k⟩
theorem w_moreS {h : MH} {l : List Str} {x : Str} {b : Bool} {Q : D → MH → Prop} (hl : l.length ≤ 1000) (k : Q (eSs (l ++ if b then [x] else [])) h) : wMul h (.lst [eS x]) (.int (if b then 1 else 0)) fun d h1 => wAdd false h1 (eSs l) d Q := by
  have sl : 1000000 ≤ sizeLine := by decide
  refine w_times (by simp) ?_
  have e : (if b then [eS x] else []) = (if b then [x] else []).map eS := by cases b <;> rfl
  rw [e]
  have hx : ((if b then [x] else []) : List Str).length ≤ 1 := by cases b <;> simp
  refine w_addL.mpr ⟨by simp only [List.length_map]; omega, ?_⟩
  rw [w_mkF, ← List.map_append]
  exact k
theorem w_andB {i : Nat} {b c : Bool} {w : Ev} {ρ : Rho} {h : MH} {Q : D → MH → Prop} (e : ρ[i]? = some (some (.bl b))) (k1 : ∀ Q' : D → MH → Prop, Q' (.bl c) h → w ρ h Q') (k : Q (.bl (b && c)) h) : cAndV (cVar i) w ρ h Q := by
  rw [w_andV]
  refine ⟨_, e, ?_⟩
  cases b with
  | true => exact k1 _ k
  | false => exact k
theorem w_orB {i : Nat} {b c : Bool} {w : Ev} {ρ : Rho} {h : MH} {Q : D → MH → Prop} (e : ρ[i]? = some (some (.bl b))) (k1 : ∀ Q' : D → MH → Prop, Q' (.bl c) h → w ρ h Q') (k : Q (.bl (b || c)) h) : cOrV (cVar i) w ρ h Q := by
  rw [w_orV]
  refine ⟨_, e, ?_⟩
  cases b with
  | true => exact k
  | false => exact k1 _ k
theorem w_eqSs {neg : Bool} {l : List Str} {y : D} {h : MH} {Q : D → MH → Prop} : wEq neg h (eSs l) y Q ↔ wEqD neg h (eSs l) y Q := w_eqLD
noncomputable def keepL (p : List Dd) (M : List Str) (l : List Str) : List Str := l.filter fun a => dec (Keeps p M a)
noncomputable def spoilL (p : List Dd) (M : List Str) (l : List Str) : List Str := l.filter fun a => !dec (Spares p M a)
theorem keepL_snoc (p : List Dd) (M l : List Str) (x : Str) : keepL p M (l ++ [x]) = keepL p M l ++ if dec (Keeps p M x) then [x] else [] := by
  unfold keepL
  rw [List.filter_append, List.filter_cons]
  rfl
theorem spoilL_snoc (p : List Dd) (M l : List Str) (x : Str) : spoilL p M (l ++ [x]) = spoilL p M l ++ if !dec (Spares p M x) then [x] else [] := by
  unfold spoilL
  rw [List.filter_append, List.filter_cons]
  rfl
theorem kept_wr : keptN [.wr "a" 1] = (["a"] : List Str) := by
  have em : mentN [[Dd.wr "a" 1]] = (["a"] : List Str) := by
    refine (mentN_uniq (ps := [[Dd.wr "a" 1]]) (m := (["a"] : List Str)) (List.pairwise_singleton _ _) (by decide +kernel) (by decide +kernel) fun n => ?_).symm
    rw [mem_mentN]
    simp [Dd.names]
  have t : dec (Keeps [.wr "a" 1] (["a"] : List Str) "a") = true := dec_iff.mpr fun d v x hx hs => by
    have o0 : (Dd.wr "a" 1).ok := by decide +kernel
    show areSame (done d (.wr "a" 1)) "a" x = true
    rw [(done_st v o0).2]
    simp [dE, hs]
  unfold keptN
  rw [em]
  simp [List.filter_cons, t]
theorem spoil_sv : spoilN [.sv "a" 1] = [] := by
  have em : mentN [[Dd.sv "a" 1]] = (["a"] : List Str) := by
    refine (mentN_uniq (ps := [[Dd.sv "a" 1]]) (m := (["a"] : List Str)) (List.pairwise_singleton _ _) (by decide +kernel) (by decide +kernel) fun n => ?_).symm
    rw [mem_mentN]
    simp [Dd.names]
  have t : dec (Spares [.sv "a" 1] (["a"] : List Str) "a") = true := dec_iff.mpr fun d v x hx hs => by
    have o0 : (Dd.sv "a" 1).ok := by decide +kernel
    have hx : x ≠ "a" := by simpa using hx
    show shown (done d (.sv "a" 1)) x = shown d x
    rw [(done_st v o0).1]
    simp [dS, hx]
  unfold spoilN
  rw [em]
  simp [List.filter_cons, t]
def XYZ : List Str := ["x", "yy", "zz"]
set_option maxHeartbeats 0 in
theorem p_law {ds : List D} {h : MH} {K : D → MH → Prop} (g : G_law ds h K) : bodyG 15 1 (s_law G_spoiled G_kept_links G_L_outside G_shown G_L_together G_after G_L_disk (likeG 4) G_L_proving G_L_content_of G_L_after G_L_mentioned G_L_program G_L_names) ds h K := by
  obtain ⟨ns, rfl, rfl, k⟩ := g
  refine ⟨rfl, ?_⟩
  have sl : 1000000 ≤ sizeLine := by decide
  have bg : 1000 ≤ BIG := by decide
  simp [s_law, List.replicate, wipeR]
  show forL _ _ _ _ _ _ _
  refine forL_pre (enc := fun i : Nat => D.int i) (fun p ρ h' => (∃ a b c d e f g i j k l m q, ρ = [some (.scr ns), some (.ref 0), a, b, c, d, e, f, g, i, j, k, l, m, q]) ∧ ∃ o R, h' = o :: R ∧ Tp [o] 0 (100 * (6 - p.length)))
    (List.range 6) _ _ ⟨⟨_, _, _, _, _, _, _, _, _, _, _, _, _, rfl⟩, _, [], rfl, tp_start (by simp)⟩ (fun _ _ _ _ => trivial) (fun p n q e ρ' h' K' hP k' => ?_) fun ρ' h' hP => ?_
  · obtain ⟨⟨v2, v3, v4, v5, v6, v7, v8, v9, v10, v11, v12, v13, v14, rfl⟩, o, R, rfl, tp⟩ := hP
    have hp : p.length < 6 := by
      have := congrArg List.length e
      simp at this
      omega
    have hb : 100 * (6 - p.length) = (100 * (6 - (p ++ [n]).length) + 98) + 2 := by simp; omega
    rw [hb] at tp
    generalize 100 * (6 - (p ++ [n]).length) = B at tp k'
    simp
    refine ⟨0, _, 4, rfl, by decide, by decide, tp_cons.mpr tp, fun ws o1 hw x1 => ?_⟩
    have W := hw.ok (by decide)
    have wl := W.le
    have wp := W.pos
    simp only [List.set_cons_zero] at x1 ⊢
    refine ⟨0, B + 70, 6, ws, rfl, wp, by omega, by decide, x1.mono (by omega), fun pr o2 pl pi x2 => ?_⟩
    simp only [List.set_cons_zero] at x2 ⊢
    have pok := pi.ok W.ok
    have L := law1_of W pi (by omega)
    have hm8 := L.ps.m
    have nd := mentN_nd [pr]
    have oM := L.ps.oM
    have plen := prov_len L
    have F := L.fam
    have ltab := fun {o : Dk} (ho : o ∈ provDs (mentN [pr])) => L.tab ho
    have eqK : keepL pr (mentN [pr]) (mentN [pr]) = keptN pr := rfl
    have eqS : spoilL pr (mentN [pr]) (mentN [pr]) = spoilN pr := rfl
    refine ⟨pr, rfl, by omega, pok, by omega, ?_⟩
    have fK : ∀ a ∈ mentN [pr], (provDs (mentN [pr])).all (keepC pr (mentN [pr]) a) = dec (Keeps pr (mentN [pr]) a) := fun a ha => F.keep_all (prIn_of (by simp)) pok ha
    have fS : ∀ a ∈ mentN [pr], (provDs (mentN [pr])).any (spareC pr (mentN [pr]) a) = !dec (Spares pr (mentN [pr]) a) := fun a ha => F.spare_any (prIn_of (by simp)) pok ha
    generalize hM : mentN [pr] = M at *
    simp
    refine forL_pre (enc := eS) (fun c ρ h' => (∃ a8 a9 a10 a11 a12 a13 a14, ρ = [some (.scr ns), some (.ref 0), some (.int n), some (.lst (ws.map eS)), some (eP pr), some (.lst (M.map eS)), some (eSs (keepL pr M c)), some (eSs (spoilL pr M c)), a8, a9, a10, a11, a12, a13, a14]) ∧ h' = o2 :: R)
      M _ _ ⟨⟨_, _, _, _, _, _, _, rfl⟩, rfl⟩ (fun _ _ _ _ => trivial) (fun c a r e2 ρ2 h2 K2 hP2 k2 => ?_) fun ρ2 h2 hP2 => ?_
    · obtain ⟨⟨y8, y9, y10, y11, y12, y13, y14, rfl⟩, rfl⟩ := hP2
      have ha : a ∈ M := by rw [e2]; simp
      have oa := oM a ha
      have cl : c.length ≤ 8 := by
        have := congrArg List.length e2
        simp at this
        omega
      have fl1 : (keepL pr M c).length ≤ c.length := List.length_filter_le ..
      have fl2 : (spoilL pr M c).length ≤ c.length := List.length_filter_le ..
      simp
      refine ⟨M, rfl, hm8, nd, oM, ?_⟩
      simp
      refine forL_pre (enc := eDk) (fun q ρ h' => (∃ a9 a12 a13 a14, ρ = [some (.scr ns), some (.ref 0), some (.int n), some (.lst (ws.map eS)), some (eP pr), some (.lst (M.map eS)), some (eSs (keepL pr M c)), some (eSs (spoilL pr M c)), some (.str a), a9, some (.bl (q.all (keepC pr M a))), some (.bl (q.any (spareC pr M a))), a12, a13, a14]) ∧ h' = o2 :: R)
        (provDs M) _ _ ⟨⟨_, _, _, _, rfl⟩, rfl⟩ (fun _ _ _ _ => trivial) (fun q o s e3 ρ3 h3 K3 hP3 k3 => ?_) fun ρ3 h3 hP3 => ?_
      · obtain ⟨⟨z9, z12, z13, z14, rfl⟩, rfl⟩ := hP3
        have ho : o ∈ provDs M := by rw [e3]; simp
        obtain ⟨v, t1, t2, t3, t4, t5⟩ := ltab ho
        have hd : okD BIG o := (t5.1 [] pr (by simp)).mono (by decide)
        simp
        refine ⟨o, pr, rfl, by omega, by omega, t3, ?_⟩
        rw [lawAfter_eq v pok]
        refine ⟨o, a, M, rfl, v, by omega, by omega, oa, oM, ?_⟩
        show iW (.lst ((outD M o a).map eS)) _ _
        simp only [w_iWl]
        refine forL_pre (enc := eS) (fun u ρ h' => (∃ a9 a14, ρ = [some (.scr ns), some (.ref 0), some (.int n), some (.lst (ws.map eS)), some (eP pr), some (.lst (M.map eS)), some (eSs (keepL pr M c)), some (eSs (spoilL pr M c)), some (.str a), a9, some (.bl (q.all (keepC pr M a) && u.all fun z => areSame (after o pr) a z)), some (.bl (q.any (spareC pr M a) || u.any fun z => !decide (shown (after o pr) z = shown o z))), some (eDk o), some (eDk (after o pr)), a14]) ∧ h' = o2 :: R)
          (outD M o a) _ _ ⟨⟨_, _, by simp only [List.all_nil, List.any_nil, Bool.and_true, Bool.or_false]; rfl⟩, rfl⟩ (fun _ _ _ _ => trivial) (fun u z w e4 ρ4 h4 K4 hP4 k4 => ?_) fun ρ4 h4 hP4 => ?_
        · obtain ⟨⟨b9, b14, rfl⟩, rfl⟩ := hP4
          have hz : z ∈ outD M o a := by rw [e4]; simp
          obtain ⟨_, hs⟩ := outD_mem.mp hz
          have oz : okN z := by
            obtain ⟨f, hf, _, h2⟩ := same_iff.mp hs
            exact (hd.2 f hf).2 z h2
          rw [List.all_append, List.any_append, ← Bool.and_assoc, ← Bool.or_assoc] at k4
          simp only [List.all_cons, List.all_nil, List.any_cons, List.any_nil, Bool.and_true, Bool.or_false] at k4
          generalize (q.all (keepC pr M a) && u.all fun z => areSame (after o pr) a z) = g1 at k4 ⊢
          generalize (q.any (spareC pr M a) || u.any fun z => !decide (shown (after o pr) z = shown o z)) = g2 at k4 ⊢
          show sSeq _ _ _ _ _
          rw [w_seq, w_set]
          refine w_andB (b := g1) (c := areSame (after o pr) a z) rfl (fun Q' q' => ?_) ?_
          · simp [eS]
            exact ⟨(after o pr, a, z), rfl, ⟨t5.last, oa, oz⟩, q'⟩
          · dsimp only
            rw [w_set]
            refine w_orB (b := g2) (c := !decide (shown (after o pr) z = shown o z)) rfl (fun Q' q' => ?_) ?_
            · simp [eS]
              refine ⟨(after o pr, z), rfl, ⟨t5.last, oz⟩, (o, z), rfl, ⟨hd, oz⟩, ?_⟩
              refine w_eqO ?_
              simpa using q'
            · exact k4 _ _ ⟨⟨_, _, rfl⟩, rfl⟩
        · obtain ⟨⟨b9, b14, rfl⟩, rfl⟩ := hP4
          have e5 : (q.all (keepC pr M a) && (outD M o a).all fun z => areSame (after o pr) a z) = (q ++ [o]).all (keepC pr M a) := by simp [keepC]
          have e6 : (q.any (spareC pr M a) || (outD M o a).any fun z => !decide (shown (after o pr) z = shown o z)) = (q ++ [o]).any (spareC pr M a) := by simp [spareC]
          rw [e5, e6]
          exact k3 _ _ ⟨⟨_, _, _, _, rfl⟩, rfl⟩
      · obtain ⟨⟨z9, z12, z13, z14, rfl⟩, rfl⟩ := hP3
        rw [fK a ha, fS a ha]
        rw [keepL_snoc, spoilL_snoc] at k2
        generalize dec (Keeps pr M a) = g1 at k2 ⊢
        generalize (!dec (Spares pr M a)) = g2 at k2 ⊢
        simp
        refine w_moreS (x := a) (by omega) ?_
        refine w_moreS (x := a) (by omega) ?_
        exact k2 _ _ ⟨⟨_, _, _, _, _, _, _, rfl⟩, rfl⟩
    · obtain ⟨⟨y8, y9, y10, y11, y12, y13, y14, rfl⟩, rfl⟩ := hP2
      have okK : okNs (keptN pr) := fun m hm => by
        rw [← eqK] at hm
        exact oM m (List.mem_filter.mp hm).1
      have okS : okNs (spoilN pr) := fun m hm => by
        rw [← eqS] at hm
        exact oM m (List.mem_filter.mp hm).1
      have inK : ∀ a, a ∈ keptN pr → Keeps pr M a := fun a hm => by
        rw [← eqK] at hm
        exact dec_iff.mp (List.mem_filter.mp hm).2
      have inS : ∀ a ∈ M, a ∉ spoilN pr → Spares pr M a := fun a ha hm => by
        rw [← eqS] at hm
        cases ed : dec (Spares pr M a) with
        | true => exact dec_iff.mp ed
        | false => exact absurd (List.mem_filter.mpr ⟨ha, by simp [ed]⟩) hm
      rw [eqK, eqS]
      simp
      refine ⟨pr, rfl, L.ps, ⟨_, _, rfl, ok_Ss okK, ok_Ss okK, fun b hb => ?_⟩⟩
      have hb : b = true := hb.mpr rfl
      subst hb
      simp
      refine ⟨pr, rfl, L.ps, ⟨_, _, rfl, ok_Ss okS, ok_Ss okS, fun b hb => ?_⟩⟩
      have hb : b = true := hb.mpr rfl
      subst hb
      simp
      show forL _ _ _ _ _ _ _
      obtain ⟨nd2, ok3⟩ := ws_ex (ex := XYZ) W (by decide +kernel)
      have hNl : (ws ++ XYZ).length ≤ 8 := by simp [XYZ]; omega
      have e2 : ws.map eS ++ [D.str "x", D.str "yy", D.str "zz"] = (ws ++ XYZ).map eS := by simp [eS, XYZ]
      refine forL_pre (enc := fun i : Nat => D.int i) (fun p ρ h' => (∃ b0 b1 b2 b3 b4 b5 b6, ρ = [some (.scr ns), some (.ref 0), some (.int n), some (.lst (ws.map eS)), some (eP pr), some (.lst (M.map eS)), some (eSs (keptN pr)), some (eSs (spoilN pr)), b0, b1, b2, b3, b4, b5, b6]) ∧ ∃ o, h' = o :: R ∧ Tp [o] 0 (B + 16 * (4 - p.length)))
        (List.range 4) _ _ ⟨⟨_, _, _, _, _, _, _, rfl⟩, _, rfl, tp_cons.mp (x2.mono (by simp))⟩ (fun _ _ _ _ => trivial) (fun p2 n2 q2 e3 ρ2 h2 K2 hP2 k2 => ?_) fun ρ2 h2 hP2 => ?_
      · obtain ⟨⟨u0, u1, u2, u3, u4, u5, u6, rfl⟩, o4, rfl, x4⟩ := hP2
        have hp2 : p2.length < 4 := by
          have := congrArg List.length e3
          simp at this
          omega
        simp
        refine ⟨by omega, ?_⟩
        rw [e2]
        generalize hN : ws ++ XYZ = N at nd2 ok3 hNl
        refine ⟨0, B + 16 * (4 - (p2 ++ [n2]).length), N, rfl, nd2, ok3, by omega, tp_cons.mpr (x4.mono (by simp; omega)), fun d o5 hd x5 => ?_⟩
        simp only [List.set_cons_zero] at x5 ⊢
        obtain ⟨v, dt, dl, dn, _⟩ := hd.facts ok3
        have run := okRun_valid v pok (by omega)
        have hdk : okD BIG d := (run.1 [] pr (by simp)).mono (by decide)
        refine ⟨(d, pr), rfl, run, ?_⟩
        dsimp only
        refine forL_pre (enc := eS) (fun c ρ h' => (∃ b0 b1 b2 b3 b6, ρ = [some (.scr ns), some (.ref 0), some (.int n), some (.lst (ws.map eS)), some (eP pr), some (.lst (M.map eS)), some (eSs (keptN pr)), some (eSs (spoilN pr)), b0, b1, b2, b3, some (eDk d), some (eDk (after d pr)), b6]) ∧ h' = o5 :: R)
          M _ _ ⟨⟨_, _, _, _, _, rfl⟩, rfl⟩ (fun _ _ _ _ => trivial) (fun c a r e4 ρ3 h3 K3 hP3 k3 => ?_) fun ρ3 h3 hP3 => ?_
        · obtain ⟨⟨w0, w1, w2, w3, w6, rfl⟩, rfl⟩ := hP3
          have ha : a ∈ M := by rw [e4]; simp
          have oa := oM a ha
          simp
          refine ⟨d, a, M, rfl, v, by omega, by omega, oa, oM, ?_⟩
          show iW (.lst ((outD M d a).map eS)) _ _
          simp only [w_iWl]
          refine forL_pre (enc := eS) (fun u ρ h' => (∃ b1 b2 b3 b6, ρ = [some (.scr ns), some (.ref 0), some (.int n), some (.lst (ws.map eS)), some (eP pr), some (.lst (M.map eS)), some (eSs (keptN pr)), some (eSs (spoilN pr)), some (.str a), b1, b2, b3, some (eDk d), some (eDk (after d pr)), b6]) ∧ h' = o5 :: R)
            (outD M d a) _ _ ⟨⟨_, _, _, _, rfl⟩, rfl⟩ (fun _ _ _ _ => trivial) (fun u z w e5 ρ4 h4 K4 hP4 k4 => ?_) fun ρ4 h4 hP4 => ?_
          · obtain ⟨⟨c1, c2, c3, c6, rfl⟩, rfl⟩ := hP4
            have hz : z ∈ outD M d a := by rw [e5]; simp
            obtain ⟨hzM, hs⟩ := outD_mem.mp hz
            have oz : okN z := by
              obtain ⟨f, hf, _, h2⟩ := same_iff.mp hs
              exact (hdk.2 f hf).2 z h2
            have fin2 : K4 [some (.scr ns), some (.ref 0), some (.int n), some (.lst (ws.map eS)), some (eP pr), some (.lst (M.map eS)), some (eSs (keptN pr)), some (eSs (spoilN pr)), some (.str a), c1, c2, c3, some (eDk d), some (eDk (after d pr)), some (eS z)] (o5 :: R) := k4 _ _ ⟨⟨_, _, _, _, rfl⟩, rfl⟩
            simp
            refine w_inE (enc := eS) eS_inj smp_S (a := a) (l := keptN pr) (fun z e => by cases e) rfl (ok_S oa) (fun b hb => ok_S (okK b hb)) ?_
            by_cases q : a ∈ keptN pr
            · simp only [q, decide_true, Bool.false_xor]
              refine ⟨(after d pr, a, z), rfl, ⟨run.last, oa, oz⟩, ?_⟩
              dsimp only
              rw [inK a q d v z hzM hs]
              simp
              refine w_inE (enc := eS) eS_inj smp_S (a := a) (l := spoilN pr) (fun z e => by cases e) rfl (ok_S oa) (fun b hb => ok_S (okS b hb)) ?_
              by_cases q3 : a ∈ spoilN pr
              · simp only [q3, decide_true, Bool.true_xor, Bool.not_true]
                exact fin2
              · simp only [q3, decide_false, Bool.true_xor, Bool.not_false]
                refine ⟨(after d pr, z), rfl, ⟨run.last, oz⟩, (d, z), rfl, ⟨hdk, oz⟩, ?_⟩
                refine w_eqO ?_
                dsimp only
                rw [inS a ha q3 d v z hzM hs]
                simp
                exact fin2
            · simp only [q, decide_false, Bool.false_xor]
              refine w_inE (enc := eS) eS_inj smp_S (a := a) (l := spoilN pr) (fun z e => by cases e) rfl (ok_S oa) (fun b hb => ok_S (okS b hb)) ?_
              by_cases q3 : a ∈ spoilN pr
              · simp only [q3, decide_true, Bool.true_xor, Bool.not_true]
                exact fin2
              · simp only [q3, decide_false, Bool.true_xor, Bool.not_false]
                refine ⟨(after d pr, z), rfl, ⟨run.last, oz⟩, (d, z), rfl, ⟨hdk, oz⟩, ?_⟩
                refine w_eqO ?_
                dsimp only
                rw [inS a ha q3 d v z hzM hs]
                simp
                exact fin2
          · obtain ⟨⟨c1, c2, c3, c6, rfl⟩, rfl⟩ := hP4
            exact k3 _ _ ⟨⟨_, _, _, _, _, rfl⟩, rfl⟩
        · obtain ⟨⟨w0, w1, w2, w3, w6, rfl⟩, rfl⟩ := hP3
          exact k2 _ _ ⟨⟨_, _, _, _, _, _, _, rfl⟩, o5, rfl, tp_cons.mp x5⟩
      · obtain ⟨⟨u0, u1, u2, u3, u4, u5, u6, rfl⟩, o4, rfl, x4⟩ := hP2
        exact k' _ _ ⟨⟨_, _, _, _, _, _, _, _, _, _, _, _, _, rfl⟩, o4, R, rfl, by simpa using x4⟩
  · obtain ⟨⟨v2, v3, v4, v5, v6, v7, v8, v9, v10, v11, v12, v13, v14, rfl⟩, o, R, rfl, tp⟩ := hP
    simp
    have ps1 : PsOk [[Dd.wr "a" 1]] := ⟨by decide, by decide +kernel, by decide +kernel⟩
    have ps2 : PsOk [[Dd.sv "a" 1]] := ⟨by decide, by decide +kernel, by decide +kernel⟩
    have oka : okNs (["a"] : List Str) := by decide +kernel
    have ok0 : okNs ([] : List Str) := fun n hn => by cases hn
    refine ⟨[.wr "a" 1], rfl, ps1, ?_⟩
    rw [kept_wr]
    refine w_eqSs.mpr ?_
    refine w_eqE (enc := eSs) eSs_inj smp_Ss (a := (["a"] : List Str)) (b := (["a"] : List Str)) (ok_Ss oka) (ok_Ss oka) ?_
    simp
    refine ⟨[.sv "a" 1], rfl, ps2, ?_⟩
    rw [spoil_sv]
    refine w_eqSs.mpr ?_
    refine w_eqE (enc := eSs) eSs_inj smp_Ss (a := []) (b := []) (ok_Ss ok0) (ok_Ss ok0) ?_
    simp
    exact gc_same (k _)
end Z

namespace Z
open PySem PySem.Spec PyProof.Rows L2
def top (i : Nat) : Stmt := PySem.Challenge.pw_samefiles_k13_whole_names_outside.main.body.getD i (.Pass ⟨0, 0, 0, 0⟩)
def ct_mentioned : Ct := { N := N_mentioned, sc := (defScope (top 3)).names, fn := none, gl := [("tuple", .blt .tuple), ("sorted", .blt .sorted), ("set", .blt .set), ("WITH_TWO", .con c_WITH_TWO)], ln := 4, mus := [], dks := [] }
theorem ck_mentioned : (trN 60).ss (ct_mentioned) (defBody (top 3)) = some (s_mentioned) := by kernel_rfl
def ct_shown : Ct := { N := N_shown, sc := (defScope (top 4)).names, fn := none, gl := [], ln := 8, mus := [], dks := [] }
theorem ck_shown : (trN 60).ss (ct_shown) (defBody (top 4)) = some (s_shown) := by kernel_rfl
def ct_are_same : Ct := { N := N_are_same, sc := (defScope (top 5)).names, fn := none, gl := [("any", .blt .any)], ln := 13, mus := [], dks := [] }
theorem ck_are_same : (trN 60).ss (ct_are_same) (defBody (top 5)) = some (s_are_same) := by kernel_rfl
def ct_all_forms : Ct := { N := N_all_forms, sc := (defScope (top 7)).names, fn := none, gl := [("sorted", .blt .sorted), ("tuple", .blt .tuple), ("range", .blt .range), ("len", .blt .len)], ln := 16, mus := [(3, 17), (5, 21)], dks := [] }
theorem ck_all_forms : (trN 60).ss (ct_all_forms) (defBody (top 7)) = some (s_all_forms) := by kernel_rfl
def ct_further_names : Ct := { N := N_further_names, sc := (defScope (top 8)).names, fn := none, gl := [("LETTERS", .con c_LETTERS)], ln := 26, mus := [], dks := [] }
theorem ck_further_names : (trN 60).ss (ct_further_names) (defBody (top 8)) = some (s_further_names) := by kernel_rfl
def ct_own_contents : Ct := { N := N_own_contents, sc := (defScope (top 9)).names, fn := none, gl := [("range", .blt .range), ("len", .blt .len)], ln := 29, mus := [], dks := [] }
theorem ck_own_contents : (trN 60).ss (ct_own_contents) (defBody (top 9)) = some (s_own_contents) := by kernel_rfl
def ct_own_disk (G_own_contents G_further_names G_mentioned : Gs) : Ct := { N := N_own_disk, sc := (defScope (top 10)).names, fn := none, gl := [("tuple", .blt .tuple), ("sorted", .blt .sorted), ("enumerate", .blt .enumerate), ("own_contents", .fn G_own_contents), ("len", .blt .len), ("further_names", .fn G_further_names), ("mentioned", .fn G_mentioned)], ln := 32, mus := [(3, 12)], dks := [] }
theorem ck_own_disk (G_own_contents G_further_names G_mentioned : Gs) : (trN 60).ss (ct_own_disk G_own_contents G_further_names G_mentioned) (defBody (top 10)) = some (s_own_disk G_own_contents G_further_names G_mentioned) := by kernel_rfl
def ct_own_disks (G_all_forms G_mentioned G_own_disk : Gs) : Ct := { N := N_own_disks, sc := (defScope (top 11)).names, fn := none, gl := [("all_forms", .fn G_all_forms), ("mentioned", .fn G_mentioned), ("own_disk", .fn G_own_disk), ("list", .blt .list), ("range", .blt .range), ("len", .blt .len)], ln := 40, mus := [], dks := [] }
theorem ck_own_disks (G_all_forms G_mentioned G_own_disk : Gs) : (trN 60).ss (ct_own_disks G_all_forms G_mentioned G_own_disk) (defBody (top 11)) = some (s_own_disks G_all_forms G_mentioned G_own_disk) := by kernel_rfl
def ct_without : Ct := { N := N_without, sc := (defScope (top 13)).names, fn := none, gl := [("tuple", .blt .tuple)], ln := 43, mus := [], dks := [] }
theorem ck_without : (trN 60).ss (ct_without) (defBody (top 13)) = some (s_without) := by kernel_rfl
def ct_with_file (G_without : Gs) : Ct := { N := N_with_file, sc := (defScope (top 14)).names, fn := none, gl := [("tuple", .blt .tuple), ("sorted", .blt .sorted), ("without", .fn G_without)], ln := 46, mus := [], dks := [] }
theorem ck_with_file (G_without : Gs) : (trN 60).ss (ct_with_file G_without) (defBody (top 14)) = some (s_with_file G_without) := by kernel_rfl
def ct_joined (G_without : Gs) : Ct := { N := N_joined, sc := (defScope (top 15)).names, fn := none, gl := [("tuple", .blt .tuple), ("sorted", .blt .sorted), ("without", .fn G_without)], ln := 48, mus := [(1, 12)], dks := [] }
theorem ck_joined (G_without : Gs) : (trN 60).ss (ct_joined G_without) (defBody (top 15)) = some (s_joined G_without) := by kernel_rfl
def ct_written (G_shown G_with_file : Gs) : Ct := { N := N_written, sc := (defScope (top 16)).names, fn := none, gl := [("tuple", .blt .tuple), ("shown", .fn G_shown), ("with_file", .fn G_with_file)], ln := 53, mus := [], dks := [] }
theorem ck_written (G_shown G_with_file : Gs) : (trN 60).ss (ct_written G_shown G_with_file) (defBody (top 16)) = some (s_written G_shown G_with_file) := by kernel_rfl
def ct_pair_done (G_without G_joined G_are_same G_with_file G_shown G_written : Gs) : Ct := { N := N_pair_done, sc := (defScope (top 17)).names, fn := none, gl := [("without", .fn G_without), ("joined", .fn G_joined), ("are_same", .fn G_are_same), ("with_file", .fn G_with_file), ("shown", .fn G_shown), ("written", .fn G_written)], ln := 57, mus := [], dks := [] }
theorem ck_pair_done (G_without G_joined G_are_same G_with_file G_shown G_written : Gs) : (trN 60).ss (ct_pair_done G_without G_joined G_are_same G_with_file G_shown G_written) (defBody (top 17)) = some (s_pair_done G_without G_joined G_are_same G_with_file G_shown G_written) := by kernel_rfl
def ct_done (G_pair_done G_without G_shown G_with_file G_written : Gs) : Ct := { N := N_done, sc := (defScope (top 18)).names, fn := none, gl := [("tuple", .blt .tuple), ("sorted", .blt .sorted), ("pair_done", .fn G_pair_done), ("without", .fn G_without), ("shown", .fn G_shown), ("with_file", .fn G_with_file), ("written", .fn G_written)], ln := 66, mus := [], dks := [] }
theorem ck_done (G_pair_done G_without G_shown G_with_file G_written : Gs) : (trN 60).ss (ct_done G_pair_done G_without G_shown G_with_file G_written) (defBody (top 18)) = some (s_done G_pair_done G_without G_shown G_with_file G_written) := by kernel_rfl
def ct_after (G_done : Gs) : Ct := { N := N_after, sc := (defScope (top 19)).names, fn := none, gl := [("done", .fn G_done)], ln := 76, mus := [], dks := [] }
theorem ck_after (G_done : Gs) : (trN 60).ss (ct_after G_done) (defBody (top 19)) = some (s_after G_done) := by kernel_rfl
def ct_partners (G_mentioned : Gs) : Ct := { N := N_partners, sc := (defScope (top 21)).names, fn := none, gl := [("mentioned", .fn G_mentioned)], ln := 81, mus := [], dks := [] }
theorem ck_partners (G_mentioned : Gs) : (trN 60).ss (ct_partners G_mentioned) (defBody (top 21)) = some (s_partners G_mentioned) := by kernel_rfl
def ct_kept_links (G_mentioned G_own_disks G_partners G_are_same G_after : Gs) : Ct := { N := N_kept_links, sc := (defScope (top 22)).names, fn := none, gl := [("mentioned", .fn G_mentioned), ("own_disks", .fn G_own_disks), ("all", .blt .all), ("partners", .fn G_partners), ("are_same", .fn G_are_same), ("after", .fn G_after)], ln := 84, mus := [(1, 12)], dks := [] }
theorem ck_kept_links (G_mentioned G_own_disks G_partners G_are_same G_after : Gs) : (trN 60).ss (ct_kept_links G_mentioned G_own_disks G_partners G_are_same G_after) (defBody (top 22)) = some (s_kept_links G_mentioned G_own_disks G_partners G_are_same G_after) := by kernel_rfl
def ct_spoiled (G_mentioned G_own_disks G_partners G_shown G_after : Gs) : Ct := { N := N_spoiled, sc := (defScope (top 23)).names, fn := none, gl := [("mentioned", .fn G_mentioned), ("own_disks", .fn G_own_disks), ("any", .blt .any), ("partners", .fn G_partners), ("shown", .fn G_shown), ("after", .fn G_after)], ln := 94, mus := [(1, 12)], dks := [] }
theorem ck_spoiled (G_mentioned G_own_disks G_partners G_shown G_after : Gs) : (trN 60).ss (ct_spoiled G_mentioned G_own_disks G_partners G_shown G_after) (defBody (top 23)) = some (s_spoiled G_mentioned G_own_disks G_partners G_shown G_after) := by kernel_rfl
def ct_L_draw : Ct := { N := N_L_draw, sc := (defScope (top 25)).names, fn := none, gl := [("len", .blt .len)], ln := 105, mus := [], dks := [] }
theorem ck_L_draw : (trN 60).ss (ct_L_draw) (defBody (top 25)) = some (s_L_draw) := by kernel_rfl
def ct_L_like (G_L_like : Gs) : Ct := { N := N_L_like, sc := (defScope (top 26)).names, fn := none, gl := [("isinstance", .blt .isinstance), ("bool", .blt .bool), ("list", .blt .list), ("tuple", .blt .tuple), ("range", .blt .range), ("len", .blt .len), ("_law_like", .fn G_L_like)], ln := 120, mus := [], dks := [] }
theorem ck_L_like (G_L_like : Gs) : (trN 60).ss (ct_L_like G_L_like) (defBody (top 26)) = some (s_L_like G_L_like) := by kernel_rfl
def ct_L_content (G_L_draw : Gs) : Ct := { N := N_L_content, sc := (defScope (top 27)).names, fn := none, gl := [("_law_draw", .fn G_L_draw)], ln := 130, mus := [], dks := [] }
theorem ck_L_content (G_L_draw : Gs) : (trN 60).ss (ct_L_content G_L_draw) (defBody (top 27)) = some (s_L_content G_L_draw) := by kernel_rfl
def ct_L_deed (G_L_content G_L_draw : Gs) : Ct := { N := N_L_deed, sc := (defScope (top 28)).names, fn := none, gl := [("_law_content", .fn G_L_content), ("_law_draw", .fn G_L_draw), ("len", .blt .len)], ln := 132, mus := [], dks := [] }
theorem ck_L_deed (G_L_content G_L_draw : Gs) : (trN 60).ss (ct_L_deed G_L_content G_L_draw) (defBody (top 28)) = some (s_L_deed G_L_content G_L_draw) := by kernel_rfl
def ct_L_program (G_L_draw G_L_deed : Gs) : Ct := { N := N_L_program, sc := (defScope (top 29)).names, fn := none, gl := [("range", .blt .range), ("_law_draw", .fn G_L_draw), ("_law_deed", .fn G_L_deed)], ln := 138, mus := [], dks := [] }
theorem ck_L_program (G_L_draw G_L_deed : Gs) : (trN 60).ss (ct_L_program G_L_draw G_L_deed) (defBody (top 29)) = some (s_L_program G_L_draw G_L_deed) := by kernel_rfl
def ct_L_names (G_L_draw : Gs) : Ct := { N := N_L_names, sc := (defScope (top 30)).names, fn := none, gl := [("_law_draw", .fn G_L_draw)], ln := 143, mus := [], dks := [] }
theorem ck_L_names (G_L_draw : Gs) : (trN 60).ss (ct_L_names G_L_draw) (defBody (top 30)) = some (s_L_names G_L_draw) := by kernel_rfl
def ct_L_disk (G_L_draw G_L_content : Gs) : Ct := { N := N_L_disk, sc := (defScope (top 31)).names, fn := none, gl := [("tuple", .blt .tuple), ("sorted", .blt .sorted), ("_law_draw", .fn G_L_draw), ("len", .blt .len), ("_law_content", .fn G_L_content)], ln := 146, mus := [(1, 12), (7, 26)], dks := [] }
theorem ck_L_disk (G_L_draw G_L_content : Gs) : (trN 60).ss (ct_L_disk G_L_draw G_L_content) (defBody (top 31)) = some (s_L_disk G_L_draw G_L_content) := by kernel_rfl
def ct_L_mentioned : Ct := { N := N_L_mentioned, sc := (defScope (top 32)).names, fn := none, gl := [("sorted", .blt .sorted)], ln := 155, mus := [], dks := [] }
theorem ck_L_mentioned : (trN 60).ss (ct_L_mentioned) (defBody (top 32)) = some (s_L_mentioned) := by kernel_rfl
def ct_L_held : Ct := { N := N_L_held, sc := (defScope (top 33)).names, fn := none, gl := [("enumerate", .blt .enumerate)], ln := 162, mus := [], dks := [] }
theorem ck_L_held : (trN 60).ss (ct_L_held) (defBody (top 33)) = some (s_L_held) := by kernel_rfl
def ct_L_shown : Ct := { N := N_L_shown, sc := (defScope (top 34)).names, fn := none, gl := [("tuple", .blt .tuple), ("sorted", .blt .sorted)], ln := 169, mus := [], dks := ["groups"] }
theorem ck_L_shown : (trN 60).ss (ct_L_shown) (defBody (top 34)) = some (s_L_shown) := by kernel_rfl
def ct_L_fresh : Ct := { N := N_L_fresh, sc := (defScope (top 35)).names, fn := none, gl := [("len", .blt .len)], ln := 175, mus := [], dks := [] }
theorem ck_L_fresh : (trN 60).ss (ct_L_fresh) (defBody (top 35)) = some (s_L_fresh) := by kernel_rfl
def ct_L_do (G_L_fresh : Gs) : Ct := { N := N_L_do, sc := (defScope (top 36)).names, fn := none, gl := [("_law_fresh", .fn G_L_fresh)], ln := 180, mus := [], dks := [] }
theorem ck_L_do (G_L_fresh : Gs) : (trN 60).ss (ct_L_do G_L_fresh) (defBody (top 36)) = some (s_L_do G_L_fresh) := by kernel_rfl
def ct_L_after (G_L_shown G_L_do G_L_held : Gs) : Ct := { N := N_L_after, sc := (defScope (top 37)).names, fn := none, gl := [("_law_shown", .fn G_L_shown), ("_law_do", .fn G_L_do), ("_law_held", .fn G_L_held)], ln := 198, mus := [], dks := [] }
theorem ck_L_after (G_L_shown G_L_do G_L_held : Gs) : (trN 60).ss (ct_L_after G_L_shown G_L_do G_L_held) (defBody (top 37)) = some (s_L_after G_L_shown G_L_do G_L_held) := by kernel_rfl
def ct_L_groupings : Ct := { N := N_L_groupings, sc := (defScope (top 38)).names, fn := none, gl := [("range", .blt .range), ("len", .blt .len), ("list", .blt .list)], ln := 203, mus := [(3, 17)], dks := [] }
theorem ck_L_groupings : (trN 60).ss (ct_L_groupings) (defBody (top 38)) = some (s_L_groupings) := by kernel_rfl
def ct_L_labelled : Ct := { N := N_L_labelled, sc := (defScope (top 39)).names, fn := none, gl := [("tuple", .blt .tuple), ("sorted", .blt .sorted), ("enumerate", .blt .enumerate)], ln := 213, mus := [(1, 12)], dks := [] }
theorem ck_L_labelled : (trN 60).ss (ct_L_labelled) (defBody (top 39)) = some (s_L_labelled) := by kernel_rfl
def ct_L_proving (G_L_groupings G_L_labelled : Gs) : Ct := { N := N_L_proving, sc := (defScope (top 40)).names, fn := none, gl := [("_law_groupings", .fn G_L_groupings), ("_law_labelled", .fn G_L_labelled), ("list", .blt .list), ("range", .blt .range), ("len", .blt .len)], ln := 219, mus := [], dks := [] }
theorem ck_L_proving (G_L_groupings G_L_labelled : Gs) : (trN 60).ss (ct_L_proving G_L_groupings G_L_labelled) (defBody (top 40)) = some (s_L_proving G_L_groupings G_L_labelled) := by kernel_rfl
def ct_L_content_of : Ct := { N := N_L_content_of, sc := (defScope (top 41)).names, fn := none, gl := [], ln := 221, mus := [], dks := [] }
theorem ck_L_content_of : (trN 60).ss (ct_L_content_of) (defBody (top 41)) = some (s_L_content_of) := by kernel_rfl
def ct_L_together : Ct := { N := N_L_together, sc := (defScope (top 42)).names, fn := none, gl := [], ln := 226, mus := [], dks := [] }
theorem ck_L_together : (trN 60).ss (ct_L_together) (defBody (top 42)) = some (s_L_together) := by kernel_rfl
def ct_L_outside : Ct := { N := N_L_outside, sc := (defScope (top 43)).names, fn := none, gl := [], ln := 228, mus := [], dks := [] }
theorem ck_L_outside : (trN 60).ss (ct_L_outside) (defBody (top 43)) = some (s_L_outside) := by kernel_rfl
def ct_law (G_spoiled G_kept_links G_L_outside G_shown G_L_together G_after G_L_disk G_L_like G_L_proving G_L_content_of G_L_after G_L_mentioned G_L_program G_L_names : Gs) : Ct := { N := N_law, sc := (defScope (top 44)).names, fn := none, gl := [("spoiled", .fn G_spoiled), ("kept_links", .fn G_kept_links), ("range", .blt .range), ("_law_outside", .fn G_L_outside), ("shown", .fn G_shown), ("_law_together", .fn G_L_together), ("after", .fn G_after), ("_law_disk", .fn G_L_disk), ("_law_like", .fn G_L_like), ("int", .blt .int), ("_law_proving", .fn G_L_proving), ("_law_content_of", .fn G_L_content_of), ("_law_after", .fn G_L_after), ("_law_mentioned", .fn G_L_mentioned), ("_law_program", .fn G_L_program), ("_law_names", .fn G_L_names), ("list", .blt .list)], ln := 234, mus := [(1, 11)], dks := [] }
theorem ck_law (G_spoiled G_kept_links G_L_outside G_shown G_L_together G_after G_L_disk G_L_like G_L_proving G_L_content_of G_L_after G_L_mentioned G_L_program G_L_names : Gs) : (trN 60).ss (ct_law G_spoiled G_kept_links G_L_outside G_shown G_L_together G_after G_L_disk G_L_like G_L_proving G_L_content_of G_L_after G_L_mentioned G_L_program G_L_names) (defBody (top 44)) = some (s_law G_spoiled G_kept_links G_L_outside G_shown G_L_together G_after G_L_disk G_L_like G_L_proving G_L_content_of G_L_after G_L_mentioned G_L_program G_L_names) := by kernel_rfl
theorem sc_mentioned : FnScope N_mentioned ["programs"] (defScope (top 3)) := ⟨rfl, rfl, rfl, by decide +kernel, rfl, by decide +kernel, by decide +kernel⟩
theorem sc_shown : FnScope N_shown ["disk", "name"] (defScope (top 4)) := ⟨rfl, rfl, rfl, by decide +kernel, rfl, by decide +kernel, by decide +kernel⟩
theorem sc_are_same : FnScope N_are_same ["disk", "name", "other"] (defScope (top 5)) := ⟨rfl, rfl, rfl, by decide +kernel, rfl, by decide +kernel, by decide +kernel⟩
theorem sc_all_forms : FnScope N_all_forms ["names"] (defScope (top 7)) := ⟨rfl, rfl, rfl, by decide +kernel, rfl, by decide +kernel, by decide +kernel⟩
theorem sc_further_names : FnScope N_further_names ["names", "many"] (defScope (top 8)) := ⟨rfl, rfl, rfl, by decide +kernel, rfl, by decide +kernel, by decide +kernel⟩
theorem sc_own_contents : FnScope N_own_contents ["programs", "many"] (defScope (top 9)) := ⟨rfl, rfl, rfl, by decide +kernel, rfl, by decide +kernel, by decide +kernel⟩
theorem sc_own_disk : FnScope N_own_disk ["form", "programs", "marked"] (defScope (top 10)) := ⟨rfl, rfl, rfl, by decide +kernel, rfl, by decide +kernel, by decide +kernel⟩
theorem sc_own_disks : FnScope N_own_disks ["programs"] (defScope (top 11)) := ⟨rfl, rfl, rfl, by decide +kernel, rfl, by decide +kernel, by decide +kernel⟩
theorem sc_without : FnScope N_without ["disk", "name"] (defScope (top 13)) := ⟨rfl, rfl, rfl, by decide +kernel, rfl, by decide +kernel, by decide +kernel⟩
theorem sc_with_file : FnScope N_with_file ["disk", "name", "content"] (defScope (top 14)) := ⟨rfl, rfl, rfl, by decide +kernel, rfl, by decide +kernel, by decide +kernel⟩
theorem sc_joined : FnScope N_joined ["disk", "name", "other"] (defScope (top 15)) := ⟨rfl, rfl, rfl, by decide +kernel, rfl, by decide +kernel, by decide +kernel⟩
theorem sc_written : FnScope N_written ["disk", "name", "content"] (defScope (top 16)) := ⟨rfl, rfl, rfl, by decide +kernel, rfl, by decide +kernel, by decide +kernel⟩
theorem sc_pair_done : FnScope N_pair_done ["disk", "word", "name", "other"] (defScope (top 17)) := ⟨rfl, rfl, rfl, by decide +kernel, rfl, by decide +kernel, by decide +kernel⟩
theorem sc_done : FnScope N_done ["disk", "deed"] (defScope (top 18)) := ⟨rfl, rfl, rfl, by decide +kernel, rfl, by decide +kernel, by decide +kernel⟩
theorem sc_after : FnScope N_after ["disk", "program"] (defScope (top 19)) := ⟨rfl, rfl, rfl, by decide +kernel, rfl, by decide +kernel, by decide +kernel⟩
theorem sc_partners : FnScope N_partners ["program", "disk", "name"] (defScope (top 21)) := ⟨rfl, rfl, rfl, by decide +kernel, rfl, by decide +kernel, by decide +kernel⟩
theorem sc_kept_links : FnScope N_kept_links ["program"] (defScope (top 22)) := ⟨rfl, rfl, rfl, by decide +kernel, rfl, by decide +kernel, by decide +kernel⟩
theorem sc_spoiled : FnScope N_spoiled ["program"] (defScope (top 23)) := ⟨rfl, rfl, rfl, by decide +kernel, rfl, by decide +kernel, by decide +kernel⟩
theorem sc_L_draw : FnScope N_L_draw ["tape", "many"] (defScope (top 25)) := ⟨rfl, rfl, rfl, by decide +kernel, rfl, by decide +kernel, by decide +kernel⟩
theorem sc_L_like : FnScope N_L_like ["one", "two"] (defScope (top 26)) := ⟨rfl, rfl, rfl, by decide +kernel, rfl, by decide +kernel, by decide +kernel⟩
theorem sc_L_content : FnScope N_L_content ["tape"] (defScope (top 27)) := ⟨rfl, rfl, rfl, by decide +kernel, rfl, by decide +kernel, by decide +kernel⟩
theorem sc_L_deed : FnScope N_L_deed ["tape", "names"] (defScope (top 28)) := ⟨rfl, rfl, rfl, by decide +kernel, rfl, by decide +kernel, by decide +kernel⟩
theorem sc_L_program : FnScope N_L_program ["tape", "names", "most"] (defScope (top 29)) := ⟨rfl, rfl, rfl, by decide +kernel, rfl, by decide +kernel, by decide +kernel⟩
theorem sc_L_names : FnScope N_L_names ["tape", "most"] (defScope (top 30)) := ⟨rfl, rfl, rfl, by decide +kernel, rfl, by decide +kernel, by decide +kernel⟩
theorem sc_L_disk : FnScope N_L_disk ["tape", "names"] (defScope (top 31)) := ⟨rfl, rfl, rfl, by decide +kernel, rfl, by decide +kernel, by decide +kernel⟩
theorem sc_L_mentioned : FnScope N_L_mentioned ["program"] (defScope (top 32)) := ⟨rfl, rfl, rfl, by decide +kernel, rfl, by decide +kernel, by decide +kernel⟩
theorem sc_L_held : FnScope N_L_held ["disk"] (defScope (top 33)) := ⟨rfl, rfl, rfl, by decide +kernel, rfl, by decide +kernel, by decide +kernel⟩
theorem sc_L_shown : FnScope N_L_shown ["held"] (defScope (top 34)) := ⟨rfl, rfl, rfl, by decide +kernel, rfl, by decide +kernel, by decide +kernel⟩
theorem sc_L_fresh : FnScope N_L_fresh ["held", "name", "content"] (defScope (top 35)) := ⟨rfl, rfl, rfl, by decide +kernel, rfl, by decide +kernel, by decide +kernel⟩
theorem sc_L_do : FnScope N_L_do ["held", "deed"] (defScope (top 36)) := ⟨rfl, rfl, rfl, by decide +kernel, rfl, by decide +kernel, by decide +kernel⟩
theorem sc_L_after : FnScope N_L_after ["disk", "program"] (defScope (top 37)) := ⟨rfl, rfl, rfl, by decide +kernel, rfl, by decide +kernel, by decide +kernel⟩
theorem sc_L_groupings : FnScope N_L_groupings ["names"] (defScope (top 38)) := ⟨rfl, rfl, rfl, by decide +kernel, rfl, by decide +kernel, by decide +kernel⟩
theorem sc_L_labelled : FnScope N_L_labelled ["row", "marked"] (defScope (top 39)) := ⟨rfl, rfl, rfl, by decide +kernel, rfl, by decide +kernel, by decide +kernel⟩
theorem sc_L_proving : FnScope N_L_proving ["names"] (defScope (top 40)) := ⟨rfl, rfl, rfl, by decide +kernel, rfl, by decide +kernel, by decide +kernel⟩
theorem sc_L_content_of : FnScope N_L_content_of ["disk", "name"] (defScope (top 41)) := ⟨rfl, rfl, rfl, by decide +kernel, rfl, by decide +kernel, by decide +kernel⟩
theorem sc_L_together : FnScope N_L_together ["disk", "name", "other"] (defScope (top 42)) := ⟨rfl, rfl, rfl, by decide +kernel, rfl, by decide +kernel, by decide +kernel⟩
theorem sc_L_outside : FnScope N_L_outside ["disk", "name", "some"] (defScope (top 43)) := ⟨rfl, rfl, rfl, by decide +kernel, rfl, by decide +kernel, by decide +kernel⟩
theorem sc_law : FnScope N_law ["script"] (defScope (top 44)) := ⟨rfl, rfl, rfl, by decide +kernel, rfl, by decide +kernel, by decide +kernel⟩
section
variable {P : Program} {w : World} {K : PySem.W.Frag} {mg : Str → Option Value} {base : Heap}
abbrev FnD (K : PySem.W.Frag) (x : Str) (i : Nat) (f : Addr) (fd : FuncData) : Prop := FunD K x x (defArgs (top i)) (defBody (top i)) (defScope (top i)) [] [] f fd
theorem fnOk_of {k : Nat} {x : Str} {params : Arguments} {body : List Stmt} {scope : Scope} {f : Addr} {fd : FuncData} {N ps : List Str} {c : Ct} {s : Sv} {n : Nat} (F : FunD K x x params body scope [] [] f fd)
    (S : FnScope N ps scope) (hN : c.N = N) (hsc : c.sc = scope.names) (hfn : c.fn = none) (nb : nbB N = true) (gl : GlL P w K mg base k c.gl) (ht : (trN n).ss c body = some s) : FnOk P w K mg base CX0 (k + 1) f fd ps (spG K (bodyG N.length ps.length s)) :=
  F.ok S (fun vs H Q E h => sp_len h) fun cdv A outer s' H vs Q E hr h => ⟨_, PSs.nox ((trN_ok n).ss _ c body s (good_cx S hr hN hsc hfn nb gl) ht), sp_body h⟩
theorem spG_imp {g g' : Gs} {vs : List V} {H : Hp} {Q : VK} {E : XK} (k : ∀ ds hh K, g' ds hh K → g ds hh K) (q : spG K g' vs H Q E) : spG K g vs H Q E := by
  obtain ⟨W, hh, ds, K0, R, rs, w, fo⟩ := q
  exact ⟨W, hh, ds, K0, R, rs, k _ _ _ w, fo⟩
theorem gl_nil {k : Nat} : GlL P w K mg base k [] := trivial
theorem gl_cons {k : Nat} {x : Str} {s : Sy} {r : List (Str × Sy)} (a : SyL P w K mg base k x s) (b : GlL P w K mg base k r) : GlL P w K mg base k ((x, s) :: r) := ⟨a, b⟩
theorem sy_fn {k : Nat} {x : Str} {g : Gs} (F : FnL P w K mg base k x g) : SyL P w K mg base k x (.fn g) := F
theorem sy_blt {k : Nat} {x : Str} {b : Bt} (h : mg x = none) (e : x = b.name) : SyL P w K mg base k x (.blt b) := ⟨h, e⟩
theorem rec_dn (G : Nat → Gs) {k : Nat} : ∀ j, k + 1 = j + 1 → ∀ ds h K, G j ds h K → G k ds h K := by
  intro j e ds h K q
  have e : j = k := by omega
  subst e
  exact q
def noG : Gs := fun _ _ _ => False
theorem fnL_no {k : Nat} {x : Str} {params : Arguments} {body : List Stmt} {scope : Scope} {f : Addr} {fd : FuncData} {N ps : List Str} (F : FunD K x x params body scope [] [] f fd) (hm : mg x = some (.ref f)) (hd : x ≠ "__debug__")
    (hb : Binds K fd ps []) (S : FnScope N ps scope) : FnL P w K mg base (k + 1) x noG := by
  have no : ∀ {vs H Q E}, spG K noG vs H Q E → False := fun ⟨_, _, _, _, _, _, z, _⟩ => z
  have ok : FnOk P w K mg base CX0 (k + 1) f fd ps (spG K noG) := F.ok S (fun vs H Q E h => (no h).elim) fun cdv A outer s' H vs Q E hr h => (no h).elim
  have raw := ok.raw hb .nil
  exact ⟨hd, f, raw.imp fun vs H Q E h => (no h).elim, F.kp, hm⟩
theorem fl_mentioned {f : Addr} {fd : FuncData} (F : FnD K "mentioned" 3 f fd) (hm : mg "mentioned" = some (.ref f)) (a0 : mg "tuple" = none) (a1 : mg "sorted" = none) (a2 : mg "set" = none) (a3 : SyL P w K mg base 0 "WITH_TWO" (.con c_WITH_TWO)) : FnL P w K mg base 1 "mentioned" G_mentioned :=
  (fnL_star (k := 0) (c := ct_mentioned) F hm (by decide) (fun _ _ _ _ _ _ => rfl) (fun _ _ _ _ _ _ _ _ => rfl) sc_mentioned rfl rfl rfl (by decide +kernel) (gl_cons (sy_blt a0 rfl) (gl_cons (sy_blt a1 rfl) (gl_cons (sy_blt a2 rfl) (gl_cons (a3) gl_nil)))) (ck_mentioned)).imp fun ds hh K g => p_mentioned g
theorem fl_shown {f : Addr} {fd : FuncData} (F : FnD K "shown" 4 f fd) (hm : mg "shown" = some (.ref f))  : FnL P w K mg base 1 "shown" G_shown :=
  (fnL_of (k := 0) (c := ct_shown) F hm (by decide) (FunD.bindsN (ps := ["disk", "name"]) F fun _ _ _ _ _ _ us hl => match us, hl with | [_, _], _ => rfl) sc_shown rfl rfl rfl (by decide +kernel) gl_nil (ck_shown)).imp fun ds hh K g => p_shown g
theorem fl_are_same {f : Addr} {fd : FuncData} (F : FnD K "are_same" 5 f fd) (hm : mg "are_same" = some (.ref f)) (a0 : mg "any" = none) : FnL P w K mg base 1 "are_same" G_are_same :=
  (fnL_of (k := 0) (c := ct_are_same) F hm (by decide) (FunD.bindsN (ps := ["disk", "name", "other"]) F fun _ _ _ _ _ _ us hl => match us, hl with | [_, _, _], _ => rfl) sc_are_same rfl rfl rfl (by decide +kernel) (gl_cons (sy_blt a0 rfl) gl_nil) (ck_are_same)).imp fun ds hh K g => p_are_same g
theorem fl_all_forms {f : Addr} {fd : FuncData} (F : FnD K "all_forms" 7 f fd) (hm : mg "all_forms" = some (.ref f)) (a0 : mg "sorted" = none) (a1 : mg "tuple" = none) (a2 : mg "range" = none) (a3 : mg "len" = none) : FnL P w K mg base 1 "all_forms" G_all_forms :=
  (fnL_of (k := 0) (c := ct_all_forms) F hm (by decide) (FunD.bindsN (ps := ["names"]) F fun _ _ _ _ _ _ us hl => match us, hl with | [_], _ => rfl) sc_all_forms rfl rfl rfl (by decide +kernel) (gl_cons (sy_blt a0 rfl) (gl_cons (sy_blt a1 rfl) (gl_cons (sy_blt a2 rfl) (gl_cons (sy_blt a3 rfl) gl_nil)))) (ck_all_forms)).imp fun ds hh K g => p_all_forms g
theorem fl_further_names {f : Addr} {fd : FuncData} (F : FnD K "further_names" 8 f fd) (hm : mg "further_names" = some (.ref f)) (a0 : SyL P w K mg base 0 "LETTERS" (.con c_LETTERS)) : FnL P w K mg base 1 "further_names" G_further_names :=
  (fnL_of (k := 0) (c := ct_further_names) F hm (by decide) (FunD.bindsN (ps := ["names", "many"]) F fun _ _ _ _ _ _ us hl => match us, hl with | [_, _], _ => rfl) sc_further_names rfl rfl rfl (by decide +kernel) (gl_cons (a0) gl_nil) (ck_further_names)).imp fun ds hh K g => p_further_names g
theorem fl_own_contents {f : Addr} {fd : FuncData} (F : FnD K "own_contents" 9 f fd) (hm : mg "own_contents" = some (.ref f)) (a0 : mg "range" = none) (a1 : mg "len" = none) : FnL P w K mg base 1 "own_contents" G_own_contents :=
  (fnL_of (k := 0) (c := ct_own_contents) F hm (by decide) (FunD.bindsN (ps := ["programs", "many"]) F fun _ _ _ _ _ _ us hl => match us, hl with | [_, _], _ => rfl) sc_own_contents rfl rfl rfl (by decide +kernel) (gl_cons (sy_blt a0 rfl) (gl_cons (sy_blt a1 rfl) gl_nil)) (ck_own_contents)).imp fun ds hh K g => p_own_contents g
theorem fl_own_disk {f : Addr} {fd : FuncData} (F : FnD K "own_disk" 10 f fd) (hm : mg "own_disk" = some (.ref f)) (a0 : mg "tuple" = none) (a1 : mg "sorted" = none) (a2 : mg "enumerate" = none) (a3 : FnL P w K mg base 1 "own_contents" G_own_contents) (a4 : mg "len" = none) (a5 : FnL P w K mg base 1 "further_names" G_further_names) (a6 : FnL P w K mg base 1 "mentioned" G_mentioned) : FnL P w K mg base 2 "own_disk" G_own_disk :=
  (fnL_of (k := 1) (c := ct_own_disk G_own_contents G_further_names G_mentioned) F hm (by decide) (FunD.bindsN (ps := ["form", "programs", "marked"]) F fun _ _ _ _ _ _ us hl => match us, hl with | [_, _, _], _ => rfl) sc_own_disk rfl rfl rfl (by decide +kernel) (gl_cons (sy_blt a0 rfl) (gl_cons (sy_blt a1 rfl) (gl_cons (sy_blt a2 rfl) (gl_cons (sy_fn (a3.mono (by decide))) (gl_cons (sy_blt a4 rfl) (gl_cons (sy_fn (a5.mono (by decide))) (gl_cons (sy_fn (a6.mono (by decide))) gl_nil))))))) (ck_own_disk G_own_contents G_further_names G_mentioned)).imp fun ds hh K g => p_own_disk g
theorem fl_own_disks {f : Addr} {fd : FuncData} (F : FnD K "own_disks" 11 f fd) (hm : mg "own_disks" = some (.ref f)) (a0 : FnL P w K mg base 1 "all_forms" G_all_forms) (a1 : FnL P w K mg base 1 "mentioned" G_mentioned) (a2 : FnL P w K mg base 2 "own_disk" G_own_disk) (a3 : mg "list" = none) (a4 : mg "range" = none) (a5 : mg "len" = none) : FnL P w K mg base 3 "own_disks" G_own_disks :=
  (fnL_star (k := 2) (c := ct_own_disks G_all_forms G_mentioned G_own_disk) F hm (by decide) (fun _ _ _ _ _ _ => rfl) (fun _ _ _ _ _ _ _ _ => rfl) sc_own_disks rfl rfl rfl (by decide +kernel) (gl_cons (sy_fn (a0.mono (by decide))) (gl_cons (sy_fn (a1.mono (by decide))) (gl_cons (sy_fn (a2.mono (by decide))) (gl_cons (sy_blt a3 rfl) (gl_cons (sy_blt a4 rfl) (gl_cons (sy_blt a5 rfl) gl_nil)))))) (ck_own_disks G_all_forms G_mentioned G_own_disk)).imp fun ds hh K g => p_own_disks g
theorem fl_without {f : Addr} {fd : FuncData} (F : FnD K "without" 13 f fd) (hm : mg "without" = some (.ref f)) (a0 : mg "tuple" = none) : FnL P w K mg base 1 "without" G_without :=
  (fnL_of (k := 0) (c := ct_without) F hm (by decide) (FunD.bindsN (ps := ["disk", "name"]) F fun _ _ _ _ _ _ us hl => match us, hl with | [_, _], _ => rfl) sc_without rfl rfl rfl (by decide +kernel) (gl_cons (sy_blt a0 rfl) gl_nil) (ck_without)).imp fun ds hh K g => p_without g
theorem fl_with_file {f : Addr} {fd : FuncData} (F : FnD K "with_file" 14 f fd) (hm : mg "with_file" = some (.ref f)) (a0 : mg "tuple" = none) (a1 : mg "sorted" = none) (a2 : FnL P w K mg base 1 "without" G_without) : FnL P w K mg base 2 "with_file" G_with_file :=
  (fnL_of (k := 1) (c := ct_with_file G_without) F hm (by decide) (FunD.bindsN (ps := ["disk", "name", "content"]) F fun _ _ _ _ _ _ us hl => match us, hl with | [_, _, _], _ => rfl) sc_with_file rfl rfl rfl (by decide +kernel) (gl_cons (sy_blt a0 rfl) (gl_cons (sy_blt a1 rfl) (gl_cons (sy_fn (a2.mono (by decide))) gl_nil))) (ck_with_file G_without)).imp fun ds hh K g => p_with_file g
theorem fl_joined {f : Addr} {fd : FuncData} (F : FnD K "joined" 15 f fd) (hm : mg "joined" = some (.ref f)) (a0 : mg "tuple" = none) (a1 : mg "sorted" = none) (a2 : FnL P w K mg base 1 "without" G_without) : FnL P w K mg base 2 "joined" G_joined :=
  (fnL_of (k := 1) (c := ct_joined G_without) F hm (by decide) (FunD.bindsN (ps := ["disk", "name", "other"]) F fun _ _ _ _ _ _ us hl => match us, hl with | [_, _, _], _ => rfl) sc_joined rfl rfl rfl (by decide +kernel) (gl_cons (sy_blt a0 rfl) (gl_cons (sy_blt a1 rfl) (gl_cons (sy_fn (a2.mono (by decide))) gl_nil))) (ck_joined G_without)).imp fun ds hh K g => p_joined g
theorem fl_written {f : Addr} {fd : FuncData} (F : FnD K "written" 16 f fd) (hm : mg "written" = some (.ref f)) (a0 : mg "tuple" = none) (a1 : FnL P w K mg base 1 "shown" G_shown) (a2 : FnL P w K mg base 2 "with_file" G_with_file) : FnL P w K mg base 3 "written" G_written :=
  (fnL_of (k := 2) (c := ct_written G_shown G_with_file) F hm (by decide) (FunD.bindsN (ps := ["disk", "name", "content"]) F fun _ _ _ _ _ _ us hl => match us, hl with | [_, _, _], _ => rfl) sc_written rfl rfl rfl (by decide +kernel) (gl_cons (sy_blt a0 rfl) (gl_cons (sy_fn (a1.mono (by decide))) (gl_cons (sy_fn (a2.mono (by decide))) gl_nil))) (ck_written G_shown G_with_file)).imp fun ds hh K g => p_written g
theorem fl_pair_done {f : Addr} {fd : FuncData} (F : FnD K "pair_done" 17 f fd) (hm : mg "pair_done" = some (.ref f)) (a0 : FnL P w K mg base 1 "without" G_without) (a1 : FnL P w K mg base 2 "joined" G_joined) (a2 : FnL P w K mg base 1 "are_same" G_are_same) (a3 : FnL P w K mg base 2 "with_file" G_with_file) (a4 : FnL P w K mg base 1 "shown" G_shown) (a5 : FnL P w K mg base 3 "written" G_written) : FnL P w K mg base 4 "pair_done" G_pair_done :=
  (fnL_of (k := 3) (c := ct_pair_done G_without G_joined G_are_same G_with_file G_shown G_written) F hm (by decide) (FunD.bindsN (ps := ["disk", "word", "name", "other"]) F fun _ _ _ _ _ _ us hl => match us, hl with | [_, _, _, _], _ => rfl) sc_pair_done rfl rfl rfl (by decide +kernel) (gl_cons (sy_fn (a0.mono (by decide))) (gl_cons (sy_fn (a1.mono (by decide))) (gl_cons (sy_fn (a2.mono (by decide))) (gl_cons (sy_fn (a3.mono (by decide))) (gl_cons (sy_fn (a4.mono (by decide))) (gl_cons (sy_fn (a5.mono (by decide))) gl_nil)))))) (ck_pair_done G_without G_joined G_are_same G_with_file G_shown G_written)).imp fun ds hh K g => p_pair_done g
theorem fl_done {f : Addr} {fd : FuncData} (F : FnD K "done" 18 f fd) (hm : mg "done" = some (.ref f)) (a0 : mg "tuple" = none) (a1 : mg "sorted" = none) (a2 : FnL P w K mg base 4 "pair_done" G_pair_done) (a3 : FnL P w K mg base 1 "without" G_without) (a4 : FnL P w K mg base 1 "shown" G_shown) (a5 : FnL P w K mg base 2 "with_file" G_with_file) (a6 : FnL P w K mg base 3 "written" G_written) : FnL P w K mg base 5 "done" G_done :=
  (fnL_of (k := 4) (c := ct_done G_pair_done G_without G_shown G_with_file G_written) F hm (by decide) (FunD.bindsN (ps := ["disk", "deed"]) F fun _ _ _ _ _ _ us hl => match us, hl with | [_, _], _ => rfl) sc_done rfl rfl rfl (by decide +kernel) (gl_cons (sy_blt a0 rfl) (gl_cons (sy_blt a1 rfl) (gl_cons (sy_fn (a2.mono (by decide))) (gl_cons (sy_fn (a3.mono (by decide))) (gl_cons (sy_fn (a4.mono (by decide))) (gl_cons (sy_fn (a5.mono (by decide))) (gl_cons (sy_fn (a6.mono (by decide))) gl_nil))))))) (ck_done G_pair_done G_without G_shown G_with_file G_written)).imp fun ds hh K g => p_done g
theorem fl_after {f : Addr} {fd : FuncData} (F : FnD K "after" 19 f fd) (hm : mg "after" = some (.ref f)) (a0 : FnL P w K mg base 5 "done" G_done) : FnL P w K mg base 6 "after" G_after :=
  (fnL_of (k := 5) (c := ct_after G_done) F hm (by decide) (FunD.bindsN (ps := ["disk", "program"]) F fun _ _ _ _ _ _ us hl => match us, hl with | [_, _], _ => rfl) sc_after rfl rfl rfl (by decide +kernel) (gl_cons (sy_fn (a0.mono (by decide))) gl_nil) (ck_after G_done)).imp fun ds hh K g => p_after g
theorem fl_partners {f : Addr} {fd : FuncData} (F : FnD K "partners" 21 f fd) (hm : mg "partners" = some (.ref f)) (a0 : FnL P w K mg base 1 "mentioned" G_mentioned) : FnL P w K mg base 2 "partners" G_partners :=
  (fnL_of (k := 1) (c := ct_partners G_mentioned) F hm (by decide) (FunD.bindsN (ps := ["program", "disk", "name"]) F fun _ _ _ _ _ _ us hl => match us, hl with | [_, _, _], _ => rfl) sc_partners rfl rfl rfl (by decide +kernel) (gl_cons (sy_fn (a0.mono (by decide))) gl_nil) (ck_partners G_mentioned)).imp fun ds hh K g => p_partners g
theorem fl_kept_links {f : Addr} {fd : FuncData} (F : FnD K "kept_links" 22 f fd) (hm : mg "kept_links" = some (.ref f)) (a0 : FnL P w K mg base 1 "mentioned" G_mentioned) (a1 : FnL P w K mg base 3 "own_disks" G_own_disks) (a2 : mg "all" = none) (a3 : FnL P w K mg base 2 "partners" G_partners) (a4 : FnL P w K mg base 1 "are_same" G_are_same) (a5 : FnL P w K mg base 6 "after" G_after) : FnL P w K mg base 7 "kept_links" G_kept_links :=
  (fnL_of (k := 6) (c := ct_kept_links G_mentioned G_own_disks G_partners G_are_same G_after) F hm (by decide) (FunD.bindsN (ps := ["program"]) F fun _ _ _ _ _ _ us hl => match us, hl with | [_], _ => rfl) sc_kept_links rfl rfl rfl (by decide +kernel) (gl_cons (sy_fn (a0.mono (by decide))) (gl_cons (sy_fn (a1.mono (by decide))) (gl_cons (sy_blt a2 rfl) (gl_cons (sy_fn (a3.mono (by decide))) (gl_cons (sy_fn (a4.mono (by decide))) (gl_cons (sy_fn (a5.mono (by decide))) gl_nil)))))) (ck_kept_links G_mentioned G_own_disks G_partners G_are_same G_after)).imp fun ds hh K g => p_kept_links g
theorem fl_spoiled {f : Addr} {fd : FuncData} (F : FnD K "spoiled" 23 f fd) (hm : mg "spoiled" = some (.ref f)) (a0 : FnL P w K mg base 1 "mentioned" G_mentioned) (a1 : FnL P w K mg base 3 "own_disks" G_own_disks) (a2 : mg "any" = none) (a3 : FnL P w K mg base 2 "partners" G_partners) (a4 : FnL P w K mg base 1 "shown" G_shown) (a5 : FnL P w K mg base 6 "after" G_after) : FnL P w K mg base 7 "spoiled" G_spoiled :=
  (fnL_of (k := 6) (c := ct_spoiled G_mentioned G_own_disks G_partners G_shown G_after) F hm (by decide) (FunD.bindsN (ps := ["program"]) F fun _ _ _ _ _ _ us hl => match us, hl with | [_], _ => rfl) sc_spoiled rfl rfl rfl (by decide +kernel) (gl_cons (sy_fn (a0.mono (by decide))) (gl_cons (sy_fn (a1.mono (by decide))) (gl_cons (sy_blt a2 rfl) (gl_cons (sy_fn (a3.mono (by decide))) (gl_cons (sy_fn (a4.mono (by decide))) (gl_cons (sy_fn (a5.mono (by decide))) gl_nil)))))) (ck_spoiled G_mentioned G_own_disks G_partners G_shown G_after)).imp fun ds hh K g => p_spoiled g
theorem fl_L_draw {f : Addr} {fd : FuncData} (F : FnD K "_law_draw" 25 f fd) (hm : mg "_law_draw" = some (.ref f)) (a0 : mg "len" = none) : FnL P w K mg base 1 "_law_draw" G_L_draw :=
  (fnL_of (k := 0) (c := ct_L_draw) F hm (by decide) (FunD.bindsN (ps := ["tape", "many"]) F fun _ _ _ _ _ _ us hl => match us, hl with | [_, _], _ => rfl) sc_L_draw rfl rfl rfl (by decide +kernel) (gl_cons (sy_blt a0 rfl) gl_nil) (ck_L_draw)).imp fun ds hh K g => p_draw g
theorem fr_L_like {f : Addr} {fd : FuncData} (F : FnD K "_law_like" 26 f fd) (hm : mg "_law_like" = some (.ref f)) (a0 : mg "isinstance" = none) (a1 : mg "bool" = none) (a2 : mg "list" = none) (a3 : mg "tuple" = none) (a4 : mg "range" = none) (a5 : mg "len" = none) : ∀ k : Nat, k < 50 → FnL P w K mg base (0 + (k + 2)) "_law_like" (likeG k)
  | 0, h => (fnL_of (k := 0 + 1) (c := ct_L_like noG) F hm (by decide) (FunD.bindsN (ps := ["one", "two"]) F fun _ _ _ _ _ _ us hl => match us, hl with | [_, _], _ => rfl) sc_L_like rfl rfl rfl (by decide +kernel) (gl_cons (sy_blt a0 rfl) (gl_cons (sy_blt a1 rfl) (gl_cons (sy_blt a2 rfl) (gl_cons (sy_blt a3 rfl) (gl_cons (sy_blt a4 rfl) (gl_cons (sy_blt a5 rfl) (gl_cons (sy_fn (fnL_no (k := 0) F hm (by decide) (FunD.bindsN (ps := ["one", "two"]) F fun _ _ _ _ _ _ us hl => match us, hl with | [_, _], _ => rfl) sc_L_like)) gl_nil))))))) (ck_L_like noG)).imp fun ds hh K g => p_like h (fun j e => by omega) g
  | k + 1, h => (fnL_of (k := 0 + (k + 2)) (c := ct_L_like (likeG k)) F hm (by decide) (FunD.bindsN (ps := ["one", "two"]) F fun _ _ _ _ _ _ us hl => match us, hl with | [_, _], _ => rfl) sc_L_like rfl rfl rfl (by decide +kernel) (gl_cons (sy_blt a0 rfl) (gl_cons (sy_blt a1 rfl) (gl_cons (sy_blt a2 rfl) (gl_cons (sy_blt a3 rfl) (gl_cons (sy_blt a4 rfl) (gl_cons (sy_blt a5 rfl) (gl_cons (sy_fn (fr_L_like F hm a0 a1 a2 a3 a4 a5 k (by omega))) gl_nil))))))) (ck_L_like (likeG k))).imp fun ds hh K g => p_like h (rec_dn likeG) g
theorem fl_L_like {f : Addr} {fd : FuncData} (F : FnD K "_law_like" 26 f fd) (hm : mg "_law_like" = some (.ref f)) (a0 : mg "isinstance" = none) (a1 : mg "bool" = none) (a2 : mg "list" = none) (a3 : mg "tuple" = none) (a4 : mg "range" = none) (a5 : mg "len" = none) : FnL P w K mg base 6 "_law_like" (likeG 4) := fr_L_like F hm a0 a1 a2 a3 a4 a5 4 (by decide)
theorem fl_L_content {f : Addr} {fd : FuncData} (F : FnD K "_law_content" 27 f fd) (hm : mg "_law_content" = some (.ref f)) (a0 : FnL P w K mg base 1 "_law_draw" G_L_draw) : FnL P w K mg base 2 "_law_content" G_L_content :=
  (fnL_of (k := 1) (c := ct_L_content G_L_draw) F hm (by decide) (FunD.bindsN (ps := ["tape"]) F fun _ _ _ _ _ _ us hl => match us, hl with | [_], _ => rfl) sc_L_content rfl rfl rfl (by decide +kernel) (gl_cons (sy_fn (a0.mono (by decide))) gl_nil) (ck_L_content G_L_draw)).imp fun ds hh K g => p_content g
theorem fl_L_deed {f : Addr} {fd : FuncData} (F : FnD K "_law_deed" 28 f fd) (hm : mg "_law_deed" = some (.ref f)) (a0 : FnL P w K mg base 2 "_law_content" G_L_content) (a1 : FnL P w K mg base 1 "_law_draw" G_L_draw) (a2 : mg "len" = none) : FnL P w K mg base 3 "_law_deed" G_L_deed :=
  (fnL_of (k := 2) (c := ct_L_deed G_L_content G_L_draw) F hm (by decide) (FunD.bindsN (ps := ["tape", "names"]) F fun _ _ _ _ _ _ us hl => match us, hl with | [_, _], _ => rfl) sc_L_deed rfl rfl rfl (by decide +kernel) (gl_cons (sy_fn (a0.mono (by decide))) (gl_cons (sy_fn (a1.mono (by decide))) (gl_cons (sy_blt a2 rfl) gl_nil))) (ck_L_deed G_L_content G_L_draw)).imp fun ds hh K g => p_deed g
theorem fl_L_program {f : Addr} {fd : FuncData} (F : FnD K "_law_program" 29 f fd) (hm : mg "_law_program" = some (.ref f)) (a0 : mg "range" = none) (a1 : FnL P w K mg base 1 "_law_draw" G_L_draw) (a2 : FnL P w K mg base 3 "_law_deed" G_L_deed) : FnL P w K mg base 4 "_law_program" G_L_program :=
  (fnL_of (k := 3) (c := ct_L_program G_L_draw G_L_deed) F hm (by decide) (FunD.bindsN (ps := ["tape", "names", "most"]) F fun _ _ _ _ _ _ us hl => match us, hl with | [_, _, _], _ => rfl) sc_L_program rfl rfl rfl (by decide +kernel) (gl_cons (sy_blt a0 rfl) (gl_cons (sy_fn (a1.mono (by decide))) (gl_cons (sy_fn (a2.mono (by decide))) gl_nil))) (ck_L_program G_L_draw G_L_deed)).imp fun ds hh K g => p_program g
theorem fl_L_names {f : Addr} {fd : FuncData} (F : FnD K "_law_names" 30 f fd) (hm : mg "_law_names" = some (.ref f)) (a0 : FnL P w K mg base 1 "_law_draw" G_L_draw) : FnL P w K mg base 2 "_law_names" G_L_names :=
  (fnL_of (k := 1) (c := ct_L_names G_L_draw) F hm (by decide) (FunD.bindsN (ps := ["tape", "most"]) F fun _ _ _ _ _ _ us hl => match us, hl with | [_, _], _ => rfl) sc_L_names rfl rfl rfl (by decide +kernel) (gl_cons (sy_fn (a0.mono (by decide))) gl_nil) (ck_L_names G_L_draw)).imp fun ds hh K g => p_names g
theorem fl_L_disk {f : Addr} {fd : FuncData} (F : FnD K "_law_disk" 31 f fd) (hm : mg "_law_disk" = some (.ref f)) (a0 : mg "tuple" = none) (a1 : mg "sorted" = none) (a2 : FnL P w K mg base 1 "_law_draw" G_L_draw) (a3 : mg "len" = none) (a4 : FnL P w K mg base 2 "_law_content" G_L_content) : FnL P w K mg base 3 "_law_disk" G_L_disk :=
  (fnL_of (k := 2) (c := ct_L_disk G_L_draw G_L_content) F hm (by decide) (FunD.bindsN (ps := ["tape", "names"]) F fun _ _ _ _ _ _ us hl => match us, hl with | [_, _], _ => rfl) sc_L_disk rfl rfl rfl (by decide +kernel) (gl_cons (sy_blt a0 rfl) (gl_cons (sy_blt a1 rfl) (gl_cons (sy_fn (a2.mono (by decide))) (gl_cons (sy_blt a3 rfl) (gl_cons (sy_fn (a4.mono (by decide))) gl_nil))))) (ck_L_disk G_L_draw G_L_content)).imp fun ds hh K g => p_disk g
theorem fl_L_mentioned {f : Addr} {fd : FuncData} (F : FnD K "_law_mentioned" 32 f fd) (hm : mg "_law_mentioned" = some (.ref f)) (a0 : mg "sorted" = none) : FnL P w K mg base 1 "_law_mentioned" G_L_mentioned :=
  (fnL_of (k := 0) (c := ct_L_mentioned) F hm (by decide) (FunD.bindsN (ps := ["program"]) F fun _ _ _ _ _ _ us hl => match us, hl with | [_], _ => rfl) sc_L_mentioned rfl rfl rfl (by decide +kernel) (gl_cons (sy_blt a0 rfl) gl_nil) (ck_L_mentioned)).imp fun ds hh K g => p_L_mentioned g
theorem fl_L_held {f : Addr} {fd : FuncData} (F : FnD K "_law_held" 33 f fd) (hm : mg "_law_held" = some (.ref f)) (a0 : mg "enumerate" = none) : FnL P w K mg base 1 "_law_held" G_L_held :=
  (fnL_of (k := 0) (c := ct_L_held) F hm (by decide) (FunD.bindsN (ps := ["disk"]) F fun _ _ _ _ _ _ us hl => match us, hl with | [_], _ => rfl) sc_L_held rfl rfl rfl (by decide +kernel) (gl_cons (sy_blt a0 rfl) gl_nil) (ck_L_held)).imp fun ds hh K g => p_held g
theorem fl_L_shown {f : Addr} {fd : FuncData} (F : FnD K "_law_shown" 34 f fd) (hm : mg "_law_shown" = some (.ref f)) (a0 : mg "tuple" = none) (a1 : mg "sorted" = none) : FnL P w K mg base 1 "_law_shown" G_L_shown :=
  (fnL_of (k := 0) (c := ct_L_shown) F hm (by decide) (FunD.bindsN (ps := ["held"]) F fun _ _ _ _ _ _ us hl => match us, hl with | [_], _ => rfl) sc_L_shown rfl rfl rfl (by decide +kernel) (gl_cons (sy_blt a0 rfl) (gl_cons (sy_blt a1 rfl) gl_nil)) (ck_L_shown)).imp fun ds hh K g => p_L_shown g
theorem fl_L_fresh {f : Addr} {fd : FuncData} (F : FnD K "_law_fresh" 35 f fd) (hm : mg "_law_fresh" = some (.ref f)) (a0 : mg "len" = none) : FnL P w K mg base 1 "_law_fresh" G_L_fresh :=
  (fnL_of (k := 0) (c := ct_L_fresh) F hm (by decide) (FunD.bindsN (ps := ["held", "name", "content"]) F fun _ _ _ _ _ _ us hl => match us, hl with | [_, _, _], _ => rfl) sc_L_fresh rfl rfl rfl (by decide +kernel) (gl_cons (sy_blt a0 rfl) gl_nil) (ck_L_fresh)).imp fun ds hh K g => p_fresh g
theorem fl_L_do {f : Addr} {fd : FuncData} (F : FnD K "_law_do" 36 f fd) (hm : mg "_law_do" = some (.ref f)) (a0 : FnL P w K mg base 1 "_law_fresh" G_L_fresh) : FnL P w K mg base 2 "_law_do" G_L_do :=
  (fnL_of (k := 1) (c := ct_L_do G_L_fresh) F hm (by decide) (FunD.bindsN (ps := ["held", "deed"]) F fun _ _ _ _ _ _ us hl => match us, hl with | [_, _], _ => rfl) sc_L_do rfl rfl rfl (by decide +kernel) (gl_cons (sy_fn (a0.mono (by decide))) gl_nil) (ck_L_do G_L_fresh)).imp fun ds hh K g => p_do g
theorem fl_L_after {f : Addr} {fd : FuncData} (F : FnD K "_law_after" 37 f fd) (hm : mg "_law_after" = some (.ref f)) (a0 : FnL P w K mg base 1 "_law_shown" G_L_shown) (a1 : FnL P w K mg base 2 "_law_do" G_L_do) (a2 : FnL P w K mg base 1 "_law_held" G_L_held) : FnL P w K mg base 3 "_law_after" G_L_after :=
  (fnL_of (k := 2) (c := ct_L_after G_L_shown G_L_do G_L_held) F hm (by decide) (FunD.bindsN (ps := ["disk", "program"]) F fun _ _ _ _ _ _ us hl => match us, hl with | [_, _], _ => rfl) sc_L_after rfl rfl rfl (by decide +kernel) (gl_cons (sy_fn (a0.mono (by decide))) (gl_cons (sy_fn (a1.mono (by decide))) (gl_cons (sy_fn (a2.mono (by decide))) gl_nil))) (ck_L_after G_L_shown G_L_do G_L_held)).imp fun ds hh K g => p_L_after g
theorem fl_L_groupings {f : Addr} {fd : FuncData} (F : FnD K "_law_groupings" 38 f fd) (hm : mg "_law_groupings" = some (.ref f)) (a0 : mg "range" = none) (a1 : mg "len" = none) (a2 : mg "list" = none) : FnL P w K mg base 1 "_law_groupings" G_L_groupings :=
  (fnL_of (k := 0) (c := ct_L_groupings) F hm (by decide) (FunD.bindsN (ps := ["names"]) F fun _ _ _ _ _ _ us hl => match us, hl with | [_], _ => rfl) sc_L_groupings rfl rfl rfl (by decide +kernel) (gl_cons (sy_blt a0 rfl) (gl_cons (sy_blt a1 rfl) (gl_cons (sy_blt a2 rfl) gl_nil))) (ck_L_groupings)).imp fun ds hh K g => p_L_groupings g
theorem fl_L_labelled {f : Addr} {fd : FuncData} (F : FnD K "_law_labelled" 39 f fd) (hm : mg "_law_labelled" = some (.ref f)) (a0 : mg "tuple" = none) (a1 : mg "sorted" = none) (a2 : mg "enumerate" = none) : FnL P w K mg base 1 "_law_labelled" G_L_labelled :=
  (fnL_of (k := 0) (c := ct_L_labelled) F hm (by decide) (FunD.bindsN (ps := ["row", "marked"]) F fun _ _ _ _ _ _ us hl => match us, hl with | [_, _], _ => rfl) sc_L_labelled rfl rfl rfl (by decide +kernel) (gl_cons (sy_blt a0 rfl) (gl_cons (sy_blt a1 rfl) (gl_cons (sy_blt a2 rfl) gl_nil))) (ck_L_labelled)).imp fun ds hh K g => p_L_labelled g
theorem fl_L_proving {f : Addr} {fd : FuncData} (F : FnD K "_law_proving" 40 f fd) (hm : mg "_law_proving" = some (.ref f)) (a0 : FnL P w K mg base 1 "_law_groupings" G_L_groupings) (a1 : FnL P w K mg base 1 "_law_labelled" G_L_labelled) (a2 : mg "list" = none) (a3 : mg "range" = none) (a4 : mg "len" = none) : FnL P w K mg base 2 "_law_proving" G_L_proving :=
  (fnL_of (k := 1) (c := ct_L_proving G_L_groupings G_L_labelled) F hm (by decide) (FunD.bindsN (ps := ["names"]) F fun _ _ _ _ _ _ us hl => match us, hl with | [_], _ => rfl) sc_L_proving rfl rfl rfl (by decide +kernel) (gl_cons (sy_fn (a0.mono (by decide))) (gl_cons (sy_fn (a1.mono (by decide))) (gl_cons (sy_blt a2 rfl) (gl_cons (sy_blt a3 rfl) (gl_cons (sy_blt a4 rfl) gl_nil))))) (ck_L_proving G_L_groupings G_L_labelled)).imp fun ds hh K g => p_L_proving g
theorem fl_L_content_of {f : Addr} {fd : FuncData} (F : FnD K "_law_content_of" 41 f fd) (hm : mg "_law_content_of" = some (.ref f))  : FnL P w K mg base 1 "_law_content_of" G_L_content_of :=
  (fnL_of (k := 0) (c := ct_L_content_of) F hm (by decide) (FunD.bindsN (ps := ["disk", "name"]) F fun _ _ _ _ _ _ us hl => match us, hl with | [_, _], _ => rfl) sc_L_content_of rfl rfl rfl (by decide +kernel) gl_nil (ck_L_content_of)).imp fun ds hh K g => p_content_of g
theorem fl_L_together {f : Addr} {fd : FuncData} (F : FnD K "_law_together" 42 f fd) (hm : mg "_law_together" = some (.ref f))  : FnL P w K mg base 1 "_law_together" G_L_together :=
  (fnL_of (k := 0) (c := ct_L_together) F hm (by decide) (FunD.bindsN (ps := ["disk", "name", "other"]) F fun _ _ _ _ _ _ us hl => match us, hl with | [_, _, _], _ => rfl) sc_L_together rfl rfl rfl (by decide +kernel) gl_nil (ck_L_together)).imp fun ds hh K g => p_L_together g
theorem fl_L_outside {f : Addr} {fd : FuncData} (F : FnD K "_law_outside" 43 f fd) (hm : mg "_law_outside" = some (.ref f))  : FnL P w K mg base 1 "_law_outside" G_L_outside :=
  (fnL_of (k := 0) (c := ct_L_outside) F hm (by decide) (FunD.bindsN (ps := ["disk", "name", "some"]) F fun _ _ _ _ _ _ us hl => match us, hl with | [_, _, _], _ => rfl) sc_L_outside rfl rfl rfl (by decide +kernel) gl_nil (ck_L_outside)).imp fun ds hh K g => p_L_outside g
theorem ok_main {f : Addr} {fd : FuncData} (F : FnD K "law" 44 f fd) (a0 : FnL P w K mg base 7 "spoiled" G_spoiled) (a1 : FnL P w K mg base 7 "kept_links" G_kept_links) (a2 : mg "range" = none) (a3 : FnL P w K mg base 1 "_law_outside" G_L_outside) (a4 : FnL P w K mg base 1 "shown" G_shown) (a5 : FnL P w K mg base 1 "_law_together" G_L_together) (a6 : FnL P w K mg base 6 "after" G_after) (a7 : FnL P w K mg base 3 "_law_disk" G_L_disk) (a8 : FnL P w K mg base 6 "_law_like" (likeG 4)) (a9 : mg "int" = none) (a10 : FnL P w K mg base 2 "_law_proving" G_L_proving) (a11 : FnL P w K mg base 1 "_law_content_of" G_L_content_of) (a12 : FnL P w K mg base 3 "_law_after" G_L_after) (a13 : FnL P w K mg base 1 "_law_mentioned" G_L_mentioned) (a14 : FnL P w K mg base 4 "_law_program" G_L_program) (a15 : FnL P w K mg base 2 "_law_names" G_L_names) (a16 : mg "list" = none) : FnOk P w K mg base CX0 8 f fd ["script"] (spG K G_law) :=
  (fnOk_of (k := 7) (c := ct_law G_spoiled G_kept_links G_L_outside G_shown G_L_together G_after G_L_disk (likeG 4) G_L_proving G_L_content_of G_L_after G_L_mentioned G_L_program G_L_names) F sc_law rfl rfl rfl (by decide +kernel) (gl_cons (sy_fn (a0.mono (by decide))) (gl_cons (sy_fn (a1.mono (by decide))) (gl_cons (sy_blt a2 rfl) (gl_cons (sy_fn (a3.mono (by decide))) (gl_cons (sy_fn (a4.mono (by decide))) (gl_cons (sy_fn (a5.mono (by decide))) (gl_cons (sy_fn (a6.mono (by decide))) (gl_cons (sy_fn (a7.mono (by decide))) (gl_cons (sy_fn (a8.mono (by decide))) (gl_cons (sy_blt a9 rfl) (gl_cons (sy_fn (a10.mono (by decide))) (gl_cons (sy_fn (a11.mono (by decide))) (gl_cons (sy_fn (a12.mono (by decide))) (gl_cons (sy_fn (a13.mono (by decide))) (gl_cons (sy_fn (a14.mono (by decide))) (gl_cons (sy_fn (a15.mono (by decide))) (gl_cons (sy_blt a16 rfl) gl_nil))))))))))))))))) (ck_law G_spoiled G_kept_links G_L_outside G_shown G_L_together G_after G_L_disk (likeG 4) G_L_proving G_L_content_of G_L_after G_L_mentioned G_L_program G_L_names)).imp fun vs H Q E q => spG_imp (fun ds hh K g => p_law g) q
end
def d_mentioned : He.DefD := ⟨("mentioned", none), "mentioned", "mentioned", defArgs (top 3), defBody (top 3), defScope (top 3), [], []⟩
def d_shown : He.DefD := ⟨("shown", none), "shown", "shown", defArgs (top 4), defBody (top 4), defScope (top 4), [], []⟩
def d_are_same : He.DefD := ⟨("are_same", none), "are_same", "are_same", defArgs (top 5), defBody (top 5), defScope (top 5), [], []⟩
def d_all_forms : He.DefD := ⟨("all_forms", none), "all_forms", "all_forms", defArgs (top 7), defBody (top 7), defScope (top 7), [], []⟩
def d_further_names : He.DefD := ⟨("further_names", none), "further_names", "further_names", defArgs (top 8), defBody (top 8), defScope (top 8), [], []⟩
def d_own_contents : He.DefD := ⟨("own_contents", none), "own_contents", "own_contents", defArgs (top 9), defBody (top 9), defScope (top 9), [], []⟩
def d_own_disk : He.DefD := ⟨("own_disk", none), "own_disk", "own_disk", defArgs (top 10), defBody (top 10), defScope (top 10), [], []⟩
def d_own_disks : He.DefD := ⟨("own_disks", none), "own_disks", "own_disks", defArgs (top 11), defBody (top 11), defScope (top 11), [], []⟩
def d_without : He.DefD := ⟨("without", none), "without", "without", defArgs (top 13), defBody (top 13), defScope (top 13), [], []⟩
def d_with_file : He.DefD := ⟨("with_file", none), "with_file", "with_file", defArgs (top 14), defBody (top 14), defScope (top 14), [], []⟩
def d_joined : He.DefD := ⟨("joined", none), "joined", "joined", defArgs (top 15), defBody (top 15), defScope (top 15), [], []⟩
def d_written : He.DefD := ⟨("written", none), "written", "written", defArgs (top 16), defBody (top 16), defScope (top 16), [], []⟩
def d_pair_done : He.DefD := ⟨("pair_done", none), "pair_done", "pair_done", defArgs (top 17), defBody (top 17), defScope (top 17), [], []⟩
def d_done : He.DefD := ⟨("done", none), "done", "done", defArgs (top 18), defBody (top 18), defScope (top 18), [], []⟩
def d_after : He.DefD := ⟨("after", none), "after", "after", defArgs (top 19), defBody (top 19), defScope (top 19), [], []⟩
def d_partners : He.DefD := ⟨("partners", none), "partners", "partners", defArgs (top 21), defBody (top 21), defScope (top 21), [], []⟩
def d_kept_links : He.DefD := ⟨("kept_links", none), "kept_links", "kept_links", defArgs (top 22), defBody (top 22), defScope (top 22), [], []⟩
def d_spoiled : He.DefD := ⟨("spoiled", none), "spoiled", "spoiled", defArgs (top 23), defBody (top 23), defScope (top 23), [], []⟩
def d_L_draw : He.DefD := ⟨("_law_draw", none), "_law_draw", "_law_draw", defArgs (top 25), defBody (top 25), defScope (top 25), [], []⟩
def d_L_like : He.DefD := ⟨("_law_like", none), "_law_like", "_law_like", defArgs (top 26), defBody (top 26), defScope (top 26), [], []⟩
def d_L_content : He.DefD := ⟨("_law_content", none), "_law_content", "_law_content", defArgs (top 27), defBody (top 27), defScope (top 27), [], []⟩
def d_L_deed : He.DefD := ⟨("_law_deed", none), "_law_deed", "_law_deed", defArgs (top 28), defBody (top 28), defScope (top 28), [], []⟩
def d_L_program : He.DefD := ⟨("_law_program", none), "_law_program", "_law_program", defArgs (top 29), defBody (top 29), defScope (top 29), [], []⟩
def d_L_names : He.DefD := ⟨("_law_names", none), "_law_names", "_law_names", defArgs (top 30), defBody (top 30), defScope (top 30), [], []⟩
def d_L_disk : He.DefD := ⟨("_law_disk", none), "_law_disk", "_law_disk", defArgs (top 31), defBody (top 31), defScope (top 31), [], []⟩
def d_L_mentioned : He.DefD := ⟨("_law_mentioned", none), "_law_mentioned", "_law_mentioned", defArgs (top 32), defBody (top 32), defScope (top 32), [], []⟩
def d_L_held : He.DefD := ⟨("_law_held", none), "_law_held", "_law_held", defArgs (top 33), defBody (top 33), defScope (top 33), [], []⟩
def d_L_shown : He.DefD := ⟨("_law_shown", none), "_law_shown", "_law_shown", defArgs (top 34), defBody (top 34), defScope (top 34), [], []⟩
def d_L_fresh : He.DefD := ⟨("_law_fresh", none), "_law_fresh", "_law_fresh", defArgs (top 35), defBody (top 35), defScope (top 35), [], []⟩
def d_L_do : He.DefD := ⟨("_law_do", none), "_law_do", "_law_do", defArgs (top 36), defBody (top 36), defScope (top 36), [], []⟩
def d_L_after : He.DefD := ⟨("_law_after", none), "_law_after", "_law_after", defArgs (top 37), defBody (top 37), defScope (top 37), [], []⟩
def d_L_groupings : He.DefD := ⟨("_law_groupings", none), "_law_groupings", "_law_groupings", defArgs (top 38), defBody (top 38), defScope (top 38), [], []⟩
def d_L_labelled : He.DefD := ⟨("_law_labelled", none), "_law_labelled", "_law_labelled", defArgs (top 39), defBody (top 39), defScope (top 39), [], []⟩
def d_L_proving : He.DefD := ⟨("_law_proving", none), "_law_proving", "_law_proving", defArgs (top 40), defBody (top 40), defScope (top 40), [], []⟩
def d_L_content_of : He.DefD := ⟨("_law_content_of", none), "_law_content_of", "_law_content_of", defArgs (top 41), defBody (top 41), defScope (top 41), [], []⟩
def d_L_together : He.DefD := ⟨("_law_together", none), "_law_together", "_law_together", defArgs (top 42), defBody (top 42), defScope (top 42), [], []⟩
def d_L_outside : He.DefD := ⟨("_law_outside", none), "_law_outside", "_law_outside", defArgs (top 43), defBody (top 43), defScope (top 43), [], []⟩
def d_law : He.DefD := ⟨("law", none), "law", "law", defArgs (top 44), defBody (top 44), defScope (top 44), [], []⟩
def fn : List He.DefD := [d_mentioned, d_shown, d_are_same, d_all_forms, d_further_names, d_own_contents, d_own_disk, d_own_disks, d_without, d_with_file, d_joined, d_written, d_pair_done, d_done, d_after, d_partners, d_kept_links, d_spoiled, d_L_draw, d_L_like, d_L_content, d_L_deed, d_L_program, d_L_names, d_L_disk, d_L_mentioned, d_L_held, d_L_shown, d_L_fresh, d_L_do, d_L_after, d_L_groupings, d_L_labelled, d_L_proving, d_L_content_of, d_L_together, d_L_outside, d_law]
def fa : List He.Fa := [.glo "mentioned", .glo "shown", .glo "are_same", .glo "all_forms", .glo "further_names", .glo "own_contents", .glo "own_disk", .glo "own_disks", .glo "without", .glo "with_file", .glo "joined", .glo "written", .glo "pair_done", .glo "done", .glo "after", .glo "partners", .glo "kept_links", .glo "spoiled", .glo "_law_draw", .glo "_law_like", .glo "_law_content", .glo "_law_deed", .glo "_law_program", .glo "_law_names", .glo "_law_disk", .glo "_law_mentioned", .glo "_law_held", .glo "_law_shown", .glo "_law_fresh", .glo "_law_do", .glo "_law_after", .glo "_law_groupings", .glo "_law_labelled", .glo "_law_proving", .glo "_law_content_of", .glo "_law_together", .glo "_law_outside", .glo "law", .free "tuple", .free "sorted", .free "set", .free "any", .free "range", .free "len", .free "enumerate", .free "list", .free "all", .free "isinstance", .free "bool", .free "int", .glo "WITH_TWO", .str "LETTERS" "abcdefghijklmnopqrstuvwxyz"]
abbrev R : PySem.W.OpenRow := PySem.W.OpenLaw.row PySem.Challenge.rw_samefiles_k13_whole_names_outside
def exl : List (PySem.W.Frag → Bool) := [fun K => He.tupB K "WITH_TWO" [.str "link", .str "move", .str "copy", .str "renew"]]
def ex (K : PySem.W.Frag) : Bool := exl.all fun f => f K
abbrev hk : PySem.W.Hook := hookE 4 fa fn ex
def ob (s : PySem.W.SharedT) : AlE := obsE 4 fa fn ex (HandSHeadRun.getT s)
theorem ob_eq (s : PySem.W.SharedT) : ob s = hk.obs s.abs := obsE_eq (HandSHeadRun.getT_eq s)
theorem run (w : World) : HandSHeadRun.RunEq R (PySem.W.view R.prog [44]) hk ob 12000 ("__name__" :: "LETTERS" :: "WITH_TWO" :: "mentioned" :: "shown" :: "are_same" :: "__name__" :: "all_forms" :: "further_names" :: "own_contents" :: "own_disk" :: "own_disks" :: "__name__" :: "without" :: "with_file" :: "joined" :: "written" :: "pair_done" :: "done" :: "after" :: "__name__" :: "partners" :: "kept_links" :: "spoiled" :: "__name__" :: "_law_draw" :: "_law_like" :: "_law_content" :: "_law_deed" :: "_law_program" :: "_law_names" :: "_law_disk" :: "_law_mentioned" :: "_law_held" :: "_law_shown" :: "_law_fresh" :: "_law_do" :: "_law_after" :: "_law_groupings" :: "_law_labelled" :: "_law_proving" :: "_law_content_of" :: "_law_together" :: "_law_outside" :: [] : List PySem.Str) w := by
  intro os
  kernel_rfl
theorem facts {P : Program} {w : World} {K : PySem.W.Frag} {h : Heap} {mg : Str → Option Value} {f : Addr} (X : K.In h) (G : h.Ns mainGlobals mg) (hfa : mg ("law" : Str) = some (.ref f)) (c : He.SaysD fa fn K) (cx : ex K = true) :
    ∃ fd : FuncData, (∀ (s : Shared) (v : Value), BindsTo s fd ⟨[v], []⟩ [("script", v)]) ∧ ∀ base : Heap, K.In base → base.Ns mainGlobals mg → FnOk P w K mg base CX0 8 f fd ["script"] (spG K G_law) := by
  obtain ⟨fd0, F0⟩ := c.def_ 0 (d := d_mentioned) rfl
  have g0 := He.glo_ok X G (c.fact 0 (f := .glo "mentioned") rfl)
  obtain ⟨fd1, F1⟩ := c.def_ 1 (d := d_shown) rfl
  have g1 := He.glo_ok X G (c.fact 1 (f := .glo "shown") rfl)
  obtain ⟨fd2, F2⟩ := c.def_ 2 (d := d_are_same) rfl
  have g2 := He.glo_ok X G (c.fact 2 (f := .glo "are_same") rfl)
  obtain ⟨fd3, F3⟩ := c.def_ 3 (d := d_all_forms) rfl
  have g3 := He.glo_ok X G (c.fact 3 (f := .glo "all_forms") rfl)
  obtain ⟨fd4, F4⟩ := c.def_ 4 (d := d_further_names) rfl
  have g4 := He.glo_ok X G (c.fact 4 (f := .glo "further_names") rfl)
  obtain ⟨fd5, F5⟩ := c.def_ 5 (d := d_own_contents) rfl
  have g5 := He.glo_ok X G (c.fact 5 (f := .glo "own_contents") rfl)
  obtain ⟨fd6, F6⟩ := c.def_ 6 (d := d_own_disk) rfl
  have g6 := He.glo_ok X G (c.fact 6 (f := .glo "own_disk") rfl)
  obtain ⟨fd7, F7⟩ := c.def_ 7 (d := d_own_disks) rfl
  have g7 := He.glo_ok X G (c.fact 7 (f := .glo "own_disks") rfl)
  obtain ⟨fd8, F8⟩ := c.def_ 8 (d := d_without) rfl
  have g8 := He.glo_ok X G (c.fact 8 (f := .glo "without") rfl)
  obtain ⟨fd9, F9⟩ := c.def_ 9 (d := d_with_file) rfl
  have g9 := He.glo_ok X G (c.fact 9 (f := .glo "with_file") rfl)
  obtain ⟨fd10, F10⟩ := c.def_ 10 (d := d_joined) rfl
  have g10 := He.glo_ok X G (c.fact 10 (f := .glo "joined") rfl)
  obtain ⟨fd11, F11⟩ := c.def_ 11 (d := d_written) rfl
  have g11 := He.glo_ok X G (c.fact 11 (f := .glo "written") rfl)
  obtain ⟨fd12, F12⟩ := c.def_ 12 (d := d_pair_done) rfl
  have g12 := He.glo_ok X G (c.fact 12 (f := .glo "pair_done") rfl)
  obtain ⟨fd13, F13⟩ := c.def_ 13 (d := d_done) rfl
  have g13 := He.glo_ok X G (c.fact 13 (f := .glo "done") rfl)
  obtain ⟨fd14, F14⟩ := c.def_ 14 (d := d_after) rfl
  have g14 := He.glo_ok X G (c.fact 14 (f := .glo "after") rfl)
  obtain ⟨fd15, F15⟩ := c.def_ 15 (d := d_partners) rfl
  have g15 := He.glo_ok X G (c.fact 15 (f := .glo "partners") rfl)
  obtain ⟨fd16, F16⟩ := c.def_ 16 (d := d_kept_links) rfl
  have g16 := He.glo_ok X G (c.fact 16 (f := .glo "kept_links") rfl)
  obtain ⟨fd17, F17⟩ := c.def_ 17 (d := d_spoiled) rfl
  have g17 := He.glo_ok X G (c.fact 17 (f := .glo "spoiled") rfl)
  obtain ⟨fd18, F18⟩ := c.def_ 18 (d := d_L_draw) rfl
  have g18 := He.glo_ok X G (c.fact 18 (f := .glo "_law_draw") rfl)
  obtain ⟨fd19, F19⟩ := c.def_ 19 (d := d_L_like) rfl
  have g19 := He.glo_ok X G (c.fact 19 (f := .glo "_law_like") rfl)
  obtain ⟨fd20, F20⟩ := c.def_ 20 (d := d_L_content) rfl
  have g20 := He.glo_ok X G (c.fact 20 (f := .glo "_law_content") rfl)
  obtain ⟨fd21, F21⟩ := c.def_ 21 (d := d_L_deed) rfl
  have g21 := He.glo_ok X G (c.fact 21 (f := .glo "_law_deed") rfl)
  obtain ⟨fd22, F22⟩ := c.def_ 22 (d := d_L_program) rfl
  have g22 := He.glo_ok X G (c.fact 22 (f := .glo "_law_program") rfl)
  obtain ⟨fd23, F23⟩ := c.def_ 23 (d := d_L_names) rfl
  have g23 := He.glo_ok X G (c.fact 23 (f := .glo "_law_names") rfl)
  obtain ⟨fd24, F24⟩ := c.def_ 24 (d := d_L_disk) rfl
  have g24 := He.glo_ok X G (c.fact 24 (f := .glo "_law_disk") rfl)
  obtain ⟨fd25, F25⟩ := c.def_ 25 (d := d_L_mentioned) rfl
  have g25 := He.glo_ok X G (c.fact 25 (f := .glo "_law_mentioned") rfl)
  obtain ⟨fd26, F26⟩ := c.def_ 26 (d := d_L_held) rfl
  have g26 := He.glo_ok X G (c.fact 26 (f := .glo "_law_held") rfl)
  obtain ⟨fd27, F27⟩ := c.def_ 27 (d := d_L_shown) rfl
  have g27 := He.glo_ok X G (c.fact 27 (f := .glo "_law_shown") rfl)
  obtain ⟨fd28, F28⟩ := c.def_ 28 (d := d_L_fresh) rfl
  have g28 := He.glo_ok X G (c.fact 28 (f := .glo "_law_fresh") rfl)
  obtain ⟨fd29, F29⟩ := c.def_ 29 (d := d_L_do) rfl
  have g29 := He.glo_ok X G (c.fact 29 (f := .glo "_law_do") rfl)
  obtain ⟨fd30, F30⟩ := c.def_ 30 (d := d_L_after) rfl
  have g30 := He.glo_ok X G (c.fact 30 (f := .glo "_law_after") rfl)
  obtain ⟨fd31, F31⟩ := c.def_ 31 (d := d_L_groupings) rfl
  have g31 := He.glo_ok X G (c.fact 31 (f := .glo "_law_groupings") rfl)
  obtain ⟨fd32, F32⟩ := c.def_ 32 (d := d_L_labelled) rfl
  have g32 := He.glo_ok X G (c.fact 32 (f := .glo "_law_labelled") rfl)
  obtain ⟨fd33, F33⟩ := c.def_ 33 (d := d_L_proving) rfl
  have g33 := He.glo_ok X G (c.fact 33 (f := .glo "_law_proving") rfl)
  obtain ⟨fd34, F34⟩ := c.def_ 34 (d := d_L_content_of) rfl
  have g34 := He.glo_ok X G (c.fact 34 (f := .glo "_law_content_of") rfl)
  obtain ⟨fd35, F35⟩ := c.def_ 35 (d := d_L_together) rfl
  have g35 := He.glo_ok X G (c.fact 35 (f := .glo "_law_together") rfl)
  obtain ⟨fd36, F36⟩ := c.def_ 36 (d := d_L_outside) rfl
  have g36 := He.glo_ok X G (c.fact 36 (f := .glo "_law_outside") rfl)
  obtain ⟨fd37, F37⟩ := c.def_ 37 (d := d_law) rfl
  have g37 := He.glo_ok X G (c.fact 37 (f := .glo "law") rfl)
  have k_WITH_TWO : SyL P w K mg h 0 "WITH_TWO" (.con c_WITH_TWO) := sy_conT (zs := ["link", "move", "copy", "renew"]) (by decide) (He.glo_ok X G (c.fact 50 (f := .glo "WITH_TWO") rfl)) (ex_at cx 0 rfl)
  have k_LETTERS : SyL P w K mg h 0 "LETTERS" (.con c_LETTERS) := sy_conS (by decide) (He.str_ok X G (c.fact 51 (f := .str "LETTERS" "abcdefghijklmnopqrstuvwxyz") rfl))
  have b_tuple : mg "tuple" = none := He.free_ok X G (c.fact 38 (f := .free "tuple") rfl)
  have b_sorted : mg "sorted" = none := He.free_ok X G (c.fact 39 (f := .free "sorted") rfl)
  have b_set : mg "set" = none := He.free_ok X G (c.fact 40 (f := .free "set") rfl)
  have b_any : mg "any" = none := He.free_ok X G (c.fact 41 (f := .free "any") rfl)
  have b_range : mg "range" = none := He.free_ok X G (c.fact 42 (f := .free "range") rfl)
  have b_len : mg "len" = none := He.free_ok X G (c.fact 43 (f := .free "len") rfl)
  have b_enumerate : mg "enumerate" = none := He.free_ok X G (c.fact 44 (f := .free "enumerate") rfl)
  have b_list : mg "list" = none := He.free_ok X G (c.fact 45 (f := .free "list") rfl)
  have b_all : mg "all" = none := He.free_ok X G (c.fact 46 (f := .free "all") rfl)
  have b_isinstance : mg "isinstance" = none := He.free_ok X G (c.fact 47 (f := .free "isinstance") rfl)
  have b_bool : mg "bool" = none := He.free_ok X G (c.fact 48 (f := .free "bool") rfl)
  have b_int : mg "int" = none := He.free_ok X G (c.fact 49 (f := .free "int") rfl)
  have e := hfa.symm.trans g37
  cases e
  have b := FunD.bindsA (ps := ["script"]) F37 fun _ _ _ _ _ _ us hl => match us, hl with | [_], _ => rfl
  refine ⟨fd37, fun s v => b s [v] rfl, fun base _ _ => ?_⟩
  have l_mentioned : FnL P w K mg base 1 "mentioned" G_mentioned := fl_mentioned F0 g0 b_tuple b_sorted b_set k_WITH_TWO
  have l_shown : FnL P w K mg base 1 "shown" G_shown := fl_shown F1 g1 
  have l_are_same : FnL P w K mg base 1 "are_same" G_are_same := fl_are_same F2 g2 b_any
  have l_all_forms : FnL P w K mg base 1 "all_forms" G_all_forms := fl_all_forms F3 g3 b_sorted b_tuple b_range b_len
  have l_further_names : FnL P w K mg base 1 "further_names" G_further_names := fl_further_names F4 g4 k_LETTERS
  have l_own_contents : FnL P w K mg base 1 "own_contents" G_own_contents := fl_own_contents F5 g5 b_range b_len
  have l_own_disk : FnL P w K mg base 2 "own_disk" G_own_disk := fl_own_disk F6 g6 b_tuple b_sorted b_enumerate l_own_contents b_len l_further_names l_mentioned
  have l_own_disks : FnL P w K mg base 3 "own_disks" G_own_disks := fl_own_disks F7 g7 l_all_forms l_mentioned l_own_disk b_list b_range b_len
  have l_without : FnL P w K mg base 1 "without" G_without := fl_without F8 g8 b_tuple
  have l_with_file : FnL P w K mg base 2 "with_file" G_with_file := fl_with_file F9 g9 b_tuple b_sorted l_without
  have l_joined : FnL P w K mg base 2 "joined" G_joined := fl_joined F10 g10 b_tuple b_sorted l_without
  have l_written : FnL P w K mg base 3 "written" G_written := fl_written F11 g11 b_tuple l_shown l_with_file
  have l_pair_done : FnL P w K mg base 4 "pair_done" G_pair_done := fl_pair_done F12 g12 l_without l_joined l_are_same l_with_file l_shown l_written
  have l_done : FnL P w K mg base 5 "done" G_done := fl_done F13 g13 b_tuple b_sorted l_pair_done l_without l_shown l_with_file l_written
  have l_after : FnL P w K mg base 6 "after" G_after := fl_after F14 g14 l_done
  have l_partners : FnL P w K mg base 2 "partners" G_partners := fl_partners F15 g15 l_mentioned
  have l_kept_links : FnL P w K mg base 7 "kept_links" G_kept_links := fl_kept_links F16 g16 l_mentioned l_own_disks b_all l_partners l_are_same l_after
  have l_spoiled : FnL P w K mg base 7 "spoiled" G_spoiled := fl_spoiled F17 g17 l_mentioned l_own_disks b_any l_partners l_shown l_after
  have l_law_draw : FnL P w K mg base 1 "_law_draw" G_L_draw := fl_L_draw F18 g18 b_len
  have l_law_like : FnL P w K mg base 6 "_law_like" (likeG 4) := fl_L_like F19 g19 b_isinstance b_bool b_list b_tuple b_range b_len
  have l_law_content : FnL P w K mg base 2 "_law_content" G_L_content := fl_L_content F20 g20 l_law_draw
  have l_law_deed : FnL P w K mg base 3 "_law_deed" G_L_deed := fl_L_deed F21 g21 l_law_content l_law_draw b_len
  have l_law_program : FnL P w K mg base 4 "_law_program" G_L_program := fl_L_program F22 g22 b_range l_law_draw l_law_deed
  have l_law_names : FnL P w K mg base 2 "_law_names" G_L_names := fl_L_names F23 g23 l_law_draw
  have l_law_disk : FnL P w K mg base 3 "_law_disk" G_L_disk := fl_L_disk F24 g24 b_tuple b_sorted l_law_draw b_len l_law_content
  have l_law_mentioned : FnL P w K mg base 1 "_law_mentioned" G_L_mentioned := fl_L_mentioned F25 g25 b_sorted
  have l_law_held : FnL P w K mg base 1 "_law_held" G_L_held := fl_L_held F26 g26 b_enumerate
  have l_law_shown : FnL P w K mg base 1 "_law_shown" G_L_shown := fl_L_shown F27 g27 b_tuple b_sorted
  have l_law_fresh : FnL P w K mg base 1 "_law_fresh" G_L_fresh := fl_L_fresh F28 g28 b_len
  have l_law_do : FnL P w K mg base 2 "_law_do" G_L_do := fl_L_do F29 g29 l_law_fresh
  have l_law_after : FnL P w K mg base 3 "_law_after" G_L_after := fl_L_after F30 g30 l_law_shown l_law_do l_law_held
  have l_law_groupings : FnL P w K mg base 1 "_law_groupings" G_L_groupings := fl_L_groupings F31 g31 b_range b_len b_list
  have l_law_labelled : FnL P w K mg base 1 "_law_labelled" G_L_labelled := fl_L_labelled F32 g32 b_tuple b_sorted b_enumerate
  have l_law_proving : FnL P w K mg base 2 "_law_proving" G_L_proving := fl_L_proving F33 g33 l_law_groupings l_law_labelled b_list b_range b_len
  have l_law_content_of : FnL P w K mg base 1 "_law_content_of" G_L_content_of := fl_L_content_of F34 g34 
  have l_law_together : FnL P w K mg base 1 "_law_together" G_L_together := fl_L_together F35 g35 
  have l_law_outside : FnL P w K mg base 1 "_law_outside" G_L_outside := fl_L_outside F36 g36 
  exact ok_main F37 l_spoiled l_kept_links b_range l_law_outside l_shown l_law_together l_after l_law_disk l_law_like b_int l_law_proving l_law_content_of l_law_after l_law_mentioned l_law_program l_law_names b_list
theorem sp_start {K : PySem.W.Frag} {H : Hp} {a : Addr} {ns : List Int} (hS : SqL K H a (ns.map V.int)) : spG K G_law [.ref a] H (fun v _ => v = .bl true) fun _ _ _ => False := by
  refine ⟨⟨[], fun _ => False⟩, [], [.scr ns], fun d _ => d = .bl true, ⟨rfl, List.nodup_nil, fun a z => (by cases z), fun a z => z.elim, fun n o a e => (by cases e)⟩, ?_, ⟨ns, rfl, rfl, fun _ => rfl⟩, fun d h' W' H' v e p R r => ?_⟩
  · simp only [Reps, Rep]
    exact ⟨_, _, rfl, ⟨a, rfl, hS.elim (fun z => .inl ⟨id, z⟩) .inr⟩, rfl⟩
  · subst e
    simpa [Rep] using r
end Z
open PySem PySem.W PySem.Calls PyProof.Rows
theorem PySem.Challenge.cw_samefiles_k13_whole_names_outside_holds : PySem.Challenge.rw_samefiles_k13_whole_names_outside.Holds := by
  w_on; o_law
  refine HandSHeadRun.head_any (r := OpenLaw.row PySem.Challenge.rw_samefiles_k13_whole_names_outside) (q := view (OpenLaw.row PySem.Challenge.rw_samefiles_k13_whole_names_outside).prog [44]) (H := Z.hk) (ob := Z.ob) (M := 12000) (loose := ("__name__" :: "LETTERS" :: "WITH_TWO" :: "mentioned" :: "shown" :: "are_same" :: "__name__" :: "all_forms" :: "further_names" :: "own_contents" :: "own_disk" :: "own_disks" :: "__name__" :: "without" :: "with_file" :: "joined" :: "written" :: "pair_done" :: "done" :: "after" :: "__name__" :: "partners" :: "kept_links" :: "spoiled" :: "__name__" :: "_law_draw" :: "_law_like" :: "_law_content" :: "_law_deed" :: "_law_program" :: "_law_names" :: "_law_disk" :: "_law_mentioned" :: "_law_held" :: "_law_shown" :: "_law_fresh" :: "_law_do" :: "_law_after" :: "_law_groupings" :: "_law_labelled" :: "_law_proving" :: "_law_content_of" :: "_law_together" :: "_law_outside" :: [] : List PySem.Str)) (d := HandSHeadRun.topDef (OpenLaw.row PySem.Challenge.rw_samefiles_k13_whole_names_outside).prog 44) (kwd := []) Z.ob_eq
    (by kernel_rfl) (fun s => by kernel_rfl) Z.run (by kernel_rfl) (by kernel_rfl) (by kernel_rfl) (by rfl) (by first | assumption | decide +kernel) (by decide +kernel) ⟨rfl, rfl, rfl, rfl, rfl, by decide +kernel⟩ ?hw ?hc
  case hw => w_witness2
  case hc =>
    refine L2.walk_ofE (l := PySem.Challenge.rw_samefiles_k13_whole_names_outside) (n := 63) (k := 8) (x := "script") (CX := L2.CX0) rfl (by decide) (by kernel_rfl) ⟨rfl, by decide, by decide⟩ ?F (fun _ _ _ _ z => z)
    intro w mg fa h Y G hmg0
    obtain ⟨K, KX, c, cx⟩ := Y
    have hmg : mg ("law" : PySem.Str) = some (.ref fa) := by
      have e : (HandSHeadRun.topDef (OpenLaw.row PySem.Challenge.rw_samefiles_k13_whole_names_outside).prog 44).name = ("law" : PySem.Str) := by kernel_rfl
      rw [← e]
      exact hmg0
    obtain ⟨fd, hb, hF⟩ := Z.facts (P := (PySem.Challenge.rw_samefiles_k13_whole_names_outside).prog) (w := w) KX G hmg c cx
    exact ⟨K, fd, Z.spG K Z.G_law, KX, hb, fun H a ns hl _ hS => Z.sp_start hS, hF⟩

