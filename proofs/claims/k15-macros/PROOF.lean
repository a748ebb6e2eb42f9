import PyProof.Rows.All
import Wide.All
import OpenK.AllK
import Wide.FinOn
import HandS.ForMost
import HandS.ForExc
import HandS.Defaults
import HandS.IsInst
import HandS.ExcIs
import HandS.ExcInit
import HandS.ExcField
import HandS.Wide
import HandS.Conv
import HandS.Deep
import HandS.Codes
import HandS.CallSlots
import HandS.More
import HandS.SetFor
import HandS.TupAny
import HandS.Text
import HandS.TryOnly
import HandS.ExcOwn
import HandS.HeadHook4
import HandS.HeadEnd
import HandS.Small
import PySem.Challenge.RW_phasor_k15_macros
set_option Elab.async false
/-! ## DL1 -/
set_option linter.all false
set_option maxRecDepth 100000
set_option maxHeartbeats 4000000
/-! DL1: data, how data lie in the heap, the state relation. -/
namespace L2.DL
open PySem PySem.Spec PyProof.Rows L2

/-! ### data -/
inductive DKey where
  | i (n : Int) | s (cs : List Nat)
  deriving DecidableEq
inductive D where
  | non | bl (b : Bool) | int (i : Int) | str (cs : List Nat)
  | tup (xs : List D) | lst (xs : List D) | dic (es : List (DKey × D)) | ins (c : Nat) (fs : List D)
abbrev mkS (cs : List Nat) : Str := ⟨cs.toArray⟩
def DKey.k : DKey → Key
  | .i n => .inl n
  | .s cs => .inr (mkS cs)
theorem mkS_inj {a b : List Nat} (h : mkS a = mkS b) : a = b := by
  have := congrArg (fun s : Str => s.cps.toList) h
  simpa using this
theorem DKey.k_inj : ∀ {a b : DKey}, a.k = b.k → a = b
  | .i n, .i m, h => by cases h; rfl
  | .s a, .s b, h => by rw [mkS_inj (Sum.inr.inj h)]
  | .i _, .s _, h => by cases h
  | .s _, .i _, h => by cases h
/-- the classes of the program: where each stands, its attributes in their order -/
structure Tab where
  cl : Nat → Addr
  lay : Nat → List Str
  cur : Option Addr := none
mutual
/-- a value that stands for a datum, by the heap of data -/
inductive Im (K : PySem.W.Frag) (T : Tab) (H : Hp) : V → D → Prop
  | non : Im K T H .non .non
  | bl (b : Bool) : Im K T H (.bl b) (.bl b)
  | int (i : Int) : Im K T H (.int i) (.int i)
  | str (cs : List Nat) : Im K T H (.str (mkS cs)) (.str cs)
  | tup {a : Addr} {vs : List V} {xs : List D} : SqT K H a vs → ImL K T H vs xs → Im K T H (.ref a) (.tup xs)
  | lst {a : Addr} {vs : List V} {xs : List D} : Rd H a (.lst vs) → ImL K T H vs xs → Im K T H (.ref a) (.lst xs)
  | dic {a : Addr} {kvs : List (Key × V)} {es : List (DKey × D)} : Rd H a (.dK kvs) → kvs.map (·.1) = es.map (fun e => e.1.k) → ImL K T H (kvs.map (·.2)) (es.map (·.2)) → Im K T H (.ref a) (.dic es)
  | ins {a dx : Addr} {c : Nat} {fs : List (Str × V)} {xs : List D} : H a = some (.ins (T.cl c) dx fs) → fs.map (·.1) = (T.lay c).take fs.length → ImL K T H (fs.map (·.2)) xs → Im K T H (.ref a) (.ins c xs)
inductive ImL (K : PySem.W.Frag) (T : Tab) (H : Hp) : List V → List D → Prop
  | nil : ImL K T H [] []
  | cons {v : V} {vs : List V} {x : D} {xs : List D} : Im K T H v x → ImL K T H vs xs → ImL K T H (v :: vs) (x :: xs)
end
section
variable {K : PySem.W.Frag} {T : Tab} {H H' : Hp}
def isFrz : HO → Bool
  | .frz _ _ => true
  | _ => false
/-- all that may be read stays -/
structure SameR (H H' : Hp) : Prop where
  rd : ∀ a u, isFrz u = false → Rd H a u → Rd H' a u
  ins : ∀ a c d fs, H a = some (.ins c d fs) → H' a = some (.ins c d fs)
theorem same_rd {a : Addr} {u : HO} (e : Same H H') (h : Rd H a u) : Rd H' a u := by
  rcases h with h | ⟨o, h⟩
  · exact .inl (e a _ h)
  · exact .inr ⟨o, e a _ h⟩
theorem same_t {a : Addr} {xs : List V} (e : Same H H') (h : SqT K H a xs) : SqT K H' a xs := by
  rcases h with h | h
  · exact .inl (same_rd e h)
  · exact .inr h
theorem same_R (e : Same H H') : SameR H H' := ⟨fun _ _ _ h => same_rd e h, fun _ _ _ _ h => e _ _ h⟩
theorem SameR.rt {a : Addr} {xs : List V} (e : SameR H H') (h : SqT K H a xs) : SqT K H' a xs := by
  rcases h with h | h
  · exact .inl (e.rd _ _ rfl h)
  · exact .inr h
mutual
theorem Im.mono (e : SameR H H') : ∀ (x : D) (v : V), Im K T H v x → Im K T H' v x
  | .non, _, h => by cases h; exact .non
  | .bl b, _, h => by cases h; exact .bl b
  | .int i, _, h => by cases h; exact .int i
  | .str cs, _, h => by cases h; exact .str cs
  | .tup xs, _, h => by
    cases h with
    | tup hs hl => exact .tup (e.rt hs) (ImL.mono e xs _ hl)
  | .lst xs, _, h => by
    cases h with
    | lst hs hl => exact .lst (e.rd _ _ rfl hs) (ImL.mono e xs _ hl)
  | .dic es, _, h => by
    cases h with
    | dic hs hk hl => exact .dic (e.rd _ _ rfl hs) hk (ImK.mono e es _ hl)
  | .ins c xs, _, h => by
    cases h with
    | ins hs hk hl => exact .ins (e.ins _ _ _ _ hs) hk (ImL.mono e xs _ hl)
theorem ImL.mono (e : SameR H H') : ∀ (xs : List D) (vs : List V), ImL K T H vs xs → ImL K T H' vs xs
  | [], _, h => by cases h; exact .nil
  | x :: xs, _, h => by
    cases h with
    | cons h1 h2 => exact .cons (Im.mono e x _ h1) (ImL.mono e xs _ h2)
theorem ImK.mono (e : SameR H H') : ∀ (es : List (DKey × D)) (vs : List V), ImL K T H vs (es.map (·.2)) → ImL K T H' vs (es.map (·.2))
  | [], _, h => by cases h; exact .nil
  | (k, x) :: es, _, h => by
    cases h with
    | cons h1 h2 => exact .cons (Im.mono e x _ h1) (ImK.mono e es _ h2)
end
theorem Im.to (e : Same H H') {x : D} {v : V} (h : Im K T H v x) : Im K T H' v x := Im.mono (same_R e) x v h
theorem ImL.to (e : Same H H') {x : List D} {v : List V} (h : ImL K T H v x) : ImL K T H' v x := ImL.mono (same_R e) x v h
theorem Im.toR (e : SameR H H') {x : D} {v : V} (h : Im K T H v x) : Im K T H' v x := Im.mono e x v h
theorem ImL.toR (e : SameR H H') {x : List D} {v : List V} (h : ImL K T H v x) : ImL K T H' v x := ImL.mono e x v h
theorem ImL.length : ∀ {vs : List V} {xs : List D}, ImL K T H vs xs → vs.length = xs.length
  | _, _, .nil => rfl
  | _, _, .cons _ h => by rw [List.length_cons, List.length_cons, ImL.length h]
theorem ImL.get : ∀ {vs : List V} {xs : List D} {i : Nat} {x : D}, ImL K T H vs xs → xs[i]? = some x → ∃ v, vs[i]? = some v ∧ Im K T H v x
  | _, _, _, _, .nil, e => by simp at e
  | _, _, 0, _, .cons r _, e => by simp at e; subst e; exact ⟨_, rfl, r⟩
  | _, _, i + 1, x, .cons _ t, e => by
    obtain ⟨u, h1, h2⟩ := ImL.get (i := i) (x := x) t (by simpa using e)
    exact ⟨u, by simpa using h1, h2⟩
theorem ImL.append : ∀ {xs ys : List V} {us ws : List D}, ImL K T H xs us → ImL K T H ys ws → ImL K T H (xs ++ ys) (us ++ ws)
  | _, _, _, _, .nil, s => s
  | _, _, _, _, .cons r t, s => .cons r (ImL.append t s)
theorem ImL.of_get : ∀ {vs : List V} {xs : List D}, vs.length = xs.length → (∀ (i : Nat) (v : V) (x : D), vs[i]? = some v → xs[i]? = some x → Im K T H v x) → ImL K T H vs xs
  | [], [], _, _ => .nil
  | v :: vs, x :: xs, hl, h => .cons (h 0 v x rfl rfl) (ImL.of_get (by simpa using hl) fun i w y e1 e2 => h (i + 1) w y (by simpa using e1) (by simpa using e2))
  | [], _ :: _, hl, _ => by simp at hl
  | _ :: _, [], hl, _ => by simp at hl
theorem ImL.set {x : D} {v : V} (r : Im K T H v x) : ∀ {vs : List V} {xs : List D} (i : Nat), ImL K T H vs xs → ImL K T H (vs.set i v) (xs.set i x)
  | _, _, _, .nil => .nil
  | _, _, 0, .cons _ t => .cons r t
  | _, _, i + 1, .cons q t => .cons q (ImL.set r i t)
theorem ImL.take : ∀ {xs : List V} {us : List D} (n : Nat), ImL K T H xs us → ImL K T H (xs.take n) (us.take n)
  | _, _, 0, _ => .nil
  | _, _, _ + 1, .nil => .nil
  | _, _, n + 1, .cons r t => .cons r (ImL.take n t)
theorem ImL.drop : ∀ {xs : List V} {us : List D} (n : Nat), ImL K T H xs us → ImL K T H (xs.drop n) (us.drop n)
  | _, _, 0, r => r
  | _, _, _ + 1, .nil => .nil
  | _, _, n + 1, .cons _ t => ImL.drop n t
theorem ImL.rep {xs : List V} {us : List D} (h : ImL K T H xs us) : ∀ k : Nat, ImL K T H (List.replicate k xs).flatten (List.replicate k us).flatten
  | 0 => .nil
  | k + 1 => by
    rw [List.replicate_succ, List.replicate_succ, List.flatten_cons, List.flatten_cons]
    exact h.append (ImL.rep h k)
theorem ImL.dropLast {xs : List V} {us : List D} (h : ImL K T H xs us) : ImL K T H xs.dropLast us.dropLast := by
  rw [List.dropLast_eq_take, List.dropLast_eq_take, h.length]
  exact h.take _
theorem ImL.eraseIdx : ∀ {xs : List V} {us : List D} (i : Nat), ImL K T H xs us → ImL K T H (xs.eraseIdx i) (us.eraseIdx i)
  | _, _, _, .nil => .nil
  | _, _, 0, .cons _ t => t
  | _, _, i + 1, .cons q t => .cons q (ImL.eraseIdx i t)
theorem ImL.reverse {xs : List V} {us : List D} (h : ImL K T H xs us) : ImL K T H xs.reverse us.reverse := by
  induction h using ImL.rec (motive_1 := fun _ _ _ => True) with
  | nil => exact .nil
  | cons r _ _ ih => rw [List.reverse_cons, List.reverse_cons]; exact ih.append (.cons r .nil)
  | _ => trivial
theorem ImL.ints : ∀ {vs : List V} {ns : List Int}, ImL K T H vs (ns.map D.int) → vs = ns.map V.int
  | _, [], .nil => rfl
  | _, n :: ns, .cons h t => by
    cases h
    rw [ImL.ints (ns := ns) t]
    rfl
theorem ImL.of_ints : ∀ ns : List Int, ImL K T H (ns.map V.int) (ns.map D.int)
  | [] => .nil
  | n :: ns => .cons (.int n) (ImL.of_ints ns)
theorem ImL.strs : ∀ {vs : List V} {ns : List (List Nat)}, ImL K T H vs (ns.map D.str) → vs = ns.map fun c => V.str (mkS c)
  | _, [], .nil => rfl
  | _, n :: ns, .cons h t => by
    cases h
    rw [ImL.strs (ns := ns) t]
    rfl
theorem ImL.of_strs : ∀ ns : List (List Nat), ImL K T H (ns.map fun c => V.str (mkS c)) (ns.map D.str)
  | [] => .nil
  | n :: ns => .cons (.str n) (ImL.of_strs ns)
end

/-! ### things that one name alone holds -/
inductive OT where
  | fz (d : D) | ld (ds : List D) | dd (es : List (DKey × D)) | lst (xs : List OT) | tup (xs : List OT) | ins (c : Nat) (fs : List OT)
mutual
inductive OAt (K : PySem.W.Frag) (T : Tab) (Hd H : Hp) : V → OT → List Addr → Prop
  | fz {v : V} {d : D} : Im K T Hd v d → OAt K T Hd H v (.fz d) []
  | ld {a : Addr} {vs : List V} {ds : List D} : H a = some (.lst vs) → ImL K T Hd vs ds → OAt K T Hd H (.ref a) (.ld ds) [a]
  | dd {a : Addr} {kvs : List (Key × V)} {es : List (DKey × D)} : H a = some (.dK kvs) → kvs.map (·.1) = es.map (fun e => e.1.k) → ImL K T Hd (kvs.map (·.2)) (es.map (·.2)) → OAt K T Hd H (.ref a) (.dd es) [a]
  | lst {a : Addr} {vs : List V} {xs : List OT} {f : List Addr} : H a = some (.lst vs) → OAtL K T Hd H vs xs f → OAt K T Hd H (.ref a) (.lst xs) (a :: f)
  | tup {a : Addr} {vs : List V} {xs : List OT} {f : List Addr} : SqT K Hd a vs → OAtL K T Hd H vs xs f → OAt K T Hd H (.ref a) (.tup xs) f
  | ins {a dx : Addr} {c : Nat} {fs : List (Str × V)} {xs : List OT} {f : List Addr} : H a = some (.ins (T.cl c) dx fs) → fs.map (·.1) = (T.lay c).take fs.length → OAtL K T Hd H (fs.map (·.2)) xs f → OAt K T Hd H (.ref a) (.ins c xs) (a :: f)
inductive OAtL (K : PySem.W.Frag) (T : Tab) (Hd H : Hp) : List V → List OT → List Addr → Prop
  | nil : OAtL K T Hd H [] [] []
  | cons {v : V} {vs : List V} {x : OT} {xs : List OT} {f g : List Addr} : OAt K T Hd H v x f → OAtL K T Hd H vs xs g → OAtL K T Hd H (v :: vs) (x :: xs) (f ++ g)
end
section
variable {K : PySem.W.Frag} {T : Tab} {Hd Hd' H H' : Hp}
mutual
theorem OAt.mono (e : SameR Hd Hd') : ∀ (x : OT) (v : V) (f : List Addr), (∀ a ∈ f, H' a = H a) → OAt K T Hd H v x f → OAt K T Hd' H' v x f
  | .fz d, _, _, _, h => by
    cases h with
    | fz h => exact .fz (h.toR e)
  | .ld ds, _, _, k, h => by
    cases h with
    | ld h1 h2 => exact .ld (by rw [k _ (by simp)]; exact h1) (h2.toR e)
  | .dd es, _, _, k, h => by
    cases h with
    | dd h1 h2 h3 => exact .dd (by rw [k _ (by simp)]; exact h1) h2 (h3.toR e)
  | .lst xs, _, _, k, h => by
    cases h with
    | lst h1 h2 => exact .lst (by rw [k _ (by simp)]; exact h1) (OAtL.mono e xs _ _ (fun a ha => k a (List.mem_cons_of_mem _ ha)) h2)
  | .tup xs, _, _, k, h => by
    cases h with
    | tup h1 h2 => exact .tup (e.rt h1) (OAtL.mono e xs _ _ k h2)
  | .ins c xs, _, _, k, h => by
    cases h with
    | ins h1 hk h2 => exact .ins (by rw [k _ (by simp)]; exact h1) hk (OAtL.mono e xs _ _ (fun a ha => k a (List.mem_cons_of_mem _ ha)) h2)
theorem OAtL.mono (e : SameR Hd Hd') : ∀ (xs : List OT) (vs : List V) (f : List Addr), (∀ a ∈ f, H' a = H a) → OAtL K T Hd H vs xs f → OAtL K T Hd' H' vs xs f
  | [], _, _, _, h => by cases h; exact .nil
  | x :: xs, _, _, k, h => by
    cases h with
    | cons h1 h2 => exact .cons (OAt.mono e x _ _ (fun a ha => k a (List.mem_append_left _ ha)) h1) (OAtL.mono e xs _ _ (fun a ha => k a (List.mem_append_right _ ha)) h2)
end
theorem OAt.to {x : OT} {v : V} {f : List Addr} (h : OAt K T Hd H v x f) (e : Same Hd Hd') (k : ∀ a ∈ f, H' a = H a) : OAt K T Hd' H' v x f := OAt.mono (same_R e) x v f k h
theorem OAtL.to {x : List OT} {v : List V} {f : List Addr} (h : OAtL K T Hd H v x f) (e : Same Hd Hd') (k : ∀ a ∈ f, H' a = H a) : OAtL K T Hd' H' v x f := OAtL.mono (same_R e) x v f k h
theorem OAtL.append : ∀ {xs ys : List OT} {vs ws : List V} {f g : List Addr}, OAtL K T Hd H vs xs f → OAtL K T Hd H ws ys g → OAtL K T Hd H (vs ++ ws) (xs ++ ys) (f ++ g)
  | _, _, _, _, _, _, .nil, h => h
  | _, _, _, _, _, _, .cons h1 h2, h => by rw [List.append_assoc]; exact .cons h1 (OAtL.append h2 h)
theorem OAtL.length : ∀ {xs : List OT} {vs : List V} {f : List Addr}, OAtL K T Hd H vs xs f → vs.length = xs.length
  | _, _, _, .nil => rfl
  | _, _, _, .cons _ h => by rw [List.length_cons, List.length_cons, OAtL.length h]
theorem OAtL.of_im : ∀ {xs : List D} {vs : List V}, ImL K T Hd vs xs → OAtL K T Hd H vs (xs.map OT.fz) []
  | _, _, .nil => .nil
  | _, _, .cons h t => .cons (.fz h) (OAtL.of_im t)
/-! the addresses held alone stand in the heap -/
mutual
theorem OAt.there : ∀ (x : OT) (v : V) (f : List Addr), OAt K T Hd H v x f → ∀ a ∈ f, H a ≠ none
  | .fz d, _, _, h, a, ha => by cases h; simp at ha
  | .ld ds, _, _, h, a, ha => by
    cases h with
    | ld h1 _ => rw [List.mem_singleton] at ha; rw [ha, h1]; simp
  | .dd es, _, _, h, a, ha => by
    cases h with
    | dd h1 _ _ => rw [List.mem_singleton] at ha; rw [ha, h1]; simp
  | .lst xs, _, _, h, a, ha => by
    cases h with
    | lst h1 h2 =>
      rcases List.mem_cons.mp ha with e | ha
      · rw [e, h1]; simp
      · exact OAtL.there xs _ _ h2 a ha
  | .tup xs, _, _, h, a, ha => by
    cases h with
    | tup h1 h2 => exact OAtL.there xs _ _ h2 a ha
  | .ins c xs, _, _, h, a, ha => by
    cases h with
    | ins h1 hk h2 =>
      rcases List.mem_cons.mp ha with e | ha
      · rw [e, h1]; simp
      · exact OAtL.there xs _ _ h2 a ha
theorem OAtL.there : ∀ (xs : List OT) (vs : List V) (f : List Addr), OAtL K T Hd H vs xs f → ∀ a ∈ f, H a ≠ none
  | [], _, _, h, a, ha => by cases h; simp at ha
  | x :: xs, _, _, h, a, ha => by
    cases h with
    | cons h1 h2 =>
      rcases List.mem_append.mp ha with ha | ha
      · exact OAt.there x _ _ h1 a ha
      · exact OAtL.there xs _ _ h2 a ha
end
end

/-! ### own things become data -/
mutual
def OT.toD : OT → D
  | .fz d => d
  | .ld ds => .lst ds
  | .dd es => .dic es
  | .lst xs => .lst (OT.toDL xs)
  | .tup xs => .tup (OT.toDL xs)
  | .ins c fs => .ins c (OT.toDL fs)
def OT.toDL : List OT → List D
  | [] => []
  | x :: xs => x.toD :: OT.toDL xs
end
section
variable {K : PySem.W.Frag} {T : Tab} {Hd Hd' H : Hp}
mutual
theorem OAt.frz (e : Same Hd Hd') : ∀ (x : OT) (v : V) (f : List Addr), (∀ a ∈ f, Hd' a = H a) → OAt K T Hd H v x f → Im K T Hd' v x.toD
  | .fz d, _, _, _, h => by
    cases h with
    | fz h => exact h.to e
  | .ld ds, _, _, k, h => by
    cases h with
    | ld h1 h2 => exact .lst (.inl (by rw [k _ (by simp)]; exact h1)) (h2.to e)
  | .dd es, _, _, k, h => by
    cases h with
    | dd h1 h2 h3 => exact .dic (.inl (by rw [k _ (by simp)]; exact h1)) h2 (h3.to e)
  | .lst xs, _, _, k, h => by
    cases h with
    | lst h1 h2 => exact .lst (.inl (by rw [k _ (by simp)]; exact h1)) (OAtL.frz e xs _ _ (fun a ha => k a (List.mem_cons_of_mem _ ha)) h2)
  | .tup xs, _, _, k, h => by
    cases h with
    | tup h1 h2 => exact .tup (same_t e h1) (OAtL.frz e xs _ _ k h2)
  | .ins c xs, _, _, k, h => by
    cases h with
    | ins h1 hk h2 => exact .ins (by rw [k _ (by simp)]; exact h1) hk (OAtL.frz e xs _ _ (fun a ha => k a (List.mem_cons_of_mem _ ha)) h2)
theorem OAtL.frz (e : Same Hd Hd') : ∀ (xs : List OT) (vs : List V) (f : List Addr), (∀ a ∈ f, Hd' a = H a) → OAtL K T Hd H vs xs f → ImL K T Hd' vs (OT.toDL xs)
  | [], _, _, _, h => by cases h; exact .nil
  | x :: xs, _, _, k, h => by
    cases h with
    | cons h1 h2 => exact .cons (OAt.frz e x _ _ (fun a ha => k a (List.mem_append_left _ ha)) h1) (OAtL.frz e xs _ _ (fun a ha => k a (List.mem_append_right _ ha)) h2)
end
end

theorem set_self' {α : Type} : ∀ {l : List α} {i : Nat} {x : α}, l[i]? = some x → l.set i x = l
  | [], _, _, h => by simp at h
  | a :: l, 0, x, h => by simp at h; subst h; rfl
  | a :: l, i + 1, x, h => by rw [List.set_cons_succ, set_self' (l := l) (i := i) (x := x) (by simpa using h)]
/-! ### names -/
/-- an own thing may be known to be an argument of the def -/
inductive Sl where
  | un | exc | d (x : D) | own (o : Option Nat) (t : OT)
abbrev Env := List Sl
inductive SlA (K : PySem.W.Frag) (T : Tab) (pv : List V) (Hd H : Hp) : Option V → Sl → List Addr → Prop
  | un {w : Option V} : SlA K T pv Hd H w .un []
  | exc {a : Addr} : T.cur = some a → SlA K T pv Hd H (some (.ref a)) .exc []
  | d {v : V} {x : D} : Im K T Hd v x → SlA K T pv Hd H (some v) (.d x) []
  | own {v : V} {o : Option Nat} {t : OT} {g : List Addr} : OAt K T Hd H v t g → (∀ j, o = some j → pv[j]? = some v) → SlA K T pv Hd H (some v) (.own o t) g
/-- the values by slot, what they stand for, the addresses held alone -/
inductive EAt (K : PySem.W.Frag) (T : Tab) (pv : List V) (Hd H : Hp) : St → Env → List Addr → Prop
  | nil : EAt K T pv Hd H [] [] []
  | cons {w : Option V} {s : Sl} {ws : St} {ss : Env} {f g : List Addr} : SlA K T pv Hd H w s g → EAt K T pv Hd H ws ss f → EAt K T pv Hd H (w :: ws) (s :: ss) (g ++ f)
/-- where a def began: its data, its heap, what it may change, its arguments -/
structure Ctx where
  Hd0 : Hp
  H0 : Hp
  P : List Addr
  pv : List V := []
structure Keep (P : List Addr) (Hd H Hd' H' : Hp) : Prop where
  kd : Same Hd Hd'
  kh : ∀ a o, H a = some o → a ∉ P → H' a = some o
  kt : ∀ a, H a ≠ none → H' a ≠ none
  kn : ∀ a, H a ≠ none → a ∉ P → Hd' a = Hd a
/-- what is data as soon as it stands -/
def isDat : HO → Bool
  | .tup _ => true
  | .frz _ _ => true
  | _ => false
structure Bas (Hd H : Hp) : Prop where
  sub : Same Hd H
  tps : ∀ a u, H a = some u → isDat u = true → Hd a = some u
structure Rel (K : PySem.W.Frag) (T : Tab) (C : Ctx) (Hd H : Hp) (ws : St) (ss : Env) : Prop where
  bas : Bas Hd H
  keep : Keep C.P C.Hd0 C.H0 Hd H
  env : ∃ f, EAt K T C.pv Hd H ws ss f ∧ f.Nodup ∧ ∀ a ∈ f, Hd a = none ∧ (C.H0 a = none ∨ a ∈ C.P)
section
variable {K : PySem.W.Frag} {T : Tab} {C : Ctx} {pv : List V} {Hd Hd' H H' H1 Hd1 : Hp} {ws ws' : St} {ss ss' : Env} {P P' : List Addr} {f g : List Addr} {v : V} {w : Option V} {s : Sl} {x : D} {p : Addr} {o : HO}
theorem SlA.to (h : SlA K T pv Hd H w s f) (e : Same Hd Hd') (k : ∀ a ∈ f, H' a = H a) : SlA K T pv Hd' H' w s f := by
  cases h with
  | un => exact .un
  | exc h => exact .exc h
  | d h => exact .d (h.to e)
  | own h j => exact .own (h.to e k) j
theorem SlA.toR (h : SlA K T pv Hd H w s f) (e : SameR Hd Hd') (k : ∀ a ∈ f, H' a = H a) : SlA K T pv Hd' H' w s f := by
  cases h with
  | un => exact .un
  | exc h => exact .exc h
  | d h => exact .d (h.toR e)
  | own h j => exact .own (OAt.mono e _ _ _ k h) j
theorem SlA.there (h : SlA K T pv Hd H w s f) : ∀ a ∈ f, H a ≠ none := by
  cases h with
  | un => intro a ha; simp at ha
  | exc _ => intro a ha; simp at ha
  | d _ => intro a ha; simp at ha
  | own h _ => exact OAt.there _ _ _ h
theorem EAt.length (h : EAt K T pv Hd H ws ss f) : ws.length = ss.length := by
  induction h with
  | nil => rfl
  | cons _ _ ih => simp [ih]
theorem EAt.to (h : EAt K T pv Hd H ws ss f) (e : Same Hd Hd') (k : ∀ a ∈ f, H' a = H a) : EAt K T pv Hd' H' ws ss f := by
  induction h with
  | nil => exact .nil
  | cons h _ ih => exact .cons (h.to e fun a ha => k a (List.mem_append_left _ ha)) (ih fun a ha => k a (List.mem_append_right _ ha))
theorem EAt.toR (h : EAt K T pv Hd H ws ss f) (e : SameR Hd Hd') (k : ∀ a ∈ f, H' a = H a) : EAt K T pv Hd' H' ws ss f := by
  induction h with
  | nil => exact .nil
  | cons h _ ih => exact .cons (h.toR e fun a ha => k a (List.mem_append_left _ ha)) (ih fun a ha => k a (List.mem_append_right _ ha))
theorem EAt.there (h : EAt K T pv Hd H ws ss f) : ∀ a ∈ f, H a ≠ none := by
  induction h with
  | nil => intro a ha; simp at ha
  | cons h _ ih =>
    intro a ha
    rcases List.mem_append.mp ha with ha | ha
    · exact h.there a ha
    · exact ih a ha
theorem Keep.refl : Keep P Hd H Hd H := ⟨fun _ _ h => h, fun _ _ h _ => h, fun _ h => h, fun _ _ _ => rfl⟩
theorem Keep.trans (a : Keep P Hd H Hd1 H1) (b : Keep P' Hd1 H1 Hd' H') (hp : ∀ x ∈ P', H x = none ∨ x ∈ P) : Keep P Hd H Hd' H' where
  kd := a.kd.trans b.kd
  kh := fun x o h n => b.kh x o (a.kh x o h n) fun m => (hp x m).elim (fun z => by rw [z] at h; cases h) n
  kt := fun x h => b.kt x (a.kt x h)
  kn := fun x h n => (b.kn x (a.kt x h) fun m => (hp x m).elim h n).trans (a.kn x h n)
theorem Keep.same (k : Keep [] Hd H Hd' H') : Same H H' := fun a o h => k.kh a o h (by simp)
theorem Bas.new (b : Bas Hd H) (hp : H p = none) : Bas (upd Hd p o) (upd H p o) where
  sub := fun a u h => by
    by_cases e : a = p
    · subst e; rw [upd_same] at h ⊢; exact h
    · rw [upd_ne e] at h ⊢; exact b.sub a u h
  tps := fun a xs h i => by
    by_cases e : a = p
    · subst e; rw [upd_same] at h ⊢; exact h
    · rw [upd_ne e] at h ⊢; exact b.tps a xs h i
theorem Bas.free (b : Bas Hd H) (hp : H p = none) : Hd p = none := b.sub.free hp
theorem Keep.new (b : Bas Hd H) (hp : H p = none) : Keep [] Hd H (upd Hd p o) (upd H p o) where
  kd := fun a u h => by rw [upd_ne (ne_of_none h (b.free hp))]; exact h
  kh := fun a u h _ => by rw [upd_ne (ne_of_none h hp)]; exact h
  kt := fun a h => by
    by_cases e : a = p
    · exact absurd (e ▸ hp) h
    · rw [upd_ne e]; exact h
  kn := fun a h _ => by
    by_cases e : a = p
    · exact absurd (e ▸ hp) h
    · rw [upd_ne e]
theorem same_new (hp : H p = none) : Same H (upd H p o) := fun a u h => by rw [upd_ne (ne_of_none h hp)]; exact h
/-- the state goes on: nothing that stood is changed -/
theorem Rel.on (R : Rel K T C Hd H ws ss) (b : Bas Hd' H') (k : Keep [] Hd H Hd' H') : Rel K T C Hd' H' ws ss := by
  obtain ⟨f, h, nd, hf⟩ := R.env
  refine ⟨b, R.keep.trans k (fun _ z => by simp at z), f, ?_, nd, fun a ha => ⟨?_, (hf a ha).2⟩⟩
  · refine h.to k.kd fun a ha => ?_
    cases e : H a with
    | none => exact absurd e (h.there a ha)
    | some u => exact k.kh a u e (by simp)
  · exact (k.kn a (h.there a ha) (by simp)).trans (hf a ha).1
theorem Rel.push (R : Rel K T C Hd H ws ss) (h : Im K T Hd v x) : Rel K T C Hd H (some v :: ws) (.d x :: ss) :=
  ⟨R.bas, R.keep, let ⟨f, h1, h2⟩ := R.env; ⟨f, .cons (.d h) h1, h2⟩⟩
theorem EAt.drop (h : EAt K T pv Hd H (w :: ws) (s :: ss) f) : ∃ g k, f = g ++ k ∧ EAt K T pv Hd H ws ss k := by
  cases h with
  | cons _ h => exact ⟨_, _, rfl, h⟩
theorem Rel.drop (R : Rel K T C Hd H (w :: ws) (s :: ss)) : Rel K T C Hd H ws ss := by
  obtain ⟨f, h, nd, hf⟩ := R.env
  obtain ⟨g, k, rfl, h'⟩ := h.drop
  exact ⟨R.bas, R.keep, k, h', (List.nodup_append.mp nd).2.1, fun a ha => hf a (List.mem_append_right _ ha)⟩
theorem Rel.head (R : Rel K T C Hd H (w :: ws) (.d x :: ss)) : ∃ v, w = some v ∧ Im K T Hd v x := by
  obtain ⟨f, h, _⟩ := R.env
  cases h with
  | cons h _ =>
    cases h with
    | d h => exact ⟨_, rfl, h⟩
theorem Rel.headv (R : Rel K T C Hd H (some v :: ws) (.d x :: ss)) : Im K T Hd v x := by
  obtain ⟨w, e, h⟩ := R.head
  cases e
  exact h
theorem Rel.second (R : Rel K T C Hd H (w :: some v :: ws) (s :: .d x :: ss)) : Im K T Hd v x := R.drop.headv
theorem Rel.third {w' : Option V} {s' : Sl} (R : Rel K T C Hd H (w :: w' :: some v :: ws) (s :: s' :: .d x :: ss)) : Im K T Hd v x := R.drop.drop.headv
/-- a new frozen object -/
theorem Rel.new (R : Rel K T C Hd H ws ss) (hp : H p = none) : Rel K T C (upd Hd p o) (upd H p o) ws ss := R.on (R.bas.new hp) (.new R.bas hp)
theorem EAt.get : ∀ {ws : St} {ss : Env} {f : List Addr} {i : Nat} {x : D}, EAt K T pv Hd H ws ss f → ss[i]? = some (.d x) → ∃ v, ws[i]? = some (some v) ∧ Im K T Hd v x
  | _, _, _, _, _, .nil, e => by simp at e
  | _, _, _, 0, _, .cons h _, e => by
    simp at e
    subst e
    cases h with
    | d h => exact ⟨_, rfl, h⟩
  | _, _, _, i + 1, x, .cons _ h, e => by simpa using EAt.get (i := i) (x := x) h (by simpa using e)
theorem Rel.get {i : Nat} (R : Rel K T C Hd H ws ss) (h : ss[i]? = some (.d x)) : ∃ v, ws[i]? = some (some v) ∧ Im K T Hd v x := let ⟨_, e, _⟩ := R.env; e.get h
theorem Rel.len (R : Rel K T C Hd H ws ss) : ws.length = ss.length := let ⟨_, e, _⟩ := R.env; e.length
/-- a slot that is set to what holds nothing -/
theorem EAt.set0 (hx : SlA K T pv Hd H w s []) : ∀ {ws : St} {ss : Env} {f : List Addr} (i : Nat), EAt K T pv Hd H ws ss f → ∃ g, g.Sublist f ∧ EAt K T pv Hd H (ws.set i w) (ss.set i s) g
  | _, _, _, _, .nil => ⟨[], .slnil, .nil⟩
  | _, _, _, 0, .cons _ h => ⟨_, List.sublist_append_right _ _, .cons hx h⟩
  | _, _, _, i + 1, .cons z h => let ⟨g, s, q⟩ := EAt.set0 hx i h; ⟨_, (List.Sublist.refl _).append s, .cons z q⟩
theorem Rel.sub (R : Rel K T C Hd H ws ss) (h : ∀ f, EAt K T C.pv Hd H ws ss f → ∃ g, g.Sublist f ∧ EAt K T C.pv Hd H ws' ss' g) : Rel K T C Hd H ws' ss' := by
  obtain ⟨f, e, nd, hf⟩ := R.env
  obtain ⟨g, s, q⟩ := h f e
  exact ⟨R.bas, R.keep, g, q, nd.sublist s, fun a ha => hf a (s.subset ha)⟩
theorem Rel.forget (R : Rel K T C Hd H ws ss) (i : Nat) (w : Option V) : Rel K T C Hd H (ws.set i w) (ss.set i .un) := R.sub fun _ e => e.set0 .un i
theorem Rel.setd (R : Rel K T C Hd H ws ss) (i : Nat) (h : Im K T Hd v x) : Rel K T C Hd H (ws.set i (some v)) (ss.set i (.d x)) := R.sub fun _ e => e.set0 (.d h) i
theorem Rel.pushU (R : Rel K T C Hd H ws ss) : Rel K T C Hd H (w :: ws) (.un :: ss) := ⟨R.bas, R.keep, let ⟨f, h1, h2⟩ := R.env; ⟨f, .cons .un h1, h2⟩⟩
/-- the slot in the j-th place: what may stand there -/
theorem EAt.slot : ∀ {ws : St} {ss : Env} {f : List Addr} {j : Nat} {s : Sl}, EAt K T pv Hd H ws ss f → f.Nodup → ss[j]? = some s → ∃ w g, ws[j]? = some w ∧ SlA K T pv Hd H w s g ∧ g.Nodup ∧ (∀ a ∈ g, a ∈ f) ∧
    ∀ (Hd' H' : Hp) (w' : Option V) (s' : Sl) (g' : List Addr), Same Hd Hd' → (∀ a ∈ f, a ∉ g → H' a = H a) → SlA K T pv Hd' H' w' s' g' → g'.Nodup → (∀ a ∈ g', a ∈ g ∨ a ∉ f) →
      ∃ f', EAt K T pv Hd' H' (ws.set j w') (ss.set j s') f' ∧ f'.Nodup ∧ ∀ a ∈ f', (a ∈ f ∧ a ∉ g) ∨ a ∈ g'
  | _, _, _, _, _, .nil, _, e => by simp at e
  | _, _, _, 0, _, .cons (g := g) (f := f) h t, nd, e => by
    simp at e
    subst e
    obtain ⟨n1, n2, n3⟩ := List.nodup_append.mp nd
    refine ⟨_, g, rfl, h, n1, fun a ha => List.mem_append_left _ ha, fun Hd' H' w' s' g' sd k h' nd' hg => ?_⟩
    have hd : ∀ a ∈ f, a ∉ g := fun a ha hb => n3 a hb a ha rfl
    refine ⟨g' ++ f, .cons h' (t.to sd fun a ha => k a (List.mem_append_right _ ha) (hd a ha)), List.nodup_append.mpr ⟨nd', n2, fun a ha b hb e => ?_⟩, fun a ha => ?_⟩
    · subst e
      rcases hg a ha with z | z
      · exact hd a hb z
      · exact z (List.mem_append_right _ hb)
    · rcases List.mem_append.mp ha with z | z
      · exact .inr z
      · exact .inl ⟨List.mem_append_right _ z, hd a z⟩
  | _, _, _, j + 1, s, .cons (g := g0) (f := f) h t, nd, e => by
    obtain ⟨n1, n2, n3⟩ := List.nodup_append.mp nd
    obtain ⟨w, g, h1, h2, h3, h4, h5⟩ := EAt.slot (j := j) (s := s) t n2 (by simpa using e)
    refine ⟨w, g, by simpa using h1, h2, h3, fun a ha => List.mem_append_right _ (h4 a ha), fun Hd' H' w' s' g' sd k h' nd' hg => ?_⟩
    obtain ⟨f', q1, q2, q3⟩ := h5 Hd' H' w' s' g' sd (fun a ha hn => k a (List.mem_append_right _ ha) hn) h' nd' (fun a ha => (hg a ha).imp id fun z m => z (List.mem_append_right _ m))
    have hd : ∀ a ∈ g0, a ∉ g := fun a ha hb => n3 a ha a (h4 a hb) rfl
    refine ⟨g0 ++ f', .cons (h.to sd fun a ha => k a (List.mem_append_left _ ha) (hd a ha)) q1, List.nodup_append.mpr ⟨n1, q2, fun a ha b hb e => ?_⟩, fun a ha => ?_⟩
    · subst e
      rcases q3 a hb with z | z
      · exact n3 a ha a z.1 rfl
      · rcases hg a z with y | y
        · exact hd a ha y
        · exact y (List.mem_append_left _ ha)
    · rcases List.mem_append.mp ha with z | z
      · exact .inl ⟨List.mem_append_left _ z, hd a z⟩
      · exact (q3 a z).imp (fun ⟨y1, y2⟩ => ⟨List.mem_append_right _ y1, y2⟩) id
/-- a slot is made data, its things frozen -/
theorem Rel.frz {j : Nat} {oo : Option Nat} {t : OT} (R : Rel K T C Hd H ws ss) (e : ss[j]? = some (.own oo t)) : ∃ Hd', Rel K T C Hd' H ws (ss.set j (.d t.toD)) := by
  obtain ⟨f, h, nd, hf⟩ := R.env
  obtain ⟨w, g, h1, h2, h3, h4, h5⟩ := h.slot nd e
  cases h2 with
  | own hm _ =>
    rename_i v hj
    have sd : Same Hd (fun a => if a ∈ g then H a else Hd a) := fun a u q => by
      by_cases hg : a ∈ g
      · rw [(hf a (h4 a hg)).1] at q; cases q
      · simp only [if_neg hg]; exact q
    obtain ⟨f', q1, q2, q3⟩ := h5 (fun a => if a ∈ g then H a else Hd a) H (some v) (.d t.toD) [] sd (fun _ _ _ => rfl) (.d (OAt.frz sd t v g (fun a ha => by simp only [if_pos ha]) hm)) .nil (by simp)
    rw [set_self' h1] at q1
    refine ⟨_, ⟨fun a u q => ?_, fun a xs q q2 => ?_⟩, ⟨R.keep.kd.trans sd, R.keep.kh, R.keep.kt, fun a n n2 => ?_⟩, f', q1, q2, fun a ha => ?_⟩
    · by_cases hg : a ∈ g
      · simp only [if_pos hg] at q; exact q
      · simp only [if_neg hg] at q; exact R.bas.sub a u q
    · by_cases hg : a ∈ g
      · simp only [if_pos hg]; exact q
      · simp only [if_neg hg]; exact R.bas.tps a xs q q2
    · by_cases hg : a ∈ g
      · rcases (hf a (h4 a hg)).2 with z | z
        · exact absurd z n
        · exact absurd z n2
      · simp only [if_neg hg]; exact R.keep.kn a n n2
    · rcases q3 a ha with ⟨z1, z2⟩ | z
      · simp only [if_neg z2]; exact hf a z1
      · simp at z
/-- a data object is locked: the state begins anew -/
theorem Rel.lock {d : Addr} {od : Obj} {u : HO} (R : Rel K T C Hd H ws ss) (hd : Hd d = some u) (hu : isDat u = false) (hi : ∀ c x fs, u ≠ .ins c x fs) : ∃ f, (∀ a ∈ f, a ≠ d) ∧ Rel K T ⟨upd Hd d (.frz od u), upd H d (.frz od u), f, C.pv⟩ (upd Hd d (.frz od u)) (upd H d (.frz od u)) ws ss ∧
    ∀ {Hd3 H3 : Hp} {ws' : St} {ss' : Env}, Rel K T ⟨upd Hd d (.frz od u), upd H d (.frz od u), f, C.pv⟩ Hd3 H3 ws' ss' → H3 d = some (.frz od u) ∧ Rel K T C (upd Hd3 d u) (upd H3 d u) ws' ss' := by
  obtain ⟨f, h, nd, hf⟩ := R.env
  have hdH : H d = some u := R.bas.sub d u hd
  have nf : ∀ a ∈ f, a ≠ d := fun a ha e => by
    have := (hf a ha).1
    rw [e, hd] at this
    cases this
  have sr : SameR Hd (upd Hd d (.frz od u)) := ⟨fun a z _ q => by
    by_cases e : a = d
    · subst e
      rcases q with q | ⟨o, q⟩
      · rw [hd] at q; cases q; exact .inr ⟨od, upd_same⟩
      · rw [hd] at q; cases q; cases hu
    · rcases q with q | ⟨o, q⟩
      · exact .inl (by rw [upd_ne e]; exact q)
      · exact .inr ⟨o, by rw [upd_ne e]; exact q⟩, fun a c x fs q => by
    by_cases e : a = d
    · subst e; rw [hd] at q; cases q; exact absurd rfl (hi c x fs)
    · rw [upd_ne e]; exact q⟩
  refine ⟨f, nf, ⟨⟨fun a z q => ?_, fun a z q i => ?_⟩, .refl, f, h.toR sr fun a ha => upd_ne (nf a ha), nd, fun a ha => ⟨by rw [upd_ne (nf a ha)]; exact (hf a ha).1, .inr ha⟩⟩, fun {Hd3 H3 ws' ss'} R3 => ?_⟩
  · by_cases e : a = d
    · subst e; rw [upd_same] at q ⊢; exact q
    · rw [upd_ne e] at q ⊢; exact R.bas.sub a z q
  · by_cases e : a = d
    · subst e; rw [upd_same] at q ⊢; exact q
    · rw [upd_ne e] at q ⊢; exact R.bas.tps a z q i
  · have kd3 : H3 d = some (.frz od u) := R3.keep.kh d _ upd_same fun z => nf d z rfl
    have kdd : Hd3 d = some (.frz od u) := (R3.keep.kn d (by show upd H d (.frz od u) d ≠ none; rw [upd_same]; simp) fun z => nf d z rfl).trans upd_same
    obtain ⟨f', h', nd', hf'⟩ := R3.env
    have nf' : ∀ a ∈ f', a ≠ d := fun a ha e => by
      have := (hf' a ha).1
      rw [e, kdd] at this
      cases this
    have sr' : SameR Hd3 (upd Hd3 d u) := ⟨fun a z nz q => by
      by_cases e : a = d
      · subst e
        rcases q with q | ⟨o, q⟩
        · rw [kdd] at q
          cases q
          cases nz
        · rw [kdd] at q; cases q; exact .inl upd_same
      · rcases q with q | ⟨o, q⟩
        · exact .inl (by rw [upd_ne e]; exact q)
        · exact .inr ⟨o, by rw [upd_ne e]; exact q⟩, fun a c x fs q => by
      by_cases e : a = d
      · subst e; rw [kdd] at q; cases q
      · rw [upd_ne e]; exact q⟩
    have inP : ∀ a ∈ f, C.H0 a = none ∨ a ∈ C.P := fun a ha => (hf a ha).2
    refine ⟨kd3, ⟨fun a z q => ?_, fun a z q i => ?_⟩, ⟨fun a o q => ?_, fun a o q n => ?_, fun a n => ?_, fun a n n2 => ?_⟩, f', h'.toR sr' fun a ha => upd_ne (nf' a ha), nd', fun a ha => ⟨by rw [upd_ne (nf' a ha)]; exact (hf' a ha).1, ?_⟩⟩
    · by_cases e : a = d
      · subst e; rw [upd_same] at q ⊢; exact q
      · rw [upd_ne e] at q ⊢; exact R3.bas.sub a z q
    · by_cases e : a = d
      · subst e; rw [upd_same] at q ⊢; exact q
      · rw [upd_ne e] at q ⊢; exact R3.bas.tps a z q i
    · have q1 := R.keep.kd a o q
      by_cases e : a = d
      · subst e; rw [hd] at q1; rw [upd_same]; exact q1
      · rw [upd_ne e]; exact R3.keep.kd a o (by show upd Hd d (.frz od u) a = some o; rw [upd_ne e]; exact q1)
    · have q1 := R.keep.kh a o q n
      by_cases e : a = d
      · subst e; rw [hdH] at q1; rw [upd_same]; exact q1
      · rw [upd_ne e]
        exact R3.keep.kh a o (by show upd H d (.frz od u) a = some o; rw [upd_ne e]; exact q1) fun z => (inP a z).elim (fun y => by rw [y] at q; cases q) n
    · have q1 := R.keep.kt a n
      by_cases e : a = d
      · subst e; rw [upd_same]; simp
      · rw [upd_ne e]; exact R3.keep.kt a (by show upd H d (.frz od u) a ≠ none; rw [upd_ne e]; exact q1)
    · have q1 := R.keep.kn a n n2
      by_cases e : a = d
      · subst e; rw [upd_same, ← q1, hd]
      · rw [upd_ne e]
        have q2 := R3.keep.kn a (by show upd H d (.frz od u) a ≠ none; rw [upd_ne e]; exact R.keep.kt a n) fun z => (inP a z).elim n n2
        exact q2.trans ((upd_ne e).trans q1)
    · rcases (hf' a ha).2 with z | z
      · have z : upd H d (.frz od u) a = none := z
        rw [upd_ne (nf' a ha)] at z
        refine .inl ?_
        cases q : C.H0 a with
        | none => rfl
        | some o => exact absurd z (R.keep.kt a (by rw [q]; simp))
      · exact inP a z
end
/-! ### the same, an exception held -/
/-- the suite that holds the exception at a -/
def Tab.at (T : Tab) (a : Addr) : Tab := { T with cur := some a }
section
variable {K : PySem.W.Frag} {T T' : Tab} {Hd H : Hp}
mutual
theorem Im.tab (e1 : T'.cl = T.cl) (e2 : T'.lay = T.lay) : ∀ (x : D) (v : V), Im K T H v x → Im K T' H v x
  | .non, _, h => by cases h; exact .non
  | .bl b, _, h => by cases h; exact .bl b
  | .int i, _, h => by cases h; exact .int i
  | .str cs, _, h => by cases h; exact .str cs
  | .tup xs, _, h => by
    cases h with
    | tup hs hl => exact .tup hs (ImL.tab e1 e2 xs _ hl)
  | .lst xs, _, h => by
    cases h with
    | lst hs hl => exact .lst hs (ImL.tab e1 e2 xs _ hl)
  | .dic es, _, h => by
    cases h with
    | dic hs hk hl => exact .dic hs hk (ImK.tab e1 e2 es _ hl)
  | .ins c xs, _, h => by
    cases h with
    | ins hs hk hl => exact .ins (by rw [e1]; exact hs) (by rw [e2]; exact hk) (ImL.tab e1 e2 xs _ hl)
theorem ImL.tab (e1 : T'.cl = T.cl) (e2 : T'.lay = T.lay) : ∀ (xs : List D) (vs : List V), ImL K T H vs xs → ImL K T' H vs xs
  | [], _, h => by cases h; exact .nil
  | x :: xs, _, h => by
    cases h with
    | cons h1 h2 => exact .cons (Im.tab e1 e2 x _ h1) (ImL.tab e1 e2 xs _ h2)
theorem ImK.tab (e1 : T'.cl = T.cl) (e2 : T'.lay = T.lay) : ∀ (es : List (DKey × D)) (vs : List V), ImL K T H vs (es.map (·.2)) → ImL K T' H vs (es.map (·.2))
  | [], _, h => by cases h; exact .nil
  | (k, x) :: es, _, h => by
    cases h with
    | cons h1 h2 => exact .cons (Im.tab e1 e2 x _ h1) (ImK.tab e1 e2 es _ h2)
end
mutual
theorem OAt.tab (e1 : T'.cl = T.cl) (e2 : T'.lay = T.lay) : ∀ (x : OT) (v : V) (f : List Addr), OAt K T Hd H v x f → OAt K T' Hd H v x f
  | .fz d, _, _, h => by
    cases h with
    | fz h => exact .fz (Im.tab e1 e2 _ _ h)
  | .ld ds, _, _, h => by
    cases h with
    | ld h1 h2 => exact .ld h1 (ImL.tab e1 e2 _ _ h2)
  | .dd es, _, _, h => by
    cases h with
    | dd h1 h2 h3 => exact .dd h1 h2 (ImL.tab e1 e2 _ _ h3)
  | .lst xs, _, _, h => by
    cases h with
    | lst h1 h2 => exact .lst h1 (OAtL.tab e1 e2 xs _ _ h2)
  | .tup xs, _, _, h => by
    cases h with
    | tup h1 h2 => exact .tup h1 (OAtL.tab e1 e2 xs _ _ h2)
  | .ins c xs, _, _, h => by
    cases h with
    | ins h1 hk h2 => exact .ins (by rw [e1]; exact h1) (by rw [e2]; exact hk) (OAtL.tab e1 e2 xs _ _ h2)
theorem OAtL.tab (e1 : T'.cl = T.cl) (e2 : T'.lay = T.lay) : ∀ (xs : List OT) (vs : List V) (f : List Addr), OAtL K T Hd H vs xs f → OAtL K T' Hd H vs xs f
  | [], _, _, h => by cases h; exact .nil
  | x :: xs, _, _, h => by
    cases h with
    | cons h1 h2 => exact .cons (OAt.tab e1 e2 x _ _ h1) (OAtL.tab e1 e2 xs _ _ h2)
end
/-- no name for a caught error -/
def noX : Env → Env := List.map fun
  | .exc => .un
  | s => s
variable {pv : List V} {C : Ctx} {σ : St} {δ : Env}
theorem EAt.tabIn (e1 : T'.cl = T.cl) (e2 : T'.lay = T.lay) (hc : T.cur = none) : ∀ {ws : St} {ss : Env} {f : List Addr}, EAt K T pv Hd H ws ss f → EAt K T' pv Hd H ws ss f
  | _, _, _, .nil => .nil
  | _, _, _, .cons m h => by
    cases m with
    | un => exact .cons .un (EAt.tabIn e1 e2 hc h)
    | exc z => rw [hc] at z; cases z
    | d m => exact .cons (.d (Im.tab e1 e2 _ _ m)) (EAt.tabIn e1 e2 hc h)
    | own m j => exact .cons (.own (OAt.tab e1 e2 _ _ _ m) j) (EAt.tabIn e1 e2 hc h)
theorem Rel.tabIn {ws : St} {ss : Env} (R : Rel K T C Hd H ws ss) (hc : T.cur = none) (a : Addr) : Rel K (T.at a) C Hd H ws ss := ⟨R.bas, R.keep, let ⟨f, h1, h2⟩ := R.env; ⟨f, EAt.tabIn (T := T) (T' := T.at a) rfl rfl hc h1, h2⟩⟩
theorem EAt.noX (hc : T.cur = none) {a : Addr} : ∀ {ws : St} {ss : Env} {f : List Addr}, EAt K (T.at a) pv Hd H ws ss f → EAt K T pv Hd H ws (L2.DL.noX ss) f
  | _, _, _, .nil => .nil
  | _, _, _, .cons m h => by
    cases m with
    | un => exact .cons .un (EAt.noX hc h)
    | exc z => exact .cons .un (EAt.noX hc h)
    | d m => exact .cons (.d (Im.tab (T := T.at a) (T' := T) rfl rfl _ _ m)) (EAt.noX hc h)
    | own m j => exact .cons (.own (OAt.tab (T := T.at a) (T' := T) rfl rfl _ _ _ m) j) (EAt.noX hc h)
theorem Rel.noX {ws : St} {ss : Env} {a : Addr} (hc : T.cur = none) (R : Rel K (T.at a) C Hd H ws ss) : Rel K T C Hd H ws (L2.DL.noX ss) := ⟨R.bas, R.keep, let ⟨f, h1, h2⟩ := R.env; ⟨f, h1.noX hc, h2⟩⟩
theorem EAt.noX_id (hc : T.cur = none) : ∀ {ws : St} {ss : Env} {f : List Addr}, EAt K T pv Hd H ws ss f → L2.DL.noX ss = ss
  | _, _, _, .nil => rfl
  | _, _, _, .cons m h => by
    show _ :: L2.DL.noX _ = _
    rw [EAt.noX_id hc h]
    cases m with
    | exc z => rw [hc] at z; cases z
    | _ => rfl
end
end L2.DL

/-! ## DL2 -/
set_option linter.all false
set_option maxRecDepth 100000
set_option maxHeartbeats 4000000
/-! DL2: expressions over data. -/
namespace L2.DL
open PySem PySem.Spec PyProof.Rows L2

structure XD where
  c : Nat
  line : Option Int := none
inductive Out (α : Type) where
  | ok (a : α) | ex (x : XD) | stuck
def Out.bind {α β : Type} : Out α → (α → Out β) → Out β
  | .ok a, f => f a
  | .ex x, _ => .ex x
  | .stuck, _ => .stuck
def ofO {α : Type} : Option α → Out α
  | some a => .ok a
  | none => .stuck
abbrev DE := Env → Out D
/-- an exception as it lies behind a raise -/
def XAt (T : Tab) (H : Hp) (cls : Value) (dx : Option Addr) (x : XD) : Prop := cls = .ref (T.cl x.c) ∧ (match x.line with | none => dx = none | some n => ∃ d, dx = some d ∧ H d = some (.xd [("line", .int n)]))
def EPost (K : PySem.W.Frag) (T : Tab) (C : Ctx) (σ : L2.St) (W : WX) (ρw : L2.St) (ρs : Env) (H : Hp) (o : Out D) (Q : VK) : Prop := match o with
  | .ok d => ∀ v Hd' H', Rel K T C Hd' H' (some v :: ρw) (.d d :: ρs) → Same H H' → Q v H'
  | .ex x => ∀ cls dx Hd' H', Rel K T C Hd' H' ρw ρs → Same H H' → XAt T H' cls dx x → W cls dx σ H'
  | .stuck => False
theorem EPost.at {K : PySem.W.Frag} {T : Tab} {C : Ctx} {σ : L2.St} {W : WX} {ρw : L2.St} {ρs : Env} {H H1 : Hp} {o : Out D} {Q : VK} (h : EPost K T C σ W ρw ρs H o Q) (s : Same H H1) : EPost K T C σ W ρw ρs H1 o Q := by
  cases o with
  | ok d => exact fun v Hd' H' R s' => h v Hd' H' R (s.trans s')
  | ex x => exact fun c d Hd' H' R s' => h c d Hd' H' R (s.trans s')
  | stuck => exact h
/-- a reading of the layer, by data -/
def Snd (T : Tab) (X : Cx) (W : WX) (te : TE) (r : DE) : Prop := ∀ (C : Ctx) (Hd H : Hp) (ws : L2.St) (ss : Env) (σ : L2.St) (δ : Env) (Q : VK), ws.length = ss.length → Rel X.K T C Hd H (ws ++ σ) (ss ++ δ) →
  EPost X.K T C σ W (ws ++ σ) (ss ++ δ) H (r δ) Q → te σ H Q
structure PDE (T : Tab) (X : Cx) (W : WX) (e : Expr) (r : DE) : Prop where
  ex : ∃ te, PE X e te ∧ Snd T X W te r
/-- an argument list -/
abbrev DA := Env → Out (List D)
def pushes (vs : List V) (ρ : L2.St) : L2.St := vs.foldl (fun r v => some v :: r) ρ
def pushs (xs : List D) (ρ : Env) : Env := xs.foldl (fun r x => .d x :: r) ρ
def APost (K : PySem.W.Frag) (T : Tab) (C : Ctx) (σ : L2.St) (W : WX) (ρw : L2.St) (ρs : Env) (H : Hp) (o : Out (List D)) (Q : List V → Hp → Prop) : Prop := match o with
  | .ok ds => ∀ vs Hd' H', Rel K T C Hd' H' ρw ρs → ImL K T Hd' vs ds → Same H H' → Q vs H'
  | .ex x => ∀ cls dx Hd' H', Rel K T C Hd' H' ρw ρs → Same H H' → XAt T H' cls dx x → W cls dx σ H'
  | .stuck => False
structure PDA (T : Tab) (X : Cx) (W : WX) (es : List Expr) (r : DA) : Prop where
  ex : ∃ ta, PA X es ta ∧ ∀ (C : Ctx) (Hd H : Hp) (ws : L2.St) (ss : Env) (σ : L2.St) (δ : Env) (Q : List V → Hp → Prop), ws.length = ss.length → Rel X.K T C Hd H (ws ++ σ) (ss ++ δ) →
    APost X.K T C σ W (ws ++ σ) (ss ++ δ) H (r δ) Q → ta σ H Q
section
variable {T : Tab} {X : Cx} {W : WX} {a b c e : Expr} {ra rb rc re : DE} {ta tb tc te : TE} {pos : Pos}
theorem snd_two {g : D → D → Out D} {R : V → V → Hp → VK → Prop} (ha : Snd T X W ta ra) (hb : Snd T X W tb rb)
    (h : ∀ (C : Ctx) (Hd H : Hp) (ρw : L2.St) (ρs : Env) (σ : L2.St) (vx vy : V) (x y : D) (Q : VK), Rel X.K T C Hd H (some vy :: some vx :: ρw) (.d y :: .d x :: ρs) → EPost X.K T C σ W ρw ρs H (g x y) Q → R vx vy H Q) :
    Snd T X W (fun σ H Q => ta σ H fun x H1 => tb σ H1 fun y H2 => R x y H2 Q) (fun δ => (ra δ).bind fun x => (rb δ).bind fun y => g x y) := by
  intro C Hd H ws ss σ δ Q hl hR hP
  refine ha C Hd H ws ss σ δ _ hl hR ?_
  cases e1 : ra δ with
  | stuck => simp only [e1, Out.bind] at hP; exact hP
  | ex x => simp only [e1, Out.bind] at hP; exact hP
  | ok x =>
    simp only [e1, Out.bind] at hP
    intro vx Hd1 H1 R1 s1
    refine hb C Hd1 H1 (some vx :: ws) (.d x :: ss) σ δ _ (by simp [hl]) R1 ?_
    cases e2 : rb δ with
    | stuck => simp only [e2] at hP; exact hP
    | ex y =>
      simp only [e2] at hP
      exact fun c d Hd' H' R' s' xa => hP c d Hd' H' R'.drop (s1.trans s') xa
    | ok y =>
      simp only [e2] at hP
      intro vy Hd2 H2 R2 s2
      exact h C Hd2 H2 _ _ σ vx vy x y Q R2 (hP.at (s1.trans s2))
theorem snd_one {g : D → Out D} {R : V → Hp → VK → Prop} (ha : Snd T X W ta ra)
    (h : ∀ (C : Ctx) (Hd H : Hp) (ρw : L2.St) (ρs : Env) (σ : L2.St) (vx : V) (x : D) (Q : VK), Rel X.K T C Hd H (some vx :: ρw) (.d x :: ρs) → EPost X.K T C σ W ρw ρs H (g x) Q → R vx H Q) :
    Snd T X W (fun σ H Q => ta σ H fun x H1 => R x H1 Q) (fun δ => (ra δ).bind g) := by
  intro C Hd H ws ss σ δ Q hl hR hP
  refine ha C Hd H ws ss σ δ _ hl hR ?_
  cases e1 : ra δ with
  | stuck => simp only [e1, Out.bind] at hP; exact hP
  | ex x => simp only [e1, Out.bind] at hP; exact hP
  | ok x =>
    simp only [e1, Out.bind] at hP
    intro vx Hd1 H1 R1 s1
    exact h C Hd1 H1 _ _ σ vx x Q R1 (hP.at s1)
/-! ### names and constants -/
def rVar (i : Nat) : DE := fun δ => match δ[i]? with
  | some (.d x) => .ok x
  | _ => .stuck
theorem Rel.var {K : PySem.W.Frag} {C : Ctx} {Hd H : Hp} {ws : L2.St} {ss : Env} {σ : L2.St} {δ : Env} {i : Nat} {x : D} (hl : ws.length = ss.length) (R : Rel K T C Hd H (ws ++ σ) (ss ++ δ)) (h : δ[i]? = some (.d x)) : ∃ v, σ[i]? = some (some v) ∧ Im K T Hd v x := by
  have h' : (ss ++ δ)[ss.length + i]? = some (.d x) := by rw [List.getElem?_append_right (by omega)]; simpa using h
  obtain ⟨v, e, m⟩ := R.get h'
  rw [List.getElem?_append_right (by omega)] at e
  exact ⟨v, by rw [← e]; congr 1; omega, m⟩
theorem pd_var {i : Nat} (h : PE X e (tVar i)) : PDE T X W e (rVar i) := ⟨_, h, fun C Hd H ws ss σ δ Q hl hR hP => by
  cases e1 : δ[i]? with
  | none => simp only [rVar, e1] at hP; exact hP.elim
  | some s =>
    cases s with
    | d x =>
      simp only [rVar, e1] at hP
      obtain ⟨v, e, m⟩ := hR.var hl e1
      exact ⟨v, e, hP v Hd H (hR.push m) (.refl _)⟩
    | un => simp only [rVar, e1] at hP; exact hP.elim
    | exc => simp only [rVar, e1] at hP; exact hP.elim
    | own _ t => simp only [rVar, e1] at hP; exact hP.elim⟩
def rC (x : D) : DE := fun _ => .ok x
theorem pd_c {v : V} {x : D} (h : PE X e (tC v)) (m : ∀ H, Im X.K T H v x) : PDE T X W e (rC x) := ⟨_, h, fun C Hd H ws ss σ δ Q hl hR hP => hP v Hd H (hR.push (m Hd)) (.refl _)⟩
theorem pd_int {i : Int} {j : Nat} : PDE T X W (.Constant (.int i) j pos) (rC (.int i)) := pd_c pe_int fun _ => .int i
theorem pd_bl {i : Bool} {j : Nat} : PDE T X W (.Constant (.bool i) j pos) (rC (.bl i)) := pd_c pe_bl fun _ => .bl i
theorem pd_non {j : Nat} : PDE T X W (.Constant .none j pos) (rC .non) := pd_c pe_non fun _ => .non
theorem pd_str {x : Str} {cs : List Nat} {j : Nat} (h : x = mkS cs) : PDE T X W (.Constant (.str x) j pos) (rC (.str cs)) := by
  subst h
  exact pd_c pe_str fun _ => .str cs
/-! ### operators -/
def OpG (T : Tab) (X : Cx) (r : R2) (g : D → D → Option D) : Prop := ∀ (C : Ctx) (Hd H : Hp) (ρw : L2.St) (ρs : Env) (vx vy : V) (x y z : D) (Q : VK), Rel X.K T C Hd H (some vy :: some vx :: ρw) (.d y :: .d x :: ρs) → g x y = some z →
  (∀ v Hd' H', Rel X.K T C Hd' H' (some v :: ρw) (.d z :: ρs) → Same H H' → Q v H') → r vx vy H Q
def UnG (T : Tab) (X : Cx) (r : V → Hp → VK → Prop) (g : D → Option D) : Prop := ∀ (C : Ctx) (Hd H : Hp) (ρw : L2.St) (ρs : Env) (vx : V) (x z : D) (Q : VK), Rel X.K T C Hd H (some vx :: ρw) (.d x :: ρs) → g x = some z →
  (∀ v Hd' H', Rel X.K T C Hd' H' (some v :: ρw) (.d z :: ρs) → Same H H' → Q v H') → r vx H Q
theorem OpG.post {r : R2} {g : D → D → Option D} (h : OpG T X r g) (C : Ctx) (Hd H : Hp) (ρw : L2.St) (ρs : Env) (σ : L2.St) (vx vy : V) (x y : D) (Q : VK) (R : Rel X.K T C Hd H (some vy :: some vx :: ρw) (.d y :: .d x :: ρs)) (p : EPost X.K T C σ W ρw ρs H (ofO (g x y)) Q) : r vx vy H Q := by
  cases e : g x y with
  | none => rw [e] at p; exact (show False from p).elim
  | some z => rw [e] at p; exact h C Hd H ρw ρs vx vy x y z Q R e p
theorem UnG.post {r : V → Hp → VK → Prop} {g : D → Option D} (h : UnG T X r g) (C : Ctx) (Hd H : Hp) (ρw : L2.St) (ρs : Env) (σ : L2.St) (vx : V) (x : D) (Q : VK) (R : Rel X.K T C Hd H (some vx :: ρw) (.d x :: ρs)) (p : EPost X.K T C σ W ρw ρs H (ofO (g x)) Q) : r vx H Q := by
  cases e : g x with
  | none => rw [e] at p; exact (show False from p).elim
  | some z => rw [e] at p; exact h C Hd H ρw ρs vx x z Q R e p
def rOp (g : D → D → Option D) (ra rb : DE) : DE := fun δ => (ra δ).bind fun x => (rb δ).bind fun y => ofO (g x y)
def rUn (g : D → Option D) (ra : DE) : DE := fun δ => (ra δ).bind fun x => ofO (g x)
theorem snd_op {r : R2} {g : D → D → Option D} (hg : OpG T X r g) (ha : Snd T X W ta ra) (hb : Snd T X W tb rb) : Snd T X W (tOp r ta tb) (rOp g ra rb) := snd_two (R := r) ha hb fun C Hd H ρw ρs σ vx vy x y Q R p => hg.post C Hd H ρw ρs σ vx vy x y Q R p
theorem pd_op {op : Operator} {r : R2} {g : D → D → Option D} (hg : OpR X (binaryOp op) r ∧ OpG T X r g) (ha : PDE T X W a ra) (hb : PDE T X W b rb) : PDE T X W (.BinOp a op b pos) (rOp g ra rb) := by
  obtain ⟨ta, pa, sa⟩ := ha
  obtain ⟨tb, pb, sb⟩ := hb
  exact ⟨_, pe_op hg.1 pa pb, snd_op hg.2 sa sb⟩
theorem pd_cmp {op : CmpOp} {r : R2} {g : D → D → Option D} (hg : OpR X (compareOp op) r ∧ OpG T X r g) (ha : PDE T X W a ra) (hb : PDE T X W b rb) (hm : behindInMarks op b = false) : PDE T X W (.Compare a [op] [b] pos) (rOp g ra rb) := by
  obtain ⟨ta, pa, sa⟩ := ha
  obtain ⟨tb, pb, sb⟩ := hb
  exact ⟨_, pe_cmpR hg.1 pa pb hm, snd_op hg.2 sa sb⟩
theorem pd_un {op : UnaryOp} {r : V → Hp → VK → Prop} {g : D → Option D} (hg : UnR X (unaryOp op) r ∧ UnG T X r g) (ha : PDE T X W a ra) : PDE T X W (.UnaryOp op a pos) (rUn g ra) := by
  obtain ⟨ta, pa, sa⟩ := ha
  exact ⟨_, pe_un hg.1 pa, snd_one (R := r) sa fun C Hd H ρw ρs σ vx x Q R p => hg.2.post C Hd H ρw ρs σ vx x Q R p⟩
theorem pd_ix {r : R2} {g : D → D → Option D} (hg : IxR X r ∧ OpG T X r g) (ha : PDE T X W a ra) (hb : PDE T X W b rb) (hs : PlainIx b) : PDE T X W (.Subscript a b pos) (rOp g ra rb) := by
  obtain ⟨ta, pa, sa⟩ := ha
  obtain ⟨tb, pb, sb⟩ := hb
  exact ⟨_, pe_ix hg.1 pa pb hs, snd_op hg.2 sa sb⟩
theorem OpR.or3 {f : Value → Value → Sem Value} {r r' r'' : R2} (h : OpR X f r) (h' : OpR X f r') (h'' : OpR X f r'') : OpR X f (fun x y H Q => r x y H Q ∨ r' x y H Q ∨ r'' x y H Q) := h.or (h'.or h'')

/-! ### ints -/
def dI (g : Int → Int → Option D) : D → D → Option D
  | .int i, .int j => g i j
  | _, _ => none
theorem opG_I {C : Int → Int → Prop} [∀ i j, Decidable (C i j)] {g : Int → Int → D} {gv : Int → Int → V} (hv : ∀ i j H, Im X.K T H (gv i j) (g i j)) : OpG T X (rI C gv) (dI fun i j => if C i j then some (g i j) else none) := by
  intro Cx Hd H ρw ρs vx vy x y z Q R hz k
  cases x with
  | int i =>
    cases y with
    | int j =>
      have m1 := R.headv
      have m2 := R.second
      cases m1
      cases m2
      simp only [dI] at hz
      by_cases hc : C i j
      · rw [if_pos hc] at hz
        cases hz
        exact ⟨i, j, rfl, rfl, hc, k _ Hd H (R.drop.drop.push (hv i j Hd)) (.refl _)⟩
      · rw [if_neg hc] at hz; cases hz
    | _ => cases hz
  | _ => cases hz
theorem opG_I0 {g : Int → Int → D} {gv : Int → Int → V} (hv : ∀ i j H, Im X.K T H (gv i j) (g i j)) : OpG T X (rI0 gv) (dI fun i j => some (g i j)) := by
  intro Cx Hd H ρw ρs vx vy x y z Q R hz k
  cases x with
  | int i =>
    cases y with
    | int j =>
      have m1 := R.headv
      have m2 := R.second
      cases m1
      cases m2
      cases hz
      exact ⟨i, j, rfl, rfl, k _ Hd H (R.drop.drop.push (hv i j Hd)) (.refl _)⟩
    | _ => cases hz
  | _ => cases hz
end
end L2.DL

/-! ## DL3 -/
set_option linter.all false
set_option maxRecDepth 100000
set_option maxHeartbeats 4000000
/-! DL3: the operators. -/
namespace L2.DL
open PySem PySem.Spec PyProof.Rows L2
section
variable {K : PySem.W.Frag} {T : Tab} {C : Ctx} {Hd H : Hp} {ws : L2.St} {ss : Env} {p : Addr} {vs : List V} {xs : List D}
theorem Rel.newL (R : Rel K T C Hd H ws ss) (hp : H p = none) (l : ImL K T Hd vs xs) : Rel K T C (upd Hd p (.lst vs)) (upd H p (.lst vs)) (some (.ref p) :: ws) (.d (.lst xs) :: ss) :=
  (R.new hp).push (.lst (.inl upd_same) (l.to (Keep.new (o := .lst vs) R.bas hp).kd))
theorem Rel.newT (R : Rel K T C Hd H ws ss) (hp : H p = none) (l : ImL K T Hd vs xs) : Rel K T C (upd Hd p (.tup vs)) (upd H p (.tup vs)) (some (.ref p) :: ws) (.d (.tup xs) :: ss) :=
  (R.new hp).push (.tup (.of upd_same) (l.to (Keep.new (o := .tup vs) R.bas hp).kd))
end
/-! ### == -/
mutual
def eqD : D → D → Bool
  | .non, .non => true
  | .bl a, .bl b => a == b
  | .bl a, .int j => (if a then 1 else 0) == j
  | .int i, .bl b => i == (if b then 1 else 0)
  | .int i, .int j => i == j
  | .str x, .str y => x == y
  | .lst xs, .lst ys => eqDL xs ys
  | .tup xs, .tup ys => eqDL xs ys
  | _, _ => false
def eqDL : List D → List D → Bool
  | [], [] => true
  | x :: xs, y :: ys => eqD x y && eqDL xs ys
  | _, _ => false
end
mutual
/-- data that == may be asked of, at most n deep -/
def okD : Nat → D → Bool
  | _, .non => true
  | _, .bl _ => true
  | _, .int _ => true
  | _, .str cs => cs.all (· < 0x110000)
  | 0, _ => false
  | n + 1, .lst xs => okDL n xs
  | n + 1, .tup xs => okDL n xs
  | _, _ => false
def okDL : Nat → List D → Bool
  | _, [] => true
  | n, x :: xs => okD n x && okDL n xs
end
mutual
def toP : D → PyData
  | .non => .none
  | .bl b => .bool b
  | .int i => .int i
  | .str cs => .str (mkS cs)
  | .lst xs => .list (toPL xs)
  | .tup xs => .tuple (toPL xs)
  | _ => .dict []
def toPL : List D → List PyData
  | [] => []
  | x :: xs => toP x :: toPL xs
end
section
variable {K : PySem.W.Frag} {T : Tab} {H : Hp}
mutual
theorem toP_Dp : ∀ (x : D) (n : Nat) (v : V), okD n x = true → Im K T H v x → Dp K H v (toP x)
  | .non, n, _, _, h => by cases h; exact .non
  | .bl b, n, _, _, h => by cases h; exact .bl b
  | .int i, n, _, _, h => by cases h; exact .int i
  | .str cs, n, _, _, h => by cases h; exact .str _
  | .lst xs, 0, _, o, _ => by simp [okD] at o
  | .tup xs, 0, _, o, _ => by simp [okD] at o
  | .lst xs, n + 1, _, o, h => by
    cases h with
    | lst h1 h2 => exact .lst (.inl h1) (toPL_Dp xs n _ (by simpa [okD] using o) h2)
  | .tup xs, n + 1, _, o, h => by
    cases h with
    | tup h1 h2 => exact .tup h1 (toPL_Dp xs n _ (by simpa [okD] using o) h2)
  | .dic es, n, _, o, _ => by cases n <;> simp [okD] at o
  | .ins c xs, n, _, o, _ => by cases n <;> simp [okD] at o
theorem toPL_Dp : ∀ (xs : List D) (n : Nat) (vs : List V), okDL n xs = true → ImL K T H vs xs → DpAll K H vs (toPL xs)
  | [], _, _, _, h => by cases h; exact .nil
  | x :: xs, n, _, o, h => by
    cases h with
    | cons h1 h2 =>
      simp only [okDL, Bool.and_eq_true] at o
      exact .cons (toP_Dp x n _ o.1 h1) (toPL_Dp xs n _ o.2 h2)
end
end
mutual
theorem toP_lay : ∀ (x : D) (n : Nat), okD n x = true → (toP x).canLay0 = true ∧ (toP x).depth ≤ n + 1
  | .non, n, _ => by simp [toP, PyData.canLay0, PyData.depth]
  | .bl b, n, _ => by simp [toP, PyData.canLay0, PyData.depth]
  | .int i, n, _ => by simp [toP, PyData.canLay0, PyData.depth]
  | .str cs, n, o => by
    refine ⟨?_, by simp [toP, PyData.depth]⟩
    show PyData.strOk (mkS cs) = true
    cases n <;> simpa [okD, PyData.strOk] using o
  | .lst xs, 0, o => by simp [okD] at o
  | .tup xs, 0, o => by simp [okD] at o
  | .lst xs, n + 1, o => by
    obtain ⟨h1, h2⟩ := toPL_lay xs n (by simpa [okD] using o)
    exact ⟨by simpa [toP, PyData.canLay0] using h1, by simp only [toP, PyData.depth]; omega⟩
  | .tup xs, n + 1, o => by
    obtain ⟨h1, h2⟩ := toPL_lay xs n (by simpa [okD] using o)
    exact ⟨by simpa [toP, PyData.canLay0] using h1, by simp only [toP, PyData.depth]; omega⟩
  | .dic es, n, o => by cases n <;> simp [okD] at o
  | .ins c xs, n, o => by cases n <;> simp [okD] at o
theorem toPL_lay : ∀ (xs : List D) (n : Nat), okDL n xs = true → PyData.canLayAll0 (toPL xs) = true ∧ PyData.depthAll (toPL xs) ≤ n + 1
  | [], n, _ => by simp [toPL, PyData.canLayAll0, PyData.depthAll]
  | x :: xs, n, o => by
    simp only [okDL, Bool.and_eq_true] at o
    obtain ⟨h1, h2⟩ := toP_lay x n o.1
    obtain ⟨h3, h4⟩ := toPL_lay xs n o.2
    exact ⟨by simp [toPL, PyData.canLayAll0, h1, h3], by simp only [toPL, PyData.depthAll]; omega⟩
end
theorem toP_shaped {x : D} (h : okD 60 x = true) : SeqAt.shaped (toP x) = true := by
  obtain ⟨h1, h2⟩ := toP_lay x 60 h
  show ((toP x).canLay0 && decide ((toP x).depth ≤ 64)) = true
  rw [Bool.and_eq_true]
  exact ⟨h1, decide_eq_true (by omega)⟩
theorem mkS_eq (a b : List Nat) : (mkS a == mkS b) = (a == b) := by
  rw [Bool.eq_iff_iff]
  simp
mutual
theorem toP_eqv : ∀ (x y : D) (n m : Nat), okD n x = true → okD m y = true → PyData.eqv (toP x) (toP y) = eqD x y
  | .non, y, n, m, _, o => by cases y <;> first | simp [toP, PyData.eqv, eqD] | (cases m <;> simp [okD] at o)
  | .bl b, y, n, m, _, o => by cases y <;> first | simp [toP, PyData.eqv, eqD] | (cases m <;> simp [okD] at o)
  | .int i, y, n, m, _, o => by cases y <;> first | simp [toP, PyData.eqv, eqD] | (cases m <;> simp [okD] at o)
  | .str cs, y, n, m, _, o => by cases y <;> first | simp [toP, PyData.eqv, eqD, mkS_eq] | (cases m <;> simp [okD] at o)
  | .lst xs, y, 0, m, o, _ => by simp [okD] at o
  | .tup xs, y, 0, m, o, _ => by simp [okD] at o
  | .lst xs, y, n + 1, m, o, o2 => by
    cases y with
    | lst ys =>
      cases m with
      | zero => simp [okD] at o2
      | succ m =>
        simp only [toP, PyData.eqv, eqD]
        exact toPL_eqv xs ys n m (by simpa [okD] using o) (by simpa [okD] using o2)
    | dic es => cases m <;> simp [okD] at o2
    | ins c es => cases m <;> simp [okD] at o2
    | _ => simp [toP, PyData.eqv, eqD]
  | .tup xs, y, n + 1, m, o, o2 => by
    cases y with
    | tup ys =>
      cases m with
      | zero => simp [okD] at o2
      | succ m =>
        simp only [toP, PyData.eqv, eqD]
        exact toPL_eqv xs ys n m (by simpa [okD] using o) (by simpa [okD] using o2)
    | dic es => cases m <;> simp [okD] at o2
    | ins c es => cases m <;> simp [okD] at o2
    | _ => simp [toP, PyData.eqv, eqD]
  | .dic es, _, n, _, o, _ => by cases n <;> simp [okD] at o
  | .ins c xs, _, n, _, o, _ => by cases n <;> simp [okD] at o
theorem toPL_eqv : ∀ (xs ys : List D) (n m : Nat), okDL n xs = true → okDL m ys = true → PyData.eqvAll (toPL xs) (toPL ys) = eqDL xs ys
  | [], [], _, _, _, _ => by simp [toPL, PyData.eqvAll, eqDL]
  | [], _ :: _, _, _, _, _ => by simp [toPL, PyData.eqvAll, eqDL]
  | _ :: _, [], _, _, _, _ => by simp [toPL, PyData.eqvAll, eqDL]
  | x :: xs, y :: ys, n, m, o, o2 => by
    simp only [okDL, Bool.and_eq_true] at o o2
    simp only [toPL, PyData.eqvAll, eqDL, toP_eqv x y n m o.1 o2.1, toPL_eqv xs ys n m o.2 o2.2]
end
def dEqv : D → D → Option Bool
  | .str a, .str b => some (decide (a = b))
  | .int a, .int b => some (decide (a = b))
  | x, y => if okD 60 x && okD 60 y then some (eqD x y) else none
def dEq (x y : D) : Option D := (dEqv x y).map D.bl
def dNe (x y : D) : Option D := (dEqv x y).map fun b => D.bl (!b)
def rEqA (K : PySem.W.Frag) : R2 := fun x y H Q => rEq x y H Q ∨ rEqD K x y H Q
def rNeA (K : PySem.W.Frag) : R2 := fun x y H Q => rNe x y H Q ∨ rNeD K x y H Q
theorem dec_mkS (a b : List Nat) : decide (V.str (mkS a) = V.str (mkS b)) = decide (a = b) := by
  rw [Bool.eq_iff_iff]
  simp
section
variable {T : Tab} {X : Cx} {W : WX} {a b c e : Expr} {ra rb rc re : DE} {pos : Pos}
theorem eq_sound {r : R2} {f : Bool → Bool} (h1 : ∀ (x y : V) (H : Hp) (Q : VK), scal x y = true → Q (.bl (f (decide (x = y)))) H → r x y H Q)
    (h2 : ∀ (x y : V) (H : Hp) (Q : VK) (d e : PyData), Dp X.K H x d → Dp X.K H y e → SeqAt.shaped d = true → SeqAt.shaped e = true → Q (.bl (f (PyData.eqv d e))) H → r x y H Q) : OpG T X r (fun x y => (dEqv x y).map fun b => D.bl (f b)) := by
  intro Cx Hd H ρw ρs vx vy x y z Q R hz k
  have hz : (dEqv x y).map (fun b => D.bl (f b)) = some z := hz
  have my := R.headv
  have mx := R.second
  have fin : ∀ b, D.bl (f b) = z → Q (.bl (f b)) H := fun b e => by
    subst e
    exact k _ Hd H (R.drop.drop.push (.bl _)) (.refl _)
  have deep : (dEqv x y = if okD 60 x && okD 60 y then some (eqD x y) else none) → r vx vy H Q := fun he => by
    rw [he] at hz
    by_cases ho : (okD 60 x && okD 60 y) = true
    · rw [if_pos ho] at hz
      rw [Bool.and_eq_true] at ho
      simp only [Option.map_some, Option.some.injEq] at hz
      refine h2 vx vy H Q (toP x) (toP y) (toP_Dp x 60 vx ho.1 (mx.to R.bas.sub)) (toP_Dp y 60 vy ho.2 (my.to R.bas.sub)) (toP_shaped ho.1) (toP_shaped ho.2) ?_
      rw [toP_eqv x y 60 60 ho.1 ho.2]
      exact fin _ hz
    · rw [if_neg ho] at hz; cases hz
  cases x with
  | str s =>
    cases y with
    | str s' =>
      cases mx; cases my
      refine h1 _ _ H Q rfl ?_
      rw [dec_mkS]
      simp only [dEqv, Option.map_some, Option.some.injEq] at hz
      exact fin _ hz
    | _ => exact deep (by simp [dEqv])
  | int i =>
    cases y with
    | int j =>
      cases mx; cases my
      refine h1 _ _ H Q rfl ?_
      rw [dec_int]
      simp only [dEqv, Option.map_some, Option.some.injEq] at hz
      rw [Bool.beq_eq_decide_eq]
      exact fin _ hz
    | _ => exact deep (by simp [dEqv])
  | _ => exact deep (by simp [dEqv])
theorem og_eq (hu : X.A.units + 64 < cLine) : OpR X (compareOp .Eq) (rEqA X.K) ∧ OpG T X (rEqA X.K) dEq :=
  ⟨op_eq.or (op_eqD hu), eq_sound (f := id) (fun x y H Q h q => .inl ⟨h, q⟩) fun x y H Q d e h1 h2 h3 h4 q => .inr ⟨d, e, h1, h2, h3, h4, q⟩⟩
theorem og_ne (hu : X.A.units + 64 < cLine) : OpR X (compareOp .NotEq) (rNeA X.K) ∧ OpG T X (rNeA X.K) dNe :=
  ⟨op_ne.or (op_neD hu), eq_sound (f := fun b => !b) (fun x y H Q h q => .inl ⟨h, q⟩) fun x y H Q d e h1 h2 h3 h4 q => .inr ⟨d, e, h1, h2, h3, h4, q⟩⟩
/-! ### < and its kin, of ints; <= of texts -/
theorem og_lt : OpR X (compareOp .Lt) (rI0 fun i j => .bl (decide (i < j))) ∧ OpG T X (rI0 fun i j => .bl (decide (i < j))) (dI fun i j => some (.bl (decide (i < j)))) := ⟨op_lt, opG_I0 fun _ _ _ => .bl _⟩
theorem og_le : OpR X (compareOp .LtE) (rI0 fun i j => .bl (decide (i ≤ j))) ∧ OpG T X (rI0 fun i j => .bl (decide (i ≤ j))) (dI fun i j => some (.bl (decide (i ≤ j)))) := ⟨op_le, opG_I0 fun _ _ _ => .bl _⟩
theorem og_gt : OpR X (compareOp .Gt) (rI0 fun i j => .bl (decide (j < i))) ∧ OpG T X (rI0 fun i j => .bl (decide (j < i))) (dI fun i j => some (.bl (decide (j < i)))) := ⟨op_gt, opG_I0 fun _ _ _ => .bl _⟩
theorem og_ge : OpR X (compareOp .GtE) (rI0 fun i j => .bl (decide (j ≤ i))) ∧ OpG T X (rI0 fun i j => .bl (decide (j ≤ i))) (dI fun i j => some (.bl (decide (j ≤ i)))) := ⟨op_ge, opG_I0 fun _ _ _ => .bl _⟩
/-! ### arithmetic -/
theorem og_sub : OpR X (binaryOp .Sub) (rI0 fun i j => .int (i - j)) ∧ OpG T X (rI0 fun i j => .int (i - j)) (dI fun i j => some (.int (i - j))) := ⟨op_sub, opG_I0 fun _ _ _ => .int _⟩
def CFd (i j : Int) : Prop := 0 < j ∧ j.natAbs.log2 < 9000
instance (i j : Int) : Decidable (CFd i j) := inferInstanceAs (Decidable (_ ∧ _))
def dFdiv : D → D → Option D := dI fun i j => if CFd i j then some (.int (i / j)) else none
theorem og_fdiv : OpR X (binaryOp .FloorDiv) (rI CFd fun i j => .int (i / j)) ∧ OpG T X (rI CFd fun i j => .int (i / j)) dFdiv := ⟨op_fdivW, opG_I fun _ _ _ => .int _⟩
def dMod : D → D → Option D := dI fun i j => if 0 < j then some (.int (i % j)) else none
theorem og_mod : OpR X (binaryOp .Mod) (rI (fun _ j => 0 < j) fun i j => .int (i % j)) ∧ OpG T X (rI (fun _ j => 0 < j) fun i j => .int (i % j)) dMod := ⟨op_mod, opG_I (C := fun _ j => 0 < j) fun _ _ _ => .int _⟩
instance (i j : Int) : Decidable (CPow i j) := inferInstanceAs (Decidable (_ ∧ _ ∧ _))
def dShl : D → D → Option D := dI fun i j => if CPow i j then some (.int (i * 2 ^ j.toNat)) else none
theorem og_shl : OpR X (binaryOp .LShift) (rI CPow fun i j => .int (i * 2 ^ j.toNat)) ∧ OpG T X (rI CPow fun i j => .int (i * 2 ^ j.toNat)) dShl := ⟨op_shl, opG_I fun _ _ _ => .int _⟩
def dShr : D → D → Option D := dI fun i j => if 0 ≤ j then some (.int (i / 2 ^ j.toNat)) else none
theorem og_shr : OpR X (binaryOp .RShift) (rI (fun _ j => 0 ≤ j) fun i j => .int (i / 2 ^ j.toNat)) ∧ OpG T X (rI (fun _ j => 0 ≤ j) fun i j => .int (i / 2 ^ j.toNat)) dShr := ⟨op_shr, opG_I (C := fun _ j => 0 ≤ j) fun _ _ _ => .int _⟩
def dAnd : D → D → Option D := dI fun i j => some (.int (Builtin.bitAnd i j))
def dOr : D → D → Option D := dI fun i j => some (.int (Builtin.bitOr i j))
def dXor : D → D → Option D := dI fun i j => some (.int (Builtin.bitXor i j))
theorem og_and : OpR X (binaryOp .BitAnd) (rI0 fun i j => .int (Builtin.bitAnd i j)) ∧ OpG T X (rI0 fun i j => .int (Builtin.bitAnd i j)) dAnd := ⟨op_and, opG_I0 fun _ _ _ => .int _⟩
theorem og_or : OpR X (binaryOp .BitOr) (rI0 fun i j => .int (Builtin.bitOr i j)) ∧ OpG T X (rI0 fun i j => .int (Builtin.bitOr i j)) dOr := ⟨op_or, opG_I0 fun _ _ _ => .int _⟩
theorem og_xor : OpR X (binaryOp .BitXor) (rI0 fun i j => .int (Builtin.bitXor i j)) ∧ OpG T X (rI0 fun i j => .int (Builtin.bitXor i j)) dXor := ⟨op_xor, opG_I0 fun _ _ _ => .int _⟩
def dNeg : D → Option D
  | .int i => some (.int (-i))
  | _ => none
theorem ug_neg : UnR X (unaryOp .USub) (rU fun i => .int (-i)) ∧ UnG T X (rU fun i => .int (-i)) dNeg := ⟨un_neg, fun Cx Hd H ρw ρs vx x z Q R hz k => by
  cases x with
  | int i =>
    have m := R.headv
    cases m
    cases hz
    exact ⟨i, rfl, k _ Hd H (R.drop.push (.int _)) (.refl _)⟩
  | _ => cases hz⟩
/-! ### +: ints, texts, lists -/
theorem Inv.lstR {pins : List (Addr × Obj)} {σ : L2.St} {H : Hp} {s : Shared} {l : Addr} {xs : List V} (I : Inv X pins σ H s) (hH : Rd H l (.lst xs)) : xs.length ≤ sizeLine ∧ ∃ (its : List Value) (n : Nat), Vals xs its ∧ xs.length = its.length ∧ s.heap.get? l = some { cls := .type "list", data := .seq its.toArray n } := by
  obtain ⟨z, its, n, r, e⟩ := hH.ok I.hok
  exact ⟨z, its, n, r, r.length, e⟩
def rCatR : R2 := fun x y H Q => ∃ l b xs zs, x = .ref l ∧ y = .ref b ∧ Rd H l (.lst xs) ∧ Rd H b (.lst zs) ∧ xs.length + zs.length ≤ sizeLine ∧ ∀ p, H p = none → Q (.ref p) (upd H p (.lst (xs ++ zs)))
theorem op_catR : OpR X (binaryOp .Add) rCatR := by
  intro pins s σ H x y v u Q I rx ry h
  obtain ⟨l, b, xs, zs, rfl, rfl, hH, hB, hz, q⟩ := h
  cases rx
  cases ry
  obtain ⟨z, its, n, r, hl, e⟩ := Inv.lstR I hH
  obtain ⟨z2, its2, n2, r2, hl2, e2⟩ := Inv.lstR I hB
  refine PySem.P.add_list e e2 ?_ (by rw [List.size_toArray, List.size_toArray]; omega)
  have ea : its.toArray ++ its2.toArray = (its ++ its2).toArray := by simp
  rw [ea]
  exact ⟨.ref _, _, I.lnew (t' := s.toks) (r.append r2) (by rw [List.length_append]; omega), rfl, q _ I.fresh⟩
def dAdd : D → D → Option D
  | .int i, .int j => some (.int (i + j))
  | .str a, .str b => if a.length + b.length ≤ 16777216 then some (.str (a ++ b)) else none
  | .lst a, .lst b => if a.length + b.length ≤ 16777216 then some (.lst (a ++ b)) else none
  | _, _ => none
def rAddS' : R2 := fun x y H Q => ∃ i j, x = .str i ∧ y = .str j ∧ i.length + j.length ≤ sizeLine ∧ Q (.str (i ++ j)) H
def rAddA : R2 := fun x y H Q => rI0 (fun i j => .int (i + j)) x y H Q ∨ rAddS' x y H Q ∨ rCatR x y H Q
theorem mkS_append (a b : List Nat) : mkS a ++ mkS b = mkS (a ++ b) := by
  show (⟨a.toArray ++ b.toArray⟩ : Str) = ⟨(a ++ b).toArray⟩
  simp
theorem mkS_length (a : List Nat) : (mkS a).length = a.length := by
  show a.toArray.size = a.length
  simp
theorem og_add : OpR X (binaryOp .Add) rAddA ∧ OpG T X rAddA dAdd := by
  refine ⟨op_add.or (op_add_str.or op_catR), ?_⟩
  intro Cx Hd H ρw ρs vx vy x y z Q R hz k
  have my := R.headv
  have mx := R.second
  cases x with
  | int i =>
    cases y with
    | int j =>
      cases mx; cases my
      cases hz
      exact .inl ⟨i, j, rfl, rfl, k _ Hd H (R.drop.drop.push (.int _)) (.refl _)⟩
    | _ => cases hz
  | str s =>
    cases y with
    | str s' =>
      cases mx; cases my
      simp only [dAdd] at hz
      by_cases hl : s.length + s'.length ≤ 16777216
      · rw [if_pos hl] at hz
        cases hz
        refine .inr (.inl ⟨_, _, rfl, rfl, by rw [mkS_length, mkS_length, sizeLine_eq]; exact hl, ?_⟩)
        rw [mkS_append]
        exact k _ Hd H (R.drop.drop.push (.str _)) (.refl _)
      · rw [if_neg hl] at hz; cases hz
    | _ => cases hz
  | lst xs =>
    cases y with
    | lst ys =>
      cases mx with
      | lst h1 l1 =>
        cases my with
        | lst h2 l2 =>
          simp only [dAdd] at hz
          by_cases hl : xs.length + ys.length ≤ 16777216
          · rw [if_pos hl] at hz
            cases hz
            refine .inr (.inr ⟨_, _, _, _, rfl, rfl, same_rd R.bas.sub h1, same_rd R.bas.sub h2, by rw [l1.length, l2.length, sizeLine_eq]; exact hl, fun p hp => ?_⟩)
            exact k _ _ _ (R.drop.drop.newL hp (l1.append l2)) (same_new hp)
          · rw [if_neg hl] at hz; cases hz
    | _ => cases hz
  | _ => cases hz
/-! ### *: ints, a list times an int -/
def CMulA (i j : Int) : Prop := i.natAbs.log2 + j.natAbs.log2 < 134217000
instance (i j : Int) : Decidable (CMulA i j) := inferInstanceAs (Decidable (_ < _))
theorem CMulA.ok {i j : Int} (h : CMulA i j) : IntMulOk i j := by
  have b : ∀ x : Int, Builtin.Int.intBits x ≤ x.natAbs.log2 + 1 := fun x => by
    unfold Builtin.Int.intBits
    split <;> omega
  have h1 := b i
  have h2 := b j
  have h3 : i.natAbs.log2 + j.natAbs.log2 < 134217000 := h
  have e : bitsLine = 134217728 := by decide
  unfold IntMulOk
  intro z
  rw [Bool.and_eq_true] at z
  have z2 := z.2
  unfold Builtin.Int.intTooBig at z2
  have z3 := of_decide_eq_true z2
  rw [e] at z3
  omega
theorem op_mulA : OpR X (binaryOp .Mult) (rI CMulA fun i j => .int (i * j)) := opI fun _ _ _ _ _ _ _ hc q => mul_int q hc.ok
def rRepR : R2 := fun x y H Q => ∃ l k xs, x = .ref l ∧ y = .int k ∧ Rd H l (.lst xs) ∧ -(2 ^ 63) ≤ k ∧ k < 2 ^ 63 ∧ xs.length * k.toNat ≤ sizeLine ∧
  ∀ p, H p = none → Q (.ref p) (upd H p (.lst (List.replicate k.toNat xs).flatten))
theorem op_repR : OpR X (binaryOp .Mult) rRepR := by
  intro pins s σ H x y v u Q I rx ry h
  obtain ⟨l, k, xs, rfl, rfl, hH, h1, h2, hz, q⟩ := h
  cases rx
  obtain ⟨t, rfl⟩ := ry
  obtain ⟨z, its, n, r, hl, e⟩ := Inv.lstR I hH
  have hlen : its.toArray.size * k.toNat ≤ sizeLine := by rw [List.size_toArray, ← hl]; exact hz
  have hcap : ¬ its.toArray.size * k.toNat > (2 ^ 63 - 1) / 8 := by
    have : (sizeLine : Nat) ≤ (2 ^ 63 - 1) / 8 := by decide
    omega
  have hfit : ¬ (!Builtin.List.listFitsIndex k) = true := by
    rw [fitsIndex_both h1 h2]
    exact Bool.false_ne_true
  have hlong : ¬ Builtin.List.listTooLong (its.toArray.size * k.toNat) = true := by
    rw [notLongL hlen]
    exact Bool.false_ne_true
  have hnew : List.foldl (fun x1 x2 => x1 ++ x2) #[] (List.replicate (if its.toArray.isEmpty = true then 0 else k.toNat) its.toArray) = (List.replicate k.toNat its).flatten.toArray := by
    have f0 : ∀ m : Nat, List.foldl (fun x1 x2 => x1 ++ x2) #[] (List.replicate m its.toArray) = (List.replicate m its).flatten.toArray := fun m => by
      have := foldl_rep its m []
      rw [List.nil_append] at this
      exact this
    rw [f0]
    cases its with
    | nil => simp
    | cons a r' => rw [if_neg (by simp)]
  refine wpAny_binaryOp_repeat_ref (T := "list") (U := "int") (by decide) ⟨_, e, rfl⟩ (fun s' => typeIs_int s' k t) noFill_list_mul F.fills_int_mul F.slot_int_rmul repeat_list F.slot_int_index.lookup
    (call_meets F.slot_int_rmul (typeIs_int s k t) F.entry_int_rmul (F.args_int_rmul_2 _ _) (int___rmul___int_list k t l its.toArray n)
      ⟨e, rfl, ⟨_, e, rfl⟩, call_meets F.slot_list_mul ⟨_, e, rfl⟩ F.entry_list_mul (F.args_list_mul_2 _ _) (AutoListH.list___mul___list_int_3 l its.toArray n k t hfit hcap hlong) ⟨e, ?_⟩⟩)
  rw [hnew]
  exact ⟨.ref _, _, I.lnew (t' := s.toks) (r.rep k.toNat) (by rw [PyProof.Rows.lm_len_rep_flat, Nat.mul_comm]; exact hz), rfl, q _ I.fresh⟩
def dMul : D → D → Option D
  | .int i, .int j => if CMulA i j then some (.int (i * j)) else none
  | .lst xs, .int k => if -(2 ^ 63) ≤ k ∧ k < 2 ^ 63 ∧ xs.length * k.toNat ≤ 16777216 then some (.lst (List.replicate k.toNat xs).flatten) else none
  | _, _ => none
def rMulA : R2 := fun x y H Q => rI CMulA (fun i j => .int (i * j)) x y H Q ∨ rRepR x y H Q
theorem og_mul : OpR X (binaryOp .Mult) rMulA ∧ OpG T X rMulA dMul := by
  refine ⟨op_mulA.or op_repR, ?_⟩
  intro Cx Hd H ρw ρs vx vy x y z Q R hz k
  have my := R.headv
  have mx := R.second
  cases x with
  | int i =>
    cases y with
    | int j =>
      cases mx; cases my
      simp only [dMul] at hz
      by_cases hc : CMulA i j
      · rw [if_pos hc] at hz
        cases hz
        exact .inl ⟨i, j, rfl, rfl, hc, k _ Hd H (R.drop.drop.push (.int _)) (.refl _)⟩
      · rw [if_neg hc] at hz; cases hz
    | _ => cases hz
  | lst xs =>
    cases y with
    | int j =>
      cases mx with
      | lst h1 l1 =>
        cases my
        simp only [dMul] at hz
        by_cases hc : -(2 ^ 63) ≤ j ∧ j < 2 ^ 63 ∧ xs.length * j.toNat ≤ 16777216
        · rw [if_pos hc] at hz
          cases hz
          refine .inr ⟨_, _, _, rfl, rfl, same_rd R.bas.sub h1, hc.1, hc.2.1, by rw [l1.length, sizeLine_eq]; exact hc.2.2, fun p hp => ?_⟩
          exact k _ _ _ (R.drop.drop.newL hp (l1.rep j.toNat)) (same_new hp)
        · rw [if_neg hc] at hz; cases hz
    | _ => cases hz
  | _ => cases hz
/-! ### in, not in -/
def flatD : D → Bool
  | .non => true
  | .bl _ => true
  | .int _ => true
  | .str _ => true
  | _ => false
def inD (x : D) (xs : List D) : Bool := xs.any fun y => eqD y x
theorem flat_V {K : PySem.W.Frag} {H : Hp} {v : V} {x : D} (h : Im K T H v x) (f : flatD x = true) : flatV v = true := by
  cases h <;> first | rfl | cases f
theorem flat_VL {K : PySem.W.Frag} {H : Hp} : ∀ {vs : List V} {xs : List D}, ImL K T H vs xs → xs.all flatD = true → vs.all flatV = true
  | _, _, .nil, _ => rfl
  | _, _, .cons h t, f => by
    rw [List.all_cons, Bool.and_eq_true] at f
    rw [List.all_cons, flat_V h f.1, flat_VL t f.2] <;> rfl
theorem eq_VD {K : PySem.W.Frag} {H : Hp} {v w : V} {x y : D} (h : Im K T H v x) (h' : Im K T H w y) (f : flatD x = true) (f' : flatD y = true) : eqV v w = eqD x y := by
  cases h with
  | non => cases h' <;> first | (simp only [eqV, eqD]; done) | cases f'
  | bl b => cases h' <;> first | (simp only [eqV, eqD]; done) | cases f'
  | int i => cases h' <;> first | (simp only [eqV, eqD]; done) | cases f'
  | str cs => cases h' <;> first | (simp only [eqV, eqD, mkS_eq]; done) | cases f'
  | _ => cases f
theorem in_VD {K : PySem.W.Frag} {H : Hp} {v : V} {x : D} (h : Im K T H v x) (f : flatD x = true) : ∀ {vs : List V} {xs : List D}, ImL K T H vs xs → xs.all flatD = true → inV v vs = inD x xs
  | _, _, .nil, _ => rfl
  | _, _, .cons h1 t, g => by
    rw [List.all_cons, Bool.and_eq_true] at g
    unfold inV inD
    rw [List.any_cons, List.any_cons, eq_VD h1 h g.1 f]
    exact congrArg _ (in_VD h f t g.2)
def dInB : D → D → Option Bool
  | x, .lst xs => if flatD x && xs.all flatD then some (inD x xs) else none
  | x, .tup xs => if flatD x && xs.all flatD then some (inD x xs) else none
  | _, _ => none
def dIn (x y : D) : Option D := (dInB x y).map D.bl
def dNotIn (x y : D) : Option D := (dInB x y).map fun b => D.bl (!b)
theorem in_sound {neg : Bool} : OpG T X (rIn X.K neg) (fun x y => (dInB x y).map fun b => D.bl (if neg then !b else b)) := by
  intro Cx Hd H ρw ρs vx vy x y z Q R hz k
  have my := R.headv
  have mx := R.second
  cases y with
  | lst ys =>
    cases my with
    | lst h1 l1 =>
      simp only [dInB] at hz
      by_cases hc : (flatD x && ys.all flatD) = true
      · rw [if_pos hc] at hz
        rw [Bool.and_eq_true] at hc
        cases hz
        refine ⟨_, _, rfl, .inl (.inl (same_rd R.bas.sub h1)), flat_V mx hc.1, flat_VL l1 hc.2, ?_⟩
        rw [in_VD mx hc.1 l1 hc.2]
        exact k _ Hd H (R.drop.drop.push (.bl _)) (.refl _)
      · rw [if_neg hc] at hz; cases hz
  | tup ys =>
    cases my with
    | tup h1 l1 =>
      simp only [dInB] at hz
      by_cases hc : (flatD x && ys.all flatD) = true
      · rw [if_pos hc] at hz
        rw [Bool.and_eq_true] at hc
        cases hz
        refine ⟨_, _, rfl, .inr (same_t R.bas.sub h1), flat_V mx hc.1, flat_VL l1 hc.2, ?_⟩
        rw [in_VD mx hc.1 l1 hc.2]
        exact k _ Hd H (R.drop.drop.push (.bl _)) (.refl _)
      · rw [if_neg hc] at hz; cases hz
  | _ => cases hz
theorem og_in : OpR X (compareOp .In) (rIn X.K false) ∧ OpG T X (rIn X.K false) dIn := ⟨op_in_seq, in_sound⟩
theorem og_notIn : OpR X (compareOp .NotIn) (rIn X.K true) ∧ OpG T X (rIn X.K true) dNotIn := ⟨op_notIn_seq, in_sound⟩
/-! ### is None -/
def dIsN : D → D → Option D
  | .non, .non => some (.bl true)
  | _, .non => some (.bl false)
  | _, _ => none
def dNotN : D → D → Option D
  | .non, .non => some (.bl false)
  | _, .non => some (.bl true)
  | _, _ => none
def isNonD : D → Bool
  | .non => true
  | _ => false
theorem isNonD_V {K : PySem.W.Frag} {H : Hp} {v : V} {x : D} (m : Im K T H v x) : decide (v = V.non) = isNonD x := by
  cases m <;> simp [isNonD]
theorem isN_sound {r : R2} {f : Bool → Bool} (h : ∀ x H Q, Q (.bl (f (decide (x = V.non)))) H → r x .non H Q) {g : D → D → Option D} (hg : ∀ x y z, g x y = some z → y = .non ∧ z = .bl (f (isNonD x))) : OpG T X r g := by
  intro Cx Hd H ρw ρs vx vy x y z Q R hz k
  obtain ⟨rfl, rfl⟩ := hg x y z hz
  have my := R.headv
  have mx := R.second
  cases my
  refine h vx H Q ?_
  have e : V.bl (f (decide (vx = V.non))) = V.bl (f (isNonD x)) := by rw [isNonD_V mx]
  have R2 := R.drop.drop.push (.bl (f (isNonD x)))
  rw [← e] at R2
  exact k _ Hd H R2 (.refl _)
theorem og_isN : OpR X (compareOp .Is) (fun x y H Q => y = .non ∧ Q (.bl (decide (x = .non))) H) ∧ OpG T X (fun x y H Q => y = .non ∧ Q (.bl (decide (x = .non))) H) dIsN :=
  ⟨op_isN, isN_sound (f := id) (fun x H Q q => ⟨rfl, q⟩) fun x y z h => by cases y <;> cases x <;> simp [dIsN] at h <;> subst h <;> simp [isNonD]⟩
theorem og_notN : OpR X (compareOp .IsNot) (fun x y H Q => y = .non ∧ Q (.bl (!decide (x = .non))) H) ∧ OpG T X (fun x y H Q => y = .non ∧ Q (.bl (!decide (x = .non))) H) dNotN :=
  ⟨op_notN, isN_sound (f := fun b => !b) (fun x H Q q => ⟨rfl, q⟩) fun x y z h => by cases y <;> cases x <;> simp [dNotN] at h <;> subst h <;> simp [isNonD]⟩
/-! ### a[b]: lists, tuples, texts by ints -/
def dIx : D → D → Option D
  | .lst xs, .int i => atI xs i
  | .tup xs, .int i => atI xs i
  | .str cs, .int i => if cs.length ≤ 16777216 then (atI cs i).map fun c => .str [c] else none
  | _, _ => none
theorem atI_im {K : PySem.W.Frag} {H : Hp} {vs : List V} {xs : List D} {i : Int} {x : D} (l : ImL K T H vs xs) (h : atI xs i = some x) : ∃ v, atI vs i = some v ∧ Im K T H v x := by
  unfold atI at h ⊢
  rw [l.length]
  cases e : ixN xs.length i with
  | none => rw [e] at h; cases h
  | some j =>
    rw [e] at h
    exact l.get h
theorem ig_ix : IxR X (rIx X.K) ∧ OpG T X (rIx X.K) dIx := by
  refine ⟨ix_seq, ?_⟩
  intro Cx Hd H ρw ρs vx vy x y z Q R hz k
  have my := R.headv
  have mx := R.second
  cases y with
  | int i =>
    cases my
    cases x with
    | lst xs =>
      cases mx with
      | lst h1 l1 =>
        obtain ⟨v, e, m⟩ := atI_im l1 hz
        exact .inl ⟨_, _, i, v, rfl, rfl, .inl (same_rd R.bas.sub h1), e, k _ Hd H (R.drop.drop.push m) (.refl _)⟩
    | tup xs =>
      cases mx with
      | tup h1 l1 =>
        obtain ⟨v, e, m⟩ := atI_im l1 hz
        exact .inr (.inl ⟨_, _, i, v, rfl, rfl, same_t R.bas.sub h1, e, k _ Hd H (R.drop.drop.push m) (.refl _)⟩)
    | str cs =>
      cases mx
      simp only [dIx] at hz
      by_cases hl : cs.length ≤ 16777216
      · rw [if_pos hl] at hz
        cases e : atI cs i with
        | none => rw [e] at hz; cases hz
        | some c =>
          rw [e] at hz
          cases hz
          refine .inr (.inr ⟨_, i, c, rfl, rfl, by rw [mkS_length, sizeLine_eq]; exact hl, by simpa using e, ?_⟩)
          exact k _ Hd H (R.drop.drop.push (.str [c])) (.refl _)
      · rw [if_neg hl] at hz; cases hz
    | _ => cases hz
  | _ => cases x <;> cases hz
end
end L2.DL

/-! ## DL4 -/
set_option linter.all false
set_option maxRecDepth 100000
set_option maxHeartbeats 4000000
/-! DL4: tests, argument lists, displays, built-ins, calls. -/
namespace L2.DL
open PySem PySem.Spec PyProof.Rows L2
abbrev DT := Env → Out Bool
def TPost (K : PySem.W.Frag) (T : Tab) (C : Ctx) (σ : L2.St) (W : WX) (ρw : L2.St) (ρs : Env) (H : Hp) (o : Out Bool) (Q : Bool → Hp → Prop) : Prop := match o with
  | .ok b => ∀ Hd' H', Rel K T C Hd' H' ρw ρs → Same H H' → Q b H'
  | .ex x => ∀ cls dx Hd' H', Rel K T C Hd' H' ρw ρs → Same H H' → XAt T H' cls dx x → W cls dx σ H'
  | .stuck => False
def SndT (T : Tab) (X : Cx) (W : WX) (tt : TT) (r : DT) : Prop := ∀ (C : Ctx) (Hd H : Hp) (ws : L2.St) (ss : Env) (σ : L2.St) (δ : Env) (Q : Bool → Hp → Prop), ws.length = ss.length → Rel X.K T C Hd H (ws ++ σ) (ss ++ δ) →
  TPost X.K T C σ W (ws ++ σ) (ss ++ δ) H (r δ) Q → tt σ H Q
structure PDT (T : Tab) (X : Cx) (W : WX) (e : Expr) (r : DT) : Prop where
  ex : ∃ tt, PT X e tt ∧ SndT T X W tt r
structure PDW (T : Tab) (X : Cx) (W : WX) (e : Expr) (r : DT) : Prop where
  ex : ∃ tt, PW X e tt ∧ SndT T X W tt r
def dB : D → Out Bool
  | .bl b => .ok b
  | _ => .stuck
def rT (re : DE) : DT := fun δ => (re δ).bind dB
section
variable {T : Tab} {X : Cx} {W : WX} {a b c e : Expr} {rest : List Expr} {ra rb rc re : DE} {qa qb : DT} {ta tb tc te : TE} {pos : Pos}
theorem TPost.at {K : PySem.W.Frag} {C : Ctx} {σ : L2.St} {ρw : L2.St} {ρs : Env} {H H1 : Hp} {o : Out Bool} {Q : Bool → Hp → Prop} (h : TPost K T C σ W ρw ρs H o Q) (s : Same H H1) : TPost K T C σ W ρw ρs H1 o Q := by
  cases o with
  | ok d => exact fun Hd' H' R s' => h Hd' H' R (s.trans s')
  | ex x => exact fun c d Hd' H' R s' => h c d Hd' H' R (s.trans s')
  | stuck => exact h
theorem sndT_of (sa : Snd T X W ta ra) : SndT T X W (tB ta) (rT ra) := by
  intro C Hd H ws ss σ δ Q hl hR hP
  refine sa C Hd H ws ss σ δ _ hl hR ?_
  unfold rT at hP
  cases e : ra δ with
  | stuck => rw [e] at hP; exact hP
  | ex x => rw [e] at hP; exact hP
  | ok d =>
    rw [e] at hP
    intro v Hd' H' R s
    cases d with
    | bl b =>
      have m := R.headv
      cases m
      exact ⟨b, rfl, hP Hd' H' R.drop s⟩
    | _ => exact (show False from hP).elim
theorem pdt_val (ha : PDE T X W a ra) (he : ∀ whole, isTrue a X.env whole = (do let v ← whole; standAt a.pos; holding [v] (truthy v))) : PDT T X W a (rT ra) := by
  obtain ⟨ta, pa, sa⟩ := ha
  exact ⟨_, pt_val pa he, sndT_of sa⟩
theorem pdt_cmp {op : CmpOp} {r : R2} {g : D → D → Option D} (hg : OpR X (compareOp op) r ∧ OpG T X r g) (ha : PDE T X W a ra) (hb : PDE T X W b rb) (hm : behindInMarks op b = false) : PDT T X W (.Compare a [op] [b] pos) (rT (rOp g ra rb)) := by
  obtain ⟨ta, pa, sa⟩ := ha
  obtain ⟨tb, pb, sb⟩ := hb
  exact ⟨_, pt_cmpR hg.1 pa pb hm, sndT_of (snd_op hg.2 sa sb)⟩
/-- a op1 b op2 c -/
def rChain (g g' : D → D → Option D) (ra rb rc : DE) : DE := fun δ => (ra δ).bind fun x => (rb δ).bind fun y => (ofO (g x y)).bind fun z => (dB z).bind fun k => if k = true then (rc δ).bind fun w => ofO (g' y w) else .ok (.bl false)
theorem snd_chain {r r' : R2} {g g' : D → D → Option D} (hg : OpG T X r g) (hg' : OpG T X r' g') (ha : Snd T X W ta ra) (hb : Snd T X W tb rb) (hc : Snd T X W tc rc) : Snd T X W (tChain r r' ta tb tc) (rChain g g' ra rb rc) := by
  intro C Hd H ws ss σ δ Q hl hR hP
  unfold rChain at hP
  refine ha C Hd H ws ss σ δ _ hl hR ?_
  cases e1 : ra δ with
  | stuck => simp only [e1, Out.bind] at hP; exact hP
  | ex x => simp only [e1, Out.bind] at hP; exact hP
  | ok x =>
    simp only [e1, Out.bind] at hP
    intro vx Hd1 H1 R1 s1
    refine hb C Hd1 H1 (some vx :: ws) (.d x :: ss) σ δ _ (by simp [hl]) R1 ?_
    cases e2 : rb δ with
    | stuck => simp only [e2] at hP; exact hP
    | ex y =>
      simp only [e2] at hP
      exact fun c d Hd' H' R' s' xa => hP c d Hd' H' R'.drop (s1.trans s') xa
    | ok y =>
      simp only [e2] at hP
      intro vy Hd2 H2 R2 s2
      cases e3 : g x y with
      | none => simp only [e3, ofO] at hP; exact hP.elim
      | some z =>
        simp only [e3, ofO] at hP
        -- y is asked again: keep it below
        have m := R2.headv
        have R2' : Rel X.K T C Hd2 H2 (some vy :: some vx :: some vy :: some vx :: (ws ++ σ)) (.d y :: .d x :: .d y :: .d x :: (ss ++ δ)) := (R2.push R2.second).push m
        refine hg C Hd2 H2 _ _ vx vy x y z _ R2' e3 fun v Hd3 H3 R3 s3 => ?_
        cases z with
        | bl k =>
          have mv := R3.headv
          cases mv
          refine ⟨k, rfl, ?_⟩
          cases k with
          | false =>
            simp only [dB, Bool.false_eq_true, if_false] at hP ⊢
            exact hP _ _ _ (R3.drop.drop.drop.push (.bl false)) ((s1.trans s2).trans s3)
          | true =>
            simp only [dB, if_true] at hP ⊢
            refine hc C Hd3 H3 (some vy :: ws) (.d y :: ss) σ δ _ (by simp [hl]) ?_ ?_
            · have R4 := R3.drop
              exact R4.drop.drop.push R4.headv
            · cases e4 : rc δ with
              | stuck => simp only [e4] at hP; exact hP
              | ex w =>
                simp only [e4] at hP
                exact fun c d Hd' H' R' s' xa => hP c d Hd' H' R'.drop (((s1.trans s2).trans s3).trans s') xa
              | ok w =>
                simp only [e4] at hP
                intro vw Hd4 H4 R4 s4
                cases e5 : g' y w with
                | none => rw [e5] at hP; exact (show False from hP).elim
                | some u =>
                  rw [e5] at hP
                  exact hg' C Hd4 H4 _ _ vy vw y w u Q R4 e5 fun v' Hd5 H5 R5 s5 => hP v' Hd5 H5 R5 ((((s1.trans s2).trans s3).trans s4).trans s5)
        | _ => exact (show False from hP).elim
theorem pd_chain {op op' : CmpOp} {r r' : R2} {g g' : D → D → Option D} (hg : OpR X (compareOp op) r ∧ OpG T X r g) (hg' : OpR X (compareOp op') r' ∧ OpG T X r' g') (ha : PDE T X W a ra) (hb : PDE T X W b rb) (hc : PDE T X W c rc)
    (hm : lastMarks [op, op'] [b, c] = false := by with_unfolding_all rfl) : PDE T X W (.Compare a [op, op'] [b, c] pos) (rChain g g' ra rb rc) := by
  obtain ⟨ta, pa, sa⟩ := ha
  obtain ⟨tb, pb, sb⟩ := hb
  obtain ⟨tc, pc, sc⟩ := hc
  exact ⟨_, pe_chain hg.1 hg'.1 pa pb pc hm, snd_chain hg.2 hg'.2 sa sb sc⟩
theorem pdt_chain {op op' : CmpOp} {r r' : R2} {g g' : D → D → Option D} (hg : OpR X (compareOp op) r ∧ OpG T X r g) (hg' : OpR X (compareOp op') r' ∧ OpG T X r' g') (ha : PDE T X W a ra) (hb : PDE T X W b rb) (hc : PDE T X W c rc)
    (hm : lastMarks [op, op'] [b, c] = false := by with_unfolding_all rfl) : PDT T X W (.Compare a [op, op'] [b, c] pos) (rT (rChain g g' ra rb rc)) := by
  obtain ⟨ta, pa, sa⟩ := ha
  obtain ⟨tb, pb, sb⟩ := hb
  obtain ⟨tc, pc, sc⟩ := hc
  exact ⟨_, pt_chain hg.1 hg'.1 pa pb pc hm, sndT_of (snd_chain hg.2 hg'.2 sa sb sc)⟩
/-! ### and, or, not -/
def rAndT (qa qb : DT) : DT := fun δ => (qa δ).bind fun b => if b = true then qb δ else .ok false
def rOrT (qa qb : DT) : DT := fun δ => (qa δ).bind fun b => if b = true then .ok true else qb δ
def rNotT (qa : DT) : DT := fun δ => (qa δ).bind fun b => .ok (!b)
theorem sndT_if {tA tB' : TT} {k : Bool} (ha : SndT T X W tA qa) (hb : SndT T X W tB' qb) : SndT T X W (fun σ H Q => tA σ H fun c H1 => if c = k then tB' σ H1 Q else Q (!k) H1) (fun δ => (qa δ).bind fun b => if b = k then qb δ else .ok (!k)) := by
  intro C Hd H ws ss σ δ Q hl hR hP
  refine ha C Hd H ws ss σ δ _ hl hR ?_
  cases e1 : qa δ with
  | stuck => simp only [e1, Out.bind] at hP; exact hP
  | ex x => simp only [e1, Out.bind] at hP; exact hP
  | ok b =>
    simp only [e1, Out.bind] at hP
    intro Hd1 H1 R1 s1
    by_cases hk : b = k
    · rw [if_pos hk] at hP ⊢
      exact hb C Hd1 H1 ws ss σ δ _ hl R1 (hP.at s1)
    · rw [if_neg hk] at hP ⊢
      exact hP Hd1 H1 R1 s1
theorem sndT_and {tA tB' : TT} (ha : SndT T X W tA qa) (hb : SndT T X W tB' qb) : SndT T X W (tAnd tA tB') (rAndT qa qb) := sndT_if (k := true) ha hb
theorem sndT_or {tA tB' : TT} (ha : SndT T X W tA qa) (hb : SndT T X W tB' qb) : SndT T X W (tOr tA tB') (rOrT qa qb) := by
  intro C Hd H ws ss σ δ Q hl hR hP
  refine ha C Hd H ws ss σ δ _ hl hR ?_
  unfold rOrT at hP
  cases e1 : qa δ with
  | stuck => simp only [e1, Out.bind] at hP; exact hP
  | ex x => simp only [e1, Out.bind] at hP; exact hP
  | ok b =>
    simp only [e1, Out.bind] at hP
    intro Hd1 H1 R1 s1
    by_cases hk : b = true
    · rw [if_pos hk] at hP ⊢
      exact hP Hd1 H1 R1 s1
    · rw [if_neg hk] at hP ⊢
      exact hb C Hd1 H1 ws ss σ δ _ hl R1 (hP.at s1)
theorem sndT_not {tA : TT} (ha : SndT T X W tA qa) : SndT T X W (tNot tA) (rNotT qa) := by
  intro C Hd H ws ss σ δ Q hl hR hP
  refine ha C Hd H ws ss σ δ _ hl hR ?_
  unfold rNotT at hP
  cases e1 : qa δ with
  | stuck => simp only [e1, Out.bind] at hP; exact hP
  | ex x => simp only [e1, Out.bind] at hP; exact hP
  | ok b => simp only [e1, Out.bind] at hP; exact hP
theorem pdw_and1 (ha : PDT T X W a qa) : PDW T X W (.BoolOp .And [a] pos) qa := let ⟨t, p, s⟩ := ha; ⟨_, pw_and1 p, s⟩
theorem pdw_or1 (ha : PDT T X W a qa) : PDW T X W (.BoolOp .Or [a] pos) qa := let ⟨t, p, s⟩ := ha; ⟨_, pw_or1 p, s⟩
theorem pdw_and (ha : PDT T X W a qa) (hb : PDW T X W (.BoolOp .And (b :: rest) pos) qb) : PDW T X W (.BoolOp .And (a :: b :: rest) pos) (rAndT qa qb) := let ⟨t, p, s⟩ := ha; let ⟨t', p', s'⟩ := hb; ⟨_, pw_and p p', sndT_and s s'⟩
theorem pdw_or (ha : PDT T X W a qa) (hb : PDW T X W (.BoolOp .Or (b :: rest) pos) qb) : PDW T X W (.BoolOp .Or (a :: b :: rest) pos) (rOrT qa qb) := let ⟨t, p, s⟩ := ha; let ⟨t', p', s'⟩ := hb; ⟨_, pw_or p p', sndT_or s s'⟩
theorem PDW.t (h : PDW T X W e qa) : PDT T X W e qa := let ⟨t, p, s⟩ := h; ⟨_, p.pt, s⟩
theorem pdt_not (ha : PDT T X W a qa) : PDT T X W (.UnaryOp .Not a pos) (rNotT qa) := let ⟨t, p, s⟩ := ha; ⟨_, pt_not p, sndT_not s⟩
/-- as values -/
def rAnd (ra rb : DE) : DE := fun δ => (ra δ).bind fun x => (dB x).bind fun b => if b = true then rb δ else .ok (.bl false)
def rOr (ra rb : DE) : DE := fun δ => (ra δ).bind fun x => (dB x).bind fun b => if b = true then .ok (.bl true) else rb δ
def rNot (ra : DE) : DE := fun δ => (ra δ).bind fun x => (dB x).bind fun b => .ok (.bl (!b))
theorem pd_one {op : BoolOp} (ha : PDE T X W a ra) : PDE T X W (.BoolOp op [a] pos) ra := let ⟨t, p, s⟩ := ha; ⟨_, pe_one p, s⟩
theorem pd_and (ha : PDE T X W a ra) (hb : PDE T X W (.BoolOp .And (b :: rest) pos) rb) : PDE T X W (.BoolOp .And (a :: b :: rest) pos) (rAnd ra rb) := by
  obtain ⟨ta, pa, sa⟩ := ha
  obtain ⟨tb, pb, sb⟩ := hb
  refine ⟨_, pe_and pa pb, ?_⟩
  intro C Hd H ws ss σ δ Q hl hR hP
  unfold rAnd at hP
  refine sa C Hd H ws ss σ δ _ hl hR ?_
  cases e1 : ra δ with
  | stuck => simp only [e1, Out.bind] at hP; exact hP
  | ex x => simp only [e1, Out.bind] at hP; exact hP
  | ok x =>
    simp only [e1, Out.bind] at hP
    intro vx Hd1 H1 R1 s1
    cases x with
    | bl k =>
      have m := R1.headv
      cases m
      refine ⟨k, rfl, ?_⟩
      cases k with
      | true =>
        simp only [dB, if_true] at hP ⊢
        exact sb C Hd1 H1 ws ss σ δ Q hl R1.drop (hP.at s1)
      | false =>
        simp only [dB, Bool.false_eq_true, if_false] at hP ⊢
        exact hP _ _ _ R1 s1
    | _ => exact (show False from hP).elim
theorem pd_or (ha : PDE T X W a ra) (hb : PDE T X W (.BoolOp .Or (b :: rest) pos) rb) : PDE T X W (.BoolOp .Or (a :: b :: rest) pos) (rOr ra rb) := by
  obtain ⟨ta, pa, sa⟩ := ha
  obtain ⟨tb, pb, sb⟩ := hb
  refine ⟨_, pe_or pa pb, ?_⟩
  intro C Hd H ws ss σ δ Q hl hR hP
  unfold rOr at hP
  refine sa C Hd H ws ss σ δ _ hl hR ?_
  cases e1 : ra δ with
  | stuck => simp only [e1, Out.bind] at hP; exact hP
  | ex x => simp only [e1, Out.bind] at hP; exact hP
  | ok x =>
    simp only [e1, Out.bind] at hP
    intro vx Hd1 H1 R1 s1
    cases x with
    | bl k =>
      have m := R1.headv
      cases m
      refine ⟨k, rfl, ?_⟩
      cases k with
      | false =>
        simp only [dB, Bool.false_eq_true, if_false] at hP ⊢
        exact sb C Hd1 H1 ws ss σ δ Q hl R1.drop (hP.at s1)
      | true =>
        simp only [dB, if_true] at hP ⊢
        exact hP _ _ _ R1 s1
    | _ => exact (show False from hP).elim
theorem pd_not (ha : PDE T X W a ra) : PDE T X W (.UnaryOp .Not a pos) (rNot ra) := by
  obtain ⟨ta, pa, sa⟩ := ha
  refine ⟨_, pe_not pa, ?_⟩
  intro C Hd H ws ss σ δ Q hl hR hP
  unfold rNot at hP
  refine sa C Hd H ws ss σ δ _ hl hR ?_
  cases e1 : ra δ with
  | stuck => simp only [e1, Out.bind] at hP; exact hP
  | ex x => simp only [e1, Out.bind] at hP; exact hP
  | ok x =>
    simp only [e1, Out.bind] at hP
    intro vx Hd1 H1 R1 s1
    cases x with
    | bl k =>
      have m := R1.headv
      cases m
      exact ⟨k, rfl, hP _ _ _ (R1.drop.push (.bl _)) s1⟩
    | _ => exact (show False from hP).elim
/-- a if t else b -/
def rIfE (q : DT) (ra rb : DE) : DE := fun δ => (q δ).bind fun b => if b = true then ra δ else rb δ
theorem pd_ife {c : Expr} (hc : PDT T X W c qa) (ha : PDE T X W a ra) (hb : PDE T X W b rb) : PDE T X W (.IfExp c a b pos) (rIfE qa ra rb) := by
  obtain ⟨tc, pc, sc⟩ := hc
  obtain ⟨ta, pa, sa⟩ := ha
  obtain ⟨tb, pb, sb⟩ := hb
  refine ⟨_, pe_ifExp pc pa pb, ?_⟩
  intro C Hd H ws ss σ δ Q hl hR hP
  unfold rIfE at hP
  refine sc C Hd H ws ss σ δ _ hl hR ?_
  cases e1 : qa δ with
  | stuck => simp only [e1, Out.bind] at hP; exact hP
  | ex x => simp only [e1, Out.bind] at hP; exact hP
  | ok k =>
    simp only [e1, Out.bind] at hP
    intro Hd1 H1 R1 s1
    cases k with
    | true => simp only [if_true] at hP ⊢; exact sa C Hd1 H1 ws ss σ δ Q hl R1 (hP.at s1)
    | false => simp only [Bool.false_eq_true, if_false] at hP ⊢; exact sb C Hd1 H1 ws ss σ δ Q hl R1 (hP.at s1)
/-! ### argument lists, displays -/
variable {es : List Expr} {rl : DA}
def rNil : DA := fun _ => .ok []
def rCons (ra : DE) (rl : DA) : DA := fun δ => (ra δ).bind fun x => (rl δ).bind fun xs => .ok (x :: xs)
theorem pda_nil : PDA T X W [] rNil := ⟨_, pa_nil, fun C Hd H ws ss σ δ Q hl hR hP => hP [] Hd H hR .nil (.refl _)⟩
theorem pda_cons (ha : PDE T X W e re) (hr : PDA T X W es rl) (hs : starEach (e :: es) X.env = (false, eval e X.env) :: starEach es X.env := by rfl) : PDA T X W (e :: es) (rCons re rl) := by
  obtain ⟨ta, pa, sa⟩ := ha
  obtain ⟨tb, pb, sb⟩ := hr
  refine ⟨_, pa_cons pa pb hs, ?_⟩
  intro C Hd H ws ss σ δ Q hl hR hP
  unfold rCons at hP
  refine sa C Hd H ws ss σ δ _ hl hR ?_
  cases e1 : re δ with
  | stuck => simp only [e1, Out.bind] at hP; exact hP
  | ex x => simp only [e1, Out.bind] at hP; exact hP
  | ok x =>
    simp only [e1, Out.bind] at hP
    intro vx Hd1 H1 R1 s1
    refine sb C Hd1 H1 (some vx :: ws) (.d x :: ss) σ δ _ (by simp [hl]) R1 ?_
    cases e2 : rl δ with
    | stuck => simp only [e2] at hP; exact hP
    | ex y =>
      simp only [e2] at hP
      exact fun c d Hd' H' R' s' xa => hP c d Hd' H' R'.drop (s1.trans s') xa
    | ok ys =>
      simp only [e2] at hP
      intro vs Hd2 H2 R2 l2 s2
      exact hP (vx :: vs) Hd2 H2 R2.drop (.cons R2.headv l2) (s1.trans s2)
def rTup (rl : DA) : DE := fun δ => (rl δ).bind fun xs => if xs.length ≤ 16777216 then .ok (.tup xs) else .stuck
def rLst (rl : DA) : DE := fun δ => (rl δ).bind fun xs => if xs.length ≤ 16777216 then .ok (.lst xs) else .stuck
theorem pd_tup {k : Nat} (hr : PDA T X W es rl) : PDE T X W (.Tuple es k pos) (rTup rl) := by
  obtain ⟨tb, pb, sb⟩ := hr
  refine ⟨_, pe_tup pb, ?_⟩
  intro C Hd H ws ss σ δ Q hl hR hP
  unfold rTup at hP
  refine sb C Hd H ws ss σ δ _ hl hR ?_
  cases e1 : rl δ with
  | stuck => simp only [e1, Out.bind] at hP; exact hP
  | ex x => simp only [e1, Out.bind] at hP; exact hP
  | ok xs =>
    simp only [e1, Out.bind] at hP
    intro vs Hd1 H1 R1 l1 s1
    by_cases hz : xs.length ≤ 16777216
    · rw [if_pos hz] at hP
      exact ⟨by rw [l1.length, sizeLine_eq]; exact hz, fun p hp => hP _ _ _ (R1.newT hp l1) (s1.trans (same_new hp))⟩
    · rw [if_neg hz] at hP; exact hP.elim
theorem pd_lst (hr : PDA T X W es rl) : PDE T X W (.List es pos) (rLst rl) := by
  obtain ⟨tb, pb, sb⟩ := hr
  refine ⟨_, pe_lst pb, ?_⟩
  intro C Hd H ws ss σ δ Q hl hR hP
  unfold rLst at hP
  refine sb C Hd H ws ss σ δ _ hl hR ?_
  cases e1 : rl δ with
  | stuck => simp only [e1, Out.bind] at hP; exact hP
  | ex x => simp only [e1, Out.bind] at hP; exact hP
  | ok xs =>
    simp only [e1, Out.bind] at hP
    intro vs Hd1 H1 R1 l1 s1
    by_cases hz : xs.length ≤ 16777216
    · rw [if_pos hz] at hP
      exact ⟨by rw [l1.length, sizeLine_eq]; exact hz, fun p hp => hP _ _ _ (R1.newL hp l1) (s1.trans (same_new hp))⟩
    · rw [if_neg hz] at hP; exact hP.elim
/-! ### built-ins -/
def CallG (T : Tab) (X : Cx) (r : List V → Hp → VK → Prop) (g : List D → Option D) : Prop := ∀ (C : Ctx) (Hd H : Hp) (ρw : L2.St) (ρs : Env) (vs : List V) (ds : List D) (z : D) (Q : VK), Rel X.K T C Hd H ρw ρs → ImL X.K T Hd vs ds → g ds = some z →
  (∀ v Hd' H', Rel X.K T C Hd' H' (some v :: ρw) (.d z :: ρs) → Same H H' → Q v H') → r vs H Q
def rB (g : List D → Option D) (rl : DA) : DE := fun δ => (rl δ).bind fun xs => ofO (g xs)
theorem snd_B {r : List V → Hp → VK → Prop} {g : List D → Option D} {t : TA} (hg : CallG T X r g) (sb : ∀ (C : Ctx) (Hd H : Hp) (ws : L2.St) (ss : Env) (σ : L2.St) (δ : Env) (Q : List V → Hp → Prop), ws.length = ss.length → Rel X.K T C Hd H (ws ++ σ) (ss ++ δ) →
    APost X.K T C σ W (ws ++ σ) (ss ++ δ) H (rl δ) Q → t σ H Q) : Snd T X W (tCB r t) (rB g rl) := by
  intro C Hd H ws ss σ δ Q hl hR hP
  unfold rB at hP
  refine sb C Hd H ws ss σ δ _ hl hR ?_
  cases e1 : rl δ with
  | stuck => simp only [e1, Out.bind] at hP; exact hP
  | ex x => simp only [e1, Out.bind] at hP; exact hP
  | ok xs =>
    simp only [e1, Out.bind] at hP
    intro vs Hd1 H1 R1 l1 s1
    cases e2 : g xs with
    | none => rw [e2] at hP; exact (show False from hP).elim
    | some z =>
      rw [e2] at hP
      exact hg C Hd1 H1 _ _ vs xs z Q R1 l1 e2 fun v Hd' H' R' s' => hP v Hd' H' R' (s1.trans s')
theorem pd_B {x : Str} {id : String} {p : Pos} {r : List V → Hp → VK → Prop} {g : List D → Option D} (hg : CallR X (.builtin id) r ∧ CallG T X r g) (hgl : Gl X x) (hm : X.mg x = none) (hv : bootBuiltins x = some (.builtin id)) (ha : PDA T X W (e :: es) rl)
    (hn : x ≠ "__name__" := by decide) (hdb : (x == ("__debug__" : Str)) = false := by decide) (he : starEach (e :: es) X.env = (false, eval e X.env) :: starEach es X.env := by rfl) (hpl : (backTo pos (starEach es X.env)).any (·.1) = false := by rfl) :
    PDE T X W (.Call (.Name x p) (e :: es) [] pos) (rB g rl) := by
  obtain ⟨tb, pb, sb⟩ := ha
  exact ⟨_, pe_callB hg.1 hgl hm hv pb hn hdb he hpl, snd_B hg.2 sb⟩
theorem pd_Ty {x : Str} {id : String} {p : Pos} {r : List V → Hp → VK → Prop} {g : List D → Option D} (hg : CallR X (.type id) r ∧ CallG T X r g) (hgl : Gl X x) (hm : X.mg x = none) (hv : bootBuiltins x = some (.type id)) (ha : PDA T X W (e :: es) rl)
    (hn : x ≠ "__name__" := by decide) (hdb : (x == ("__debug__" : Str)) = false := by decide) (he : starEach (e :: es) X.env = (false, eval e X.env) :: starEach es X.env := by rfl) (hpl : (backTo pos (starEach es X.env)).any (·.1) = false := by rfl) :
    PDE T X W (.Call (.Name x p) (e :: es) [] pos) (rB g rl) := by
  obtain ⟨tb, pb, sb⟩ := ha
  exact ⟨_, pe_callTy hg.1 hgl hm hv pb hn hdb he hpl, snd_B hg.2 sb⟩
def d1 (g : D → Option D) : List D → Option D
  | [x] => g x
  | _ => none
def d2 (g : D → D → Option D) : List D → Option D
  | [x, y] => g x y
  | _ => none
theorem cg_one {r : List V → Hp → VK → Prop} {g : D → Option D} (h : ∀ (C : Ctx) (Hd H : Hp) (ρw : L2.St) (ρs : Env) (v : V) (x z : D) (Q : VK), Rel X.K T C Hd H ρw ρs → Im X.K T Hd v x → g x = some z →
    (∀ v Hd' H', Rel X.K T C Hd' H' (some v :: ρw) (.d z :: ρs) → Same H H' → Q v H') → r [v] H Q) : CallG T X r (d1 g) := by
  intro C Hd H ρw ρs vs ds z Q R l hz k
  cases l with
  | nil => exact nomatch hz
  | cons h1 t =>
    cases t with
    | cons _ _ => exact nomatch hz
    | nil => exact h C Hd H ρw ρs _ _ z Q R h1 hz k
theorem cg_two {r : List V → Hp → VK → Prop} {g : D → D → Option D} (h : ∀ (C : Ctx) (Hd H : Hp) (ρw : L2.St) (ρs : Env) (v w : V) (x y z : D) (Q : VK), Rel X.K T C Hd H ρw ρs → Im X.K T Hd v x → Im X.K T Hd w y → g x y = some z →
    (∀ v Hd' H', Rel X.K T C Hd' H' (some v :: ρw) (.d z :: ρs) → Same H H' → Q v H') → r [v, w] H Q) : CallG T X r (d2 g) := by
  intro C Hd H ρw ρs vs ds z Q R l hz k
  cases l with
  | nil => exact nomatch hz
  | cons h1 t =>
    cases t with
    | nil => exact nomatch hz
    | cons h2 t2 =>
      cases t2 with
      | cons _ _ => exact nomatch hz
      | nil => exact h C Hd H ρw ρs _ _ _ _ z Q R h1 h2 hz k
def dLen : List D → Option D := d1 fun
  | .str cs => if cs.length ≤ 16777216 then some (.int cs.length) else none
  | .lst xs => some (.int xs.length)
  | .tup xs => some (.int xs.length)
  | _ => none
theorem cg_len : CallR X (.builtin "len") (fun xs H Q => ∃ x n, xs = [x] ∧ LenV X.K x H n ∧ Q (.int n) H) ∧ CallG T X (fun xs H Q => ∃ x n, xs = [x] ∧ LenV X.K x H n ∧ Q (.int n) H) dLen := by
  refine ⟨call_len, cg_one ?_⟩
  intro C Hd H ρw ρs v x z Q R h hz k
  cases h with
  | str cs =>
    dsimp only at hz
    by_cases hl : cs.length ≤ 16777216
    · rw [if_pos hl] at hz
      cases hz
      exact ⟨_, cs.length, rfl, ⟨by rw [mkS_length, sizeLine_eq]; exact hl, by rw [mkS_length]⟩, k _ Hd H (R.push (.int _)) (.refl _)⟩
    · rw [if_neg hl] at hz; cases hz
  | lst h1 l1 =>
    cases hz
    exact ⟨_, _, rfl, .inl ⟨_, .inl (same_rd R.bas.sub h1), rfl⟩, k _ Hd H (R.push (by rw [l1.length]; exact .int _)) (.refl _)⟩
  | tup h1 l1 =>
    cases hz
    exact ⟨_, _, rfl, .inr ⟨_, same_t R.bas.sub h1, rfl⟩, k _ Hd H (R.push (by rw [l1.length]; exact .int _)) (.refl _)⟩
  | _ => cases hz
def dAbs : List D → Option D := d1 fun
  | .int i => some (.int (if i < 0 then -i else i))
  | _ => none
theorem cg_abs : CallR X (.builtin "abs") (fun xs H Q => ∃ i, xs = [.int i] ∧ Q (.int (if i < 0 then -i else i)) H) ∧ CallG T X (fun xs H Q => ∃ i, xs = [.int i] ∧ Q (.int (if i < 0 then -i else i)) H) dAbs := by
  refine ⟨call_abs, cg_one ?_⟩
  intro C Hd H ρw ρs v x z Q R h hz k
  cases h with
  | int i => cases hz; exact ⟨i, rfl, k _ Hd H (R.push (.int _)) (.refl _)⟩
  | _ => cases hz
def dMax2 : List D → Option D := d2 (dI fun i j => some (.int (if j > i then j else i)))
theorem cg_max2 (hc : X.calm = true) : CallR X (.builtin "max") (fun xs H Q => ∃ i j, xs = [.int i, .int j] ∧ Q (.int (if j > i then j else i)) H) ∧ CallG T X (fun xs H Q => ∃ i j, xs = [.int i, .int j] ∧ Q (.int (if j > i then j else i)) H) dMax2 := by
  refine ⟨call_max2 hc, cg_two ?_⟩
  intro C Hd H ρw ρs v w x y z Q R h h' hz k
  cases h with
  | int i =>
    cases h' with
    | int j => cases hz; exact ⟨i, j, rfl, k _ Hd H (R.push (.int _)) (.refl _)⟩
    | _ => cases hz
  | _ => cases h' <;> cases hz
def dToInt : List D → Option D := d1 fun
  | .int i => some (.int i)
  | .bl b => some (.int (if b then 1 else 0))
  | _ => none
def rToInt : List V → Hp → VK → Prop := fun xs H Q => (∃ i, xs = [.int i] ∧ Q (.int i) H) ∨ ∃ k, xs = [.bl k] ∧ Q (.int (if k then 1 else 0)) H
theorem cg_toInt : CallR X (.type "int") rToInt ∧ CallG T X rToInt dToInt := by
  refine ⟨call_int1, cg_one ?_⟩
  intro C Hd H ρw ρs v x z Q R h hz k
  cases h with
  | int i => cases hz; exact .inl ⟨i, rfl, k _ Hd H (R.push (.int _)) (.refl _)⟩
  | bl b => cases hz; exact .inr ⟨b, rfl, k _ Hd H (R.push (.int _)) (.refl _)⟩
  | _ => cases hz
/-- list(x), tuple(x) of a list or a tuple -/
def dList : List D → Option D := d1 fun
  | .lst xs => some (.lst xs)
  | .tup xs => some (.lst xs)
  | _ => none
def dTuple : List D → Option D := d1 fun
  | .lst xs => some (.tup xs)
  | .tup xs => some (.tup xs)
  | _ => none
theorem cg_list : CallR X (.type "list") (fun xs H Q => ∃ p ys, xs = [.ref p] ∧ (SqL X.K H p ys ∨ SqT X.K H p ys) ∧ ∀ l, H l = none → Q (.ref l) (upd H l (.lst ys))) ∧ CallG T X (fun xs H Q => ∃ p ys, xs = [.ref p] ∧ (SqL X.K H p ys ∨ SqT X.K H p ys) ∧ ∀ l, H l = none → Q (.ref l) (upd H l (.lst ys))) dList := by
  refine ⟨call_list_of, cg_one ?_⟩
  intro C Hd H ρw ρs v x z Q R h hz k
  cases h with
  | lst h1 l1 => cases hz; exact ⟨_, _, rfl, .inl (.inl (same_rd R.bas.sub h1)), fun p hp => k _ _ _ (R.newL hp l1) (same_new hp)⟩
  | tup h1 l1 => cases hz; exact ⟨_, _, rfl, .inr (same_t R.bas.sub h1), fun p hp => k _ _ _ (R.newL hp l1) (same_new hp)⟩
  | _ => cases hz
theorem cg_tuple : CallR X (.type "tuple") (fun xs H Q => ∃ p ys, xs = [.ref p] ∧ ((SqL X.K H p ys ∧ ∀ l, H l = none → Q (.ref l) (upd H l (.tup ys))) ∨ (SqT X.K H p ys ∧ Q (.ref p) H))) ∧
    CallG T X (fun xs H Q => ∃ p ys, xs = [.ref p] ∧ ((SqL X.K H p ys ∧ ∀ l, H l = none → Q (.ref l) (upd H l (.tup ys))) ∨ (SqT X.K H p ys ∧ Q (.ref p) H))) dTuple := by
  refine ⟨call_tuple_of, cg_one ?_⟩
  intro C Hd H ρw ρs v x z Q R h hz k
  cases h with
  | lst h1 l1 => cases hz; exact ⟨_, _, rfl, .inl ⟨.inl (same_rd R.bas.sub h1), fun p hp => k _ _ _ (R.newT hp l1) (same_new hp)⟩⟩
  | tup h1 l1 => cases hz; exact ⟨_, _, rfl, .inr ⟨same_t R.bas.sub h1, k _ Hd H (R.push (.tup h1 l1)) (.refl _)⟩⟩
  | _ => cases hz
/-! ### calls of the program's defs that change nothing -/
def spP (K : PySem.W.Frag) (T : Tab) (n : Nat) (G : List D → Out D) : Sp := fun vs H Q E => ∃ Hd ds, Bas Hd H ∧ ImL K T Hd vs ds ∧ ds.length = n ∧ (match G ds with
  | .ok d => ∀ v Hd' H', Bas Hd' H' → Keep [] Hd H Hd' H' → Im K T Hd' v d → Q v H'
  | .ex x => ∀ cls dx Hd' H', Bas Hd' H' → Keep [] Hd H Hd' H' → XAt T H' cls dx x → E cls dx H'
  | .stuck => False)
theorem spP_len {K : PySem.W.Frag} {n : Nat} {G : List D → Out D} {vs : List V} {H : Hp} {Q : VK} {E : XK} (h : spP K T n G vs H Q E) : vs.length = n := by
  obtain ⟨Hd, ds, _, l, e, _⟩ := h
  rw [l.length, e]
def rCall (n : Nat) (G : List D → Out D) (dds : List D) (rl : DA) : DE := fun δ => (rl δ).bind fun xs => if (xs ++ dds).length = n then G (xs ++ dds) else .stuck
theorem snd_call {n : Nat} {G : List D → Out D} {dds : List D} {dvs : List V} {t : TA} (hd : ∀ H, ImL X.K T H dvs dds) (sb : ∀ (C : Ctx) (Hd H : Hp) (ws : L2.St) (ss : Env) (σ : L2.St) (δ : Env) (Q : List V → Hp → Prop), ws.length = ss.length → Rel X.K T C Hd H (ws ++ σ) (ss ++ δ) →
    APost X.K T C σ W (ws ++ σ) (ss ++ δ) H (rl δ) Q → t σ H Q) : Snd T X W (tCallSD (spP X.K T n G) dvs (WE W) t) (rCall n G dds rl) := by
  intro C Hd H ws ss σ δ Q hl hR hP
  unfold rCall at hP
  refine sb C Hd H ws ss σ δ _ hl hR ?_
  cases e1 : rl δ with
  | stuck => simp only [e1, Out.bind] at hP; exact hP
  | ex x => simp only [e1, Out.bind] at hP; exact hP
  | ok xs =>
    simp only [e1, Out.bind] at hP
    intro vs Hd1 H1 R1 l1 s1
    by_cases hn : (xs ++ dds).length = n
    · rw [if_pos hn] at hP
      refine ⟨Hd1, xs ++ dds, R1.bas, l1.append (hd Hd1), hn, ?_⟩
      cases e2 : G (xs ++ dds) with
      | stuck => rw [e2] at hP; exact hP
      | ex x =>
        rw [e2] at hP
        exact fun cls dx Hd' H' b k xa => hP cls dx Hd' H' (R1.on b k) (s1.trans k.same) xa
      | ok d =>
        rw [e2] at hP
        exact fun v Hd' H' b k m => hP v Hd' H' ((R1.on b k).push m) (s1.trans k.same)
    · rw [if_neg hn] at hP; exact hP.elim
theorem pd_call {k n : Nat} {f : Addr} {fd : FuncData} {ps : List Str} {G : List D → Out D} {dds : List D} {dvs : List V} {dws : List Value} {x : Str} {p : Pos} (tk : Takes X W) (F : FnOk X.prog X.w X.K X.mg X.base (L2.CX X.prog X.w) k f fd ps (spP X.K T n G)) (hr : Room k X.A) (hg : Gl X x) (hm : X.mg x = some (.ref f))
    (hk : PySem.W.keepIn X.K (.ref f) = true) (hb : Binds X.K fd ps dws) (hdv : Vals dvs dws) (hd : ∀ H, ImL X.K T H dvs dds) (ha : PDA T X W (e :: es) rl) (hdb : (x == ("__debug__" : Str)) = false := by decide)
    (he : starEach (e :: es) X.env = (false, eval e X.env) :: starEach es X.env := by rfl) (hpl : (backTo pos (starEach es X.env)).any (·.1) = false := by rfl) : PDE T X W (.Call (.Name x p) (e :: es) [] pos) (rCall n G dds rl) := by
  obtain ⟨tb, pb, sb⟩ := ha
  exact ⟨_, pe_callSD F hr hg hm hk hb hdv (fun σ => passAt tk σ) pb hdb he hpl, snd_call hd sb⟩
end
end L2.DL

/-! ## DL5 -/
set_option linter.all false
set_option maxRecDepth 100000
set_option maxHeartbeats 4000000
/-! DL5: statements, loops, comprehensions. -/
namespace L2.DL
open PySem PySem.Spec PyProof.Rows L2
/-- a statement's outcome -/
inductive SO where
  | nx (δ : Env) | rt (d : D) (δ : Env) | ro (t : OT) (δ : Env) | bk (δ : Env) | ct (δ : Env) | ex (x : XD) (δ : Env) | stuck
abbrev DS := Env → SO
def RelO (K : PySem.W.Frag) (T : Tab) (C : Ctx) (Hd H : Hp) (v : V) (t : OT) (ws : L2.St) (ss : Env) : Prop := Rel K T C Hd H (some v :: ws) (.own none t :: ss)
def SPost (K : PySem.W.Frag) (T : Tab) (C : Ctx) (W : WX) (ws : L2.St) (ss : Env) (o : SO) (D : Ends) : Prop := match o with
  | .nx δ' => ∀ Hd' H' σ', Rel K T C Hd' H' (ws ++ σ') (ss ++ δ') → D.nx σ' H'
  | .bk δ' => ∀ Hd' H' σ', Rel K T C Hd' H' (ws ++ σ') (ss ++ δ') → D.bk σ' H'
  | .ct δ' => ∀ Hd' H' σ', Rel K T C Hd' H' (ws ++ σ') (ss ++ δ') → D.ct σ' H'
  | .rt d δ' => ∀ v Hd' H' σ', Rel K T C Hd' H' (some v :: (ws ++ σ')) (.d d :: (ss ++ δ')) → D.rt v H'
  | .ro t δ' => ∀ v Hd' H' σ', Rel K T C Hd' H' (some v :: (ws ++ σ')) (.own none t :: (ss ++ δ')) → D.rt v H'
  | .ex x δ' => ∀ cls dx Hd' H' σ', Rel K T C Hd' H' (ws ++ σ') (ss ++ δ') → XAt T H' cls dx x → W cls dx σ' H'
  | .stuck => False
def SndS (T : Tab) (X : Cx) (W : WX) (t : TS) (r : DS) : Prop := ∀ (C : Ctx) (Hd H : Hp) (ws : L2.St) (ss : Env) (σ : L2.St) (δ : Env) (D : Ends), ws.length = ss.length → Rel X.K T C Hd H (ws ++ σ) (ss ++ δ) → SPost X.K T C W ws ss (r δ) D → t D σ H
structure PDS (T : Tab) (X : Cx) (W : WX) (st : Stmt) (r : DS) : Prop where
  ex : ∃ t, PS X st t ∧ SndS T X W t r
structure PDSs (T : Tab) (X : Cx) (W : WX) (st : List Stmt) (r : DS) : Prop where
  ex : ∃ t, PSs X st t ∧ SndS T X W t r
def sNext : DS := .nx
def sSeq (a b : DS) : DS := fun δ => match a δ with
  | .nx δ' => b δ'
  | o => o
/-- what an expression's outcome makes of a statement -/
def eS (o : Out D) (δ : Env) (k : D → SO) : SO := match o with
  | .ok d => k d
  | .ex x => .ex x δ
  | .stuck => .stuck
def tS (o : Out Bool) (δ : Env) (k : Bool → SO) : SO := match o with
  | .ok d => k d
  | .ex x => .ex x δ
  | .stuck => .stuck
def sSet (i : Nat) (re : DE) : DS := fun δ => eS (re δ) δ fun d => .nx (δ.set i (.d d))
def sDrop (re : DE) : DS := fun δ => eS (re δ) δ fun _ => .nx δ
def sRet (re : DE) : DS := fun δ => eS (re δ) δ fun d => .rt d δ
def sRetN : DS := fun δ => .rt .non δ
def sBreak : DS := .bk
def sCont : DS := .ct
def sIf (q : DT) (a b : DS) : DS := fun δ => tS (q δ) δ fun k => if k = true then a δ else b δ
/-- slots that the rest of the def does not read -/
def fgt : List Nat → Env → Env
  | [], δ => δ
  | i :: is, δ => (fgt is δ).set i .un
section
variable {T : Tab} {X : Cx} {W : WX} {a b c e : Expr} {st : Stmt} {rest body : List Stmt} {ra rb rc re : DE} {qa qb : DT} {s u : DS} {ta tb tc te : TE} {pos : Pos}
theorem Rel.store {K : PySem.W.Frag} {C : Ctx} {Hd H : Hp} {ws : L2.St} {ss : Env} {σ : L2.St} {δ : Env} {v : V} {x : D} (i : Nat) (hl : ws.length = ss.length) (R : Rel K T C Hd H (some v :: (ws ++ σ)) (.d x :: (ss ++ δ))) : Rel K T C Hd H (ws ++ σ.set i (some v)) (ss ++ δ.set i (.d x)) := by
  have h := R.drop.setd (ws.length + i) R.headv
  rw [List.set_append_right _ _ (by omega), List.set_append_right _ _ (by omega)] at h
  simpa [hl] using h
theorem Rel.fgt1 {K : PySem.W.Frag} {C : Ctx} {Hd H : Hp} {ws : L2.St} {ss : Env} {σ : L2.St} {δ : Env} (i : Nat) (w : Option V) (hl : ws.length = ss.length) (R : Rel K T C Hd H (ws ++ σ) (ss ++ δ)) : Rel K T C Hd H (ws ++ σ.set i w) (ss ++ δ.set i .un) := by
  have h := R.forget (ws.length + i) w
  rw [List.set_append_right _ _ (by omega), List.set_append_right _ _ (by omega)] at h
  simpa [hl] using h
theorem set_self {α : Type} : ∀ (l : List α) (i : Nat) (x : α), l[i]? = some x → l.set i x = l
  | [], _, _, h => by simp at h
  | a :: l, 0, x, h => by simp at h; subst h; rfl
  | a :: l, i + 1, x, h => by rw [List.set_cons_succ, set_self l i x (by simpa using h)]
theorem Rel.fgt {K : PySem.W.Frag} {C : Ctx} {Hd H : Hp} {ws : L2.St} {ss : Env} {σ : L2.St} {δ : Env} (hl : ws.length = ss.length) (R : Rel K T C Hd H (ws ++ σ) (ss ++ δ)) : ∀ is : List Nat, Rel K T C Hd H (ws ++ σ) (ss ++ L2.DL.fgt is δ)
  | [] => R
  | i :: is => by
    have h := Rel.fgt hl R is
    cases e : σ[i]? with
    | none =>
      have hn : (L2.DL.fgt is δ)[i]? = none := by
        have h1 := h.len
        rw [List.length_append, List.length_append] at h1
        rw [List.getElem?_eq_none_iff] at e ⊢
        omega
      show Rel K T C Hd H (ws ++ σ) (ss ++ (L2.DL.fgt is δ).set i .un)
      rw [List.set_eq_of_length_le (List.getElem?_eq_none_iff.mp hn)]
      exact h
    | some w =>
      have h2 := h.fgt1 i w hl
      rw [set_self σ i w e] at h2
      exact h2
theorem pdss_nil : PDSs T X W [] sNext := ⟨_, pss_nil, fun C Hd H ws ss σ δ D hl hR hP => hP Hd H σ hR⟩
theorem sndS_seq {t t' : TS} (ha : SndS T X W t s) (hb : SndS T X W t' u) : SndS T X W (tSeq t t') (sSeq s u) := by
  intro C Hd H ws ss σ δ D hl hR hP
  unfold sSeq at hP
  refine ha C Hd H ws ss σ δ _ hl hR ?_
  cases e : s δ with
  | nx δ' =>
    rw [e] at hP
    exact fun Hd' H' σ' R' => hb C Hd' H' ws ss σ' δ' D hl R' hP
  | _ => rw [e] at hP; exact hP
theorem pdss_cons (ha : PDS T X W st s) (hb : PDSs T X W rest u) : PDSs T X W (st :: rest) (sSeq s u) := let ⟨t, p, q⟩ := ha; let ⟨t', p', q'⟩ := hb; ⟨_, pss_cons p p', sndS_seq q q'⟩
theorem pdss_one (ha : PDS T X W st s) : PDSs T X W [st] s := let ⟨t, p, q⟩ := ha; ⟨_, pss_one p, q⟩
theorem pds_pass : PDS T X W (.Pass pos) sNext := ⟨_, ps_pass, fun C Hd H ws ss σ δ D hl hR hP => hP Hd H σ hR⟩
theorem pds_break : PDS T X W (.Break pos) sBreak := ⟨_, ps_break, fun C Hd H ws ss σ δ D hl hR hP => hP Hd H σ hR⟩
theorem pds_cont : PDS T X W (.Continue pos) sCont := ⟨_, ps_continue, fun C Hd H ws ss σ δ D hl hR hP => hP Hd H σ hR⟩
theorem sndS_e {k : D → Env → SO} {f : V → TS} (sa : Snd T X W te re) (h : ∀ (C : Ctx) (Hd H : Hp) (ws : L2.St) (ss : Env) (σ : L2.St) (δ : Env) (D : Ends) (v : V) (x : L2.DL.D), ws.length = ss.length → Rel X.K T C Hd H (some v :: (ws ++ σ)) (.d x :: (ss ++ δ)) → SPost X.K T C W ws ss (k x δ) D → f v D σ H) :
    SndS T X W (fun D σ H => te σ H fun v H1 => f v D σ H1) (fun δ => eS (re δ) δ fun d => k d δ) := by
  intro C Hd H ws ss σ δ D hl hR hP
  refine sa C Hd H ws ss σ δ _ hl hR ?_
  cases e : re δ with
  | stuck => simp only [e, eS] at hP; exact hP
  | ex x => simp only [e, eS] at hP; exact fun cls dx Hd' H' R' s' xa => hP cls dx Hd' H' σ R' xa
  | ok d => simp only [e, eS] at hP; exact fun v Hd' H' R' s' => h C Hd' H' ws ss σ δ D v d hl R' hP
theorem pds_set {i : Nat} {x : Str} {pos' : Pos} (hN : X.N.Nodup) (hi : X.N[i]? = some x) (hx : Loc X.env.scope x) (ha : PDE T X W e re) (hs : swapsWith e (some (.Name x pos')) pos.line X.env = pure false) (hf : X.fn x = true ∨ X.env.scope.names.lookup x = some .local := by first | exact .inl rfl | exact .inr rfl | assumption) :
    PDS T X W (.Assign [.Name x pos'] e pos) (sSet i re) := by
  obtain ⟨te, p, q⟩ := ha
  exact ⟨_, ps_set hN hi hx p hs hf, sndS_e (f := fun v D σ H => D.nx (σ.set i (some v)) H) (k := fun d δ => .nx (δ.set i (.d d))) q fun C Hd H ws ss σ δ D v x hl R hP => hP Hd H _ (R.store i hl)⟩
theorem pds_drop (ha : PDE T X W e re) (hs : swapsWith e none pos.line X.env = pure false := by rfl) : PDS T X W (.Expr e pos) (sDrop re) := by
  obtain ⟨te, p, q⟩ := ha
  exact ⟨_, ps_expr p hs, sndS_e (f := fun v D σ H => D.nx σ H) (k := fun d δ => .nx δ) q fun C Hd H ws ss σ δ D v x hl R hP => hP Hd H _ R.drop⟩
theorem pds_ret (ha : PDE T X W e re) : PDS T X W (.Return (some e) pos) (sRet re) := by
  obtain ⟨te, p, q⟩ := ha
  exact ⟨_, ps_ret p, sndS_e (f := fun v D σ H => D.rt v H) (k := fun d δ => .rt d δ) q fun C Hd H ws ss σ δ D v x hl R hP => hP v Hd H σ R⟩
theorem pds_retN : PDS T X W (.Return none pos) sRetN := ⟨_, ps_retN, fun C Hd H ws ss σ δ D hl hR hP => hP .non Hd H σ (hR.push .non)⟩
theorem pds_if {c : Expr} {x y : List Stmt} (hc : PDT T X W c qa) (ha : PDSs T X W x s) (hb : PDSs T X W y u) : PDS T X W (.If c x y pos) (sIf qa s u) := by
  obtain ⟨tc, pc, sc⟩ := hc
  obtain ⟨t, p, q⟩ := ha
  obtain ⟨t', p', q'⟩ := hb
  refine ⟨_, ps_if pc p p', ?_⟩
  intro C Hd H ws ss σ δ D hl hR hP
  unfold sIf at hP
  refine sc C Hd H ws ss σ δ _ hl hR ?_
  cases e : qa δ with
  | stuck => simp only [e, tS] at hP; exact hP
  | ex x => simp only [e, tS] at hP; exact fun cls dx Hd' H' R' s' xa => hP cls dx Hd' H' σ R' xa
  | ok k =>
    simp only [e, tS] at hP
    intro Hd' H' R' s'
    cases k with
    | true => simp only [if_true] at hP ⊢; exact q C Hd' H' ws ss σ δ D hl R' hP
    | false => simp only [Bool.false_eq_true, if_false] at hP ⊢; exact q' C Hd' H' ws ss σ δ D hl R' hP
/-! ### targets -/
abbrev DG := D → Env → Option Env
/-- the slots that are set: forgotten, they leave what there was -/
def Tch (is : List Nat) (σ σ' : L2.St) : Prop := ∀ vs : List Nat, (∀ i ∈ is, i ∈ vs) → wipe σ' vs = wipe σ vs
theorem wipe_set {i : Nat} {w : Option V} {σ : L2.St} : ∀ {vs : List Nat}, i ∈ vs → wipe (σ.set i w) vs = wipe σ vs
  | [], h => by simp at h
  | v :: vs, h => by
    show (wipe (σ.set i w) vs).set v none = (wipe σ vs).set v none
    by_cases hv : i ∈ vs
    · rw [wipe_set hv]
    · have e : i = v := (List.mem_cons.mp h).resolve_right hv
      subst e
      have k : ∀ us : List Nat, i ∉ us → wipe (σ.set i w) us = (wipe σ us).set i w := by
        intro us
        induction us with
        | nil => intro _; rfl
        | cons u us ih =>
          intro hn
          simp only [List.mem_cons, not_or] at hn
          show (wipe (σ.set i w) us).set u none = ((wipe σ us).set u none).set i w
          rw [ih hn.2, List.set_comm _ _ hn.1]
      rw [k vs hv, List.set_set]
def DtgS (T : Tab) (X : Cx) (g : TG) (r : DG) (is : List Nat) : Prop := ∀ (C : Ctx) (Hd H : Hp) (ws : L2.St) (ss : Env) (σ : L2.St) (δ δ' : Env) (v : V) (x : D) (Q : L2.St → Hp → Prop), ws.length = ss.length → Rel X.K T C Hd H (some v :: (ws ++ σ)) (.d x :: (ss ++ δ)) → r x δ = some δ' →
    (∀ σ', Rel X.K T C Hd H (ws ++ σ') (ss ++ δ') → Tch is σ σ' → Q σ' H) → g v σ H Q
structure PDG (T : Tab) (X : Cx) (tg : Expr) (r : DG) (is : List Nat) : Prop where
  ex : ∃ g, PG X tg g ∧ DtgS T X g r is
def gtName (i : Nat) : DG := fun x δ => some (δ.set i (.d x))
theorem pdg_name {i : Nat} {x : Str} (hN : X.N.Nodup) (hi : X.N[i]? = some x) (hx : Loc X.env.scope x) (hf : X.fn x = true ∨ X.env.scope.names.lookup x = some .local := by first | exact .inl rfl | exact .inr rfl | assumption) : PDG T X (.Name x pos) (gtName i) [i] :=
  ⟨_, pg_name hN hi hx hf, fun C Hd H ws ss σ δ δ' v x Q hl R e k => by
    cases e
    exact k _ (R.store i hl) fun vs h => wipe_set (h i (by simp))⟩
structure PDGs (T : Tab) (X : Cx) (tgs : List Expr) (r : List D → Env → Option Env) (is : List Nat) : Prop where
  ex : ∃ g, PGs X tgs g ∧ ∀ (C : Ctx) (Hd H : Hp) (ws : L2.St) (ss : Env) (σ : L2.St) (δ δ' : Env) (vs : List V) (xs : List D) (Q : L2.St → Hp → Prop), ws.length = ss.length → Rel X.K T C Hd H (ws ++ σ) (ss ++ δ) → ImL X.K T Hd vs xs → r xs δ = some δ' →
    (∀ σ', Rel X.K T C Hd H (ws ++ σ') (ss ++ δ') → Tch is σ σ' → Q σ' H) → g vs σ H Q
def gtNil : List D → Env → Option Env
  | [], δ => some δ
  | _, _ => none
def gtCons (g : DG) (r : List D → Env → Option Env) : List D → Env → Option Env
  | x :: xs, δ => (g x δ).bind (r xs)
  | _, _ => none
theorem pdgs_nil : PDGs T X [] gtNil [] := ⟨_, pgs_nil, fun C Hd H ws ss σ δ δ' vs xs Q hl R l e k => by
  cases l with
  | nil => cases e; exact ⟨rfl, k _ R fun _ _ => rfl⟩
  | cons _ _ => cases e⟩
theorem pdgs_cons {es : List Expr} {g : DG} {r : List D → Env → Option Env} {is js : List Nat} (h1 : PDG T X e g is) (h2 : PDGs T X es r js) (hs : (assignEach (e :: es) X.env).map (·.2) = assign e X.env :: (assignEach es X.env).map (·.2) := by rfl) : PDGs T X (e :: es) (gtCons g r) (is ++ js) := by
  obtain ⟨t, p, q⟩ := h1
  obtain ⟨t', p', q'⟩ := h2
  refine ⟨_, pgs_cons p p' hs, fun C Hd H ws ss σ δ δ' vs xs Q hl R l e k => ?_⟩
  cases l with
  | nil => cases e
  | @cons v vs x xs h l =>
    have e : (g x δ).bind (r xs) = some δ' := e
    cases e1 : g x δ with
    | none => rw [e1] at e; cases e
    | some δ1 =>
      rw [e1] at e
      refine ⟨v, vs, rfl, q C Hd H ws ss σ δ δ1 v x _ hl (R.push h) e1 fun σ1 R1 t1 => ?_⟩
      exact q' C Hd H ws ss σ1 δ1 δ' vs xs Q hl R1 l e fun σ2 R2 t2 => k σ2 R2 fun us hu => (t2 us fun i hi => hu i (List.mem_append_right _ hi)).trans (t1 us fun i hi => hu i (List.mem_append_left _ hi))
def gtTup (n : Nat) (r : List D → Env → Option Env) : DG
  | .tup xs, δ => if xs.length = n then r xs δ else none
  | _, _ => none
def gtLst (n : Nat) (r : List D → Env → Option Env) : DG
  | .lst xs, δ => if xs.length = n then r xs δ else none
  | _, _ => none
theorem pdg_tup {es : List Expr} {k n : Nat} {r : List D → Env → Option Env} {is : List Nat} (hc : X.calm = true) (h : PDGs T X es r is) (hn : (assignEach es X.env).length = n := by rfl) (hst : (assignEach es X.env).findIdx? (·.1) = none := by rfl) : PDG T X (.Tuple es k pos) (gtTup n r) is := by
  obtain ⟨t, p, q⟩ := h
  refine ⟨_, pg_tup hc p hn hst, fun C Hd H ws ss σ δ δ' v x Q hl R e k => ?_⟩
  cases x with
  | tup xs =>
    have m := R.headv
    cases m with
    | tup h1 l1 =>
      have e : (if xs.length = n then r xs δ else none) = some δ' := e
      by_cases hl2 : xs.length = n
      · rw [if_pos hl2] at e
        exact ⟨_, _, rfl, same_t R.bas.sub h1, by rw [l1.length]; exact hl2, q C Hd H ws ss σ δ δ' _ xs Q hl R.drop l1 e k⟩
      · rw [if_neg hl2] at e; cases e
  | _ => cases e
theorem pdg_lst {es : List Expr} {k n : Nat} {r : List D → Env → Option Env} {is : List Nat} (hc : X.calm = true) (h : PDGs T X es r is) (hn : (assignEach es X.env).length = n := by rfl) (hst : (assignEach es X.env).findIdx? (·.1) = none := by rfl) : PDG T X (.Tuple es k pos) (gtLst n r) is := by
  obtain ⟨t, p, q⟩ := h
  refine ⟨_, pg_lst hc p hn hst, fun C Hd H ws ss σ δ δ' v x Q hl R e k => ?_⟩
  cases x with
  | lst xs =>
    have m := R.headv
    cases m with
    | lst h1 l1 =>
      have e : (if xs.length = n then r xs δ else none) = some δ' := e
      by_cases hl2 : xs.length = n
      · rw [if_pos hl2] at e
        exact ⟨_, _, rfl, .inl (same_rd R.bas.sub h1), by rw [l1.length]; exact hl2, q C Hd H ws ss σ δ δ' _ xs Q hl R.drop l1 e k⟩
      · rw [if_neg hl2] at e; cases e
  | _ => cases e
def oS : Option Env → SO
  | some δ => .nx δ
  | none => .stuck
def sAsg (re : DE) (g : DG) : DS := fun δ => eS (re δ) δ fun d => oS (g d δ)
theorem pds_asg {tg : Expr} {g : DG} {is : List Nat} (ha : PDE T X W e re) (hg : PDG T X tg g is) (hs : swapsWithSole [tg] e pos.line X.env = pure false := by rfl) (hw : swappedStores [tg] e X.env = pure none := by rfl) (h1 : (assignEach [tg] X.env).map (·.2) = [assign tg X.env] := by rfl) :
    PDS T X W (.Assign [tg] e pos) (sAsg re g) := by
  obtain ⟨te, p, q⟩ := ha
  obtain ⟨t, p', q'⟩ := hg
  refine ⟨_, ps_asg p p' hs hw h1, sndS_e (f := fun v D σ H => t v σ H D.nx) (k := fun d δ => oS (g d δ)) q fun C Hd H ws ss σ δ D v x hl R hP => ?_⟩
  cases e1 : g x δ with
  | none => rw [e1] at hP; exact (show False from hP).elim
  | some δ' =>
    rw [e1] at hP
    exact q' C Hd H ws ss σ δ δ' v x _ hl R e1 fun σ' R' _ => hP Hd H σ' R'
/-! ### x op= e, a name, ints -/
def sAug (i : Nat) (g : D → D → Option D) (re : DE) : DS := fun δ => eS (rVar i δ) δ fun x => eS (re δ) δ fun y => eS (ofO (g x y)) δ fun z => .nx (δ.set i (.d z))
theorem pds_aug {i : Nat} {x : Str} {op : Operator} {g : D → D → Option D} {r : R2} {pos' : Pos} (hN : X.N.Nodup) (hi : X.N[i]? = some x) (hx : Loc X.env.scope x) (ha : PDE T X W e re) (ho : OpR X (inplaceOp op) r ∧ OpG T X r g) (hf : X.fn x = true ∨ X.env.scope.names.lookup x = some .local := by first | exact .inl rfl | exact .inr rfl | assumption) :
    PDS T X W (.AugAssign (.Name x pos') op e pos) (sAug i g re) := by
  obtain ⟨te, p, q⟩ := ha
  refine ⟨_, ps_aug hN hi hx p (ti := r) (fun pins s σ H x y v u Q I rx ry h => ho.1 pins s σ H x y v u Q I rx ry h) hf, ?_⟩
  intro C Hd H ws ss σ δ D hl hR hP
  unfold sAug at hP
  cases e0 : δ[i]? with
  | none => simp only [rVar, e0, eS] at hP; exact hP.elim
  | some sl =>
    cases sl with
    | d x0 =>
      obtain ⟨v, ev, m⟩ := hR.var hl e0
      have er : rVar i δ = .ok x0 := by simp only [rVar, e0]
      rw [er] at hP
      simp only [eS] at hP
      refine ⟨v, ev, ?_⟩
      refine q C Hd H (some v :: ws) (.d x0 :: ss) σ δ _ (by simp [hl]) (hR.push m) ?_
      cases e1 : re δ with
      | stuck => simp only [e1] at hP; exact hP
      | ex x => simp only [e1] at hP; exact fun cls dx Hd' H' R' s' xa => hP cls dx Hd' H' σ R'.drop xa
      | ok y =>
        simp only [e1] at hP
        intro vy Hd1 H1 R1 s1
        cases e2 : g x0 y with
        | none => rw [e2] at hP; exact (show False from hP).elim
        | some z =>
          rw [e2] at hP
          exact ho.2 C Hd1 H1 _ _ v vy x0 y z _ R1 e2 fun vz Hd2 H2 R2 s2 => hP Hd2 H2 _ (R2.store i hl)
    | un => simp only [rVar, e0, eS] at hP; exact hP.elim
    | exc => simp only [rVar, e0, eS] at hP; exact hP.elim
    | own _ t => simp only [rVar, e0, eS] at hP; exact hP.elim
theorem og_iadd : OpR X (inplaceOp .Add) (rI0 fun i j => .int (i + j)) ∧ OpG T X (rI0 fun i j => .int (i + j)) (dI fun i j => some (.int (i + j))) := ⟨iop_add, opG_I0 fun _ _ _ => .int _⟩
theorem og_isub : OpR X (inplaceOp .Sub) (rI0 fun i j => .int (i - j)) ∧ OpG T X (rI0 fun i j => .int (i - j)) (dI fun i j => some (.int (i - j))) := ⟨iop_sub, opG_I0 fun _ _ _ => .int _⟩
/-! ### what is walked -/
abbrev DIt := Env → Out (List D)
/-- the iterator J walks xs while the thing tw stands -/
def Steps (K : PySem.W.Frag) (T : Tab) (J : It) (tw : Option V) (ts : Sl) (xs : List D) : Prop := ∀ (C : Ctx) (Hd H : Hp) (ρw : L2.St) (ρs : Env), Rel K T C Hd H (tw :: ρw) (ts :: ρs) →
  (∀ i, xs.length ≤ i → J.stop i H) ∧ ∀ i x, xs[i]? = some x → J.go i H ∧ ∀ v H', J.yld i H v H' → ∃ Hd', Rel K T C Hd' H' (some v :: tw :: ρw) (.d x :: ts :: ρs) ∧ Same H H'
def IPost (K : PySem.W.Frag) (T : Tab) (C : Ctx) (σ : L2.St) (W : WX) (ρw : L2.St) (ρs : Env) (H : Hp) (o : Out (List D)) (R : It → Hp → Prop) : Prop := match o with
  | .ok xs => ∀ J tw ts Hd' H', Rel K T C Hd' H' (tw :: ρw) (ts :: ρs) → Same H H' → Steps K T J tw ts xs → R J H'
  | .ex x => ∀ cls dx Hd' H', Rel K T C Hd' H' ρw ρs → Same H H' → XAt T H' cls dx x → W cls dx σ H'
  | .stuck => False
structure PDI (T : Tab) (X : Cx) (W : WX) (tg e : Expr) (r : DIt) : Prop where
  ex : ∃ wi, PI X tg e wi ∧ ∀ (C : Ctx) (Hd H : Hp) (ws : L2.St) (ss : Env) (σ : L2.St) (δ : Env) (R : It → Hp → Prop), ws.length = ss.length → Rel X.K T C Hd H (ws ++ σ) (ss ++ δ) → IPost X.K T C σ W (ws ++ σ) (ss ++ δ) H (r δ) R → wi σ H R
def iSeq (K : PySem.W.Frag) (tl : TE) : TI := fun σ H R => tl σ H fun x H1 => ∃ a, x = .ref a ∧ (((∃ xs, SqL K H1 a xs) ∧ R (Itl K a) H1) ∨ ((∃ xs, SqT K H1 a xs) ∧ R (Itt K a) H1))
theorem pi_seq {tg l : Expr} {tl : TE} (hl : PE X l tl) : PI X tg l (iSeq X.K tl) := by
  refine ⟨fun pins s σ H R I h => ?_⟩
  refine thn (hl.run pins s σ H _ I h) fun v s1 ⟨x, H1, I1, r1, q1⟩ => ?_
  obtain ⟨a, e, ⟨⟨xs, hq⟩, q⟩ | ⟨⟨xs, hq⟩, q⟩⟩ := q1
  · subst e
    cases r1
    obtain ⟨its, rv, p, hz⟩ := I1.list hq
    refine wpAny_pyIter_list p.isList ?_
    refine ⟨s1.heap.objs.size, [s1.heap.objs.size], _, _, H1, rfl, I1.kept (t' := s1.toks) fun b o e => Heap.get?_push_of_some _ e, turn_list a _, ⟨_, Heap.get?_push_size _ rfl, rfl, rfl⟩, fun b hb => ?_, q⟩
    have e : b = s1.heap.objs.size := by simpa using hb
    subst e
    exact I1.fpOk (Nat.le_refl _) (I1.hok.fresh (Nat.le_refl _))
  · subst e
    cases r1
    obtain ⟨its, rv, p, hz⟩ := I1.tuple hq
    refine wpAny_pyIter_tuple (show s1.heap.IsTuple a its.toArray from p) ?_
    refine ⟨s1.heap.objs.size, [s1.heap.objs.size], _, _, H1, rfl, I1.kept (t' := s1.toks) fun b o e => Heap.get?_push_of_some _ e, turn_tuple a _, ⟨_, Heap.get?_push_size _ rfl, rfl, rfl⟩, fun b hb => ?_, q⟩
    have e : b = s1.heap.objs.size := by simpa using hb
    subst e
    exact I1.fpOk (Nat.le_refl _) (I1.hok.fresh (Nat.le_refl _))
def dItems : D → Out (List D)
  | .lst xs => .ok xs
  | .tup xs => .ok xs
  | _ => .stuck
def iItems (re : DE) : DIt := fun δ => (re δ).bind dItems
theorem steps_list {K : PySem.W.Frag} {a : Addr} {xs : List D} : Steps K T (Itl K a) (some (.ref a)) (.d (.lst xs)) xs := by
  intro C Hd H ρw ρs R
  have m := R.headv
  cases m with
  | lst h1 l1 =>
    have hs : SqL K H a _ := .inl (same_rd R.bas.sub h1)
    refine ⟨fun i hi => ⟨_, hs, by rw [l1.length]; exact hi⟩, fun i x hx => ?_⟩
    obtain ⟨v, e, mv⟩ := l1.get hx
    refine ⟨⟨_, v, hs, e⟩, fun v' H' hy => ?_⟩
    obtain ⟨rfl, hy⟩ := hy
    have e2 := hy _ hs
    rw [e] at e2
    cases e2
    exact ⟨Hd, R.push mv, .refl _⟩
theorem steps_tup {K : PySem.W.Frag} {a : Addr} {xs : List D} : Steps K T (Itt K a) (some (.ref a)) (.d (.tup xs)) xs := by
  intro C Hd H ρw ρs R
  have m := R.headv
  cases m with
  | tup h1 l1 =>
    have hs : SqT K H a _ := same_t R.bas.sub h1
    refine ⟨fun i hi => ⟨_, hs, by rw [l1.length]; exact hi⟩, fun i x hx => ?_⟩
    obtain ⟨v, e, mv⟩ := l1.get hx
    refine ⟨⟨_, v, hs, e⟩, fun v' H' hy => ?_⟩
    obtain ⟨rfl, hy⟩ := hy
    have e2 := hy _ hs
    rw [e] at e2
    cases e2
    exact ⟨Hd, R.push mv, .refl _⟩
theorem pdi_items {tg : Expr} (ha : PDE T X W e re) : PDI T X W tg e (iItems re) := by
  obtain ⟨te, p, q⟩ := ha
  refine ⟨_, pi_seq p, ?_⟩
  intro C Hd H ws ss σ δ R hl hR hP
  unfold iItems at hP
  refine q C Hd H ws ss σ δ _ hl hR ?_
  cases e1 : re δ with
  | stuck => simp only [e1, Out.bind] at hP; exact hP
  | ex x => simp only [e1, Out.bind] at hP; exact hP
  | ok x =>
    simp only [e1, Out.bind] at hP
    intro v Hd1 H1 R1 s1
    cases x with
    | lst xs =>
      have m := R1.headv
      cases m with
      | lst h1 l1 => exact ⟨_, rfl, .inl ⟨⟨_, .inl (same_rd R1.bas.sub h1)⟩, hP _ _ _ _ _ R1 s1 steps_list⟩⟩
    | tup xs =>
      have m := R1.headv
      cases m with
      | tup h1 l1 => exact ⟨_, rfl, .inr ⟨⟨_, same_t R1.bas.sub h1⟩, hP _ _ _ _ _ R1 s1 steps_tup⟩⟩
    | _ => exact (show False from hP).elim
def rangeD (lo hi : Int) : List D := (List.range (hi - lo).toNat).map fun i => .int (lo + (i : Nat))
theorem steps_range {K : PySem.W.Frag} {lo : Int} {n : Nat} : Steps K T (Itr lo n) none .un ((List.range n).map fun i => .int (lo + (i : Nat))) := by
  intro C Hd H ρw ρs R
  refine ⟨fun i hi => (by simpa using hi : n ≤ i), fun i x hx => ?_⟩
  rw [List.getElem?_map] at hx
  cases e : (List.range n)[i]? with
  | none => rw [e] at hx; cases hx
  | some j =>
    rw [e] at hx
    cases hx
    obtain ⟨hi, e2⟩ := List.getElem?_eq_some_iff.mp e
    rw [List.length_range] at hi
    rw [List.getElem_range] at e2
    subst e2
    refine ⟨hi, fun v H' hy => ?_⟩
    obtain ⟨rfl, rfl⟩ := hy
    exact ⟨Hd, R.push (.int _), .refl _⟩
def iR1 (re : DE) : DIt := fun δ => (re δ).bind fun
  | .int j => if -(2 ^ 62) ≤ j ∧ j < 2 ^ 62 then .ok (rangeD 0 j) else .stuck
  | _ => .stuck
def iR2 (ra rb : DE) : DIt := fun δ => (ra δ).bind fun x => (rb δ).bind fun y => match x, y with
  | .int i, .int j => if -(2 ^ 62) ≤ i ∧ i < 2 ^ 62 ∧ -(2 ^ 62) ≤ j ∧ j < 2 ^ 62 then .ok (rangeD i j) else .stuck
  | _, _ => .stuck
theorem pdi_r1 {tg : Expr} {p : Pos} (hg : Gl X "range") (hm : X.mg "range" = none) (ha : PDE T X W e re) (hs : starEach [e] X.env = [(false, eval e X.env)] := by rfl) : PDI T X W tg (.Call (.Name "range" p) [e] [] pos) (iR1 re) := by
  obtain ⟨te, p, q⟩ := ha
  refine ⟨_, pi_range1 hg hm (pa_cons p pa_nil (by rw [hs]; rfl)) hs, ?_⟩
  intro C Hd H ws ss σ δ R hl hR hP
  unfold iR1 at hP
  refine q C Hd H ws ss σ δ _ hl hR ?_
  cases e1 : re δ with
  | stuck => simp only [e1, Out.bind] at hP; exact hP
  | ex x => simp only [e1, Out.bind] at hP; exact hP
  | ok x =>
    simp only [e1, Out.bind] at hP
    intro v Hd1 H1 R1 s1
    cases x with
    | int j =>
      have m := R1.headv
      cases m
      dsimp only at hP
      by_cases hc : -(2 ^ 62) ≤ j ∧ j < 2 ^ 62
      · rw [if_pos hc] at hP
        refine ⟨j, rfl, hc.1, hc.2, hP _ none .un Hd1 H1 R1.drop.pushU s1 ?_⟩
        have h := steps_range (T := T) (K := X.K) (lo := 0) (n := j.toNat)
        unfold rangeD
        rwa [Int.sub_zero]
      · rw [if_neg hc] at hP; exact hP.elim
    | _ => exact (show False from hP).elim
theorem pdi_r2 {tg : Expr} {p : Pos} (hg : Gl X "range") (hm : X.mg "range" = none) (ha : PDE T X W a ra) (hb : PDE T X W b rb) (hs : starEach [a, b] X.env = [(false, eval a X.env), (false, eval b X.env)] := by rfl) (hs2 : starEach [b] X.env = [(false, eval b X.env)] := by rfl) :
    PDI T X W tg (.Call (.Name "range" p) [a, b] [] pos) (iR2 ra rb) := by
  obtain ⟨ta, pa, qa⟩ := ha
  obtain ⟨tb, pb, qb⟩ := hb
  refine ⟨_, pi_range2 hg hm (pa_cons pa (pa_cons pb pa_nil (by rw [hs2]; rfl)) (by rw [hs, hs2])) hs hs2, ?_⟩
  intro C Hd H ws ss σ δ R hl hR hP
  unfold iR2 at hP
  refine qa C Hd H ws ss σ δ _ hl hR ?_
  cases e1 : ra δ with
  | stuck => simp only [e1, Out.bind] at hP; exact hP
  | ex x => simp only [e1, Out.bind] at hP; exact hP
  | ok x =>
    simp only [e1, Out.bind] at hP
    intro vx Hd1 H1 R1 s1
    refine qb C Hd1 H1 (some vx :: ws) (.d x :: ss) σ δ _ (by simp [hl]) R1 ?_
    cases e2 : rb δ with
    | stuck => simp only [e2] at hP; exact hP
    | ex y =>
      simp only [e2] at hP
      exact fun c d Hd' H' R' s' xa => hP c d Hd' H' R'.drop (s1.trans s') xa
    | ok y =>
      simp only [e2] at hP
      intro vy Hd2 H2 R2 s2
      cases x with
      | int i =>
        cases y with
        | int j =>
          have m := R2.headv
          have m2 := R2.second
          cases m; cases m2
          dsimp only at hP
          by_cases hc : -(2 ^ 62) ≤ i ∧ i < 2 ^ 62 ∧ -(2 ^ 62) ≤ j ∧ j < 2 ^ 62
          · rw [if_pos hc] at hP
            exact ⟨i, j, rfl, hc, hP _ none .un Hd2 H2 R2.drop.drop.pushU (s1.trans s2) steps_range⟩
          · rw [if_neg hc] at hP; exact hP.elim
        | _ => exact (show False from hP).elim
      | _ => exact (show False from hP).elim
/-! ### for -/
def forL (loc : List Nat) (g : DG) (body : DS) : List D → Env → SO
  | [], δ => .nx δ
  | x :: xs, δ => match g x δ with
    | none => .stuck
    | some δ1 => match body δ1 with
      | .nx δ2 => forL loc g body xs (fgt loc δ2)
      | .ct δ2 => forL loc g body xs (fgt loc δ2)
      | .bk δ2 => .nx (fgt loc δ2)
      | o => o
def sFor (loc : List Nat) (ri : DIt) (g : DG) (body : DS) : DS := fun δ => match ri δ with
  | .ok xs => forL loc g body xs (fgt loc δ)
  | .ex x => .ex x δ
  | .stuck => .stuck
theorem pds_for {tg : Expr} {ri : DIt} {g : DG} {is : List Nat} (loc : List Nat) (hp : PassesOwn (model X.prog X.w) X.A X.env X.xe) (hc : X.calm = true) (hi : PDI T X W tg e ri) (hg : PDG T X tg g is) (hb : PDSs T X W body s) (hs : ∀ x, foldedSetIterable e X.env x = pure x := by intro _; rfl) :
    PDS T X W (.For tg e body [] pos) (sFor loc ri g s) := by
  obtain ⟨wi, pi, qi⟩ := hi
  obtain ⟨tg', pg, qg⟩ := hg
  obtain ⟨tb, pb, qb⟩ := hb
  refine ⟨_, ps_for hp hc pi pg pb hs, ?_⟩
  intro C Hd H ws ss σ δ D hl hR hP
  unfold sFor at hP
  refine qi C Hd H ws ss σ δ _ hl hR ?_
  cases e1 : ri δ with
  | stuck => simp only [e1] at hP; exact hP
  | ex x => simp only [e1] at hP; exact fun cls dx Hd' H' R' s' xa => hP cls dx Hd' H' σ R' xa
  | ok xs =>
    simp only [e1] at hP
    intro J tw ts Hd1 H1 R1 s1 hJ
    refine ⟨fun i m σ' H' => i ≤ xs.length ∧ m = xs.length - i ∧ ∃ Hd' δ', Rel X.K T C Hd' H' ((tw :: ws) ++ σ') ((ts :: ss) ++ δ') ∧ SPost X.K T C W ws ss (forL loc g s (xs.drop i) δ') D,
      ⟨xs.length, Nat.zero_le _, by simp, Hd1, fgt loc δ, Rel.fgt (ws := tw :: ws) (ss := ts :: ss) (by simp [hl]) R1 loc, by simpa using hP⟩, ?_⟩
    rintro i m σ' H' ⟨hi, rfl, Hd', δ', R', P'⟩
    obtain ⟨hstop, hgo⟩ := hJ C Hd' H' _ _ R'
    by_cases hlt : i < xs.length
    · have hx : xs[i]? = some xs[i] := List.getElem?_eq_getElem hlt
      obtain ⟨go, hy⟩ := hgo i xs[i] hx
      rw [List.drop_eq_getElem_cons hlt] at P'
      refine .inr ⟨go, fun σ2 H2 => ∃ Hd2 δ2, Rel X.K T C Hd2 H2 ((tw :: ws) ++ σ2) ((ts :: ss) ++ δ2) ∧ SPost X.K T C W ws ss (forL loc g s (xs.drop (i + 1)) δ2) D, fun σ2 H2 ⟨Hd2, δ2, R2, P2⟩ => ⟨xs.length - (i + 1), by omega, hlt, rfl, Hd2, δ2, R2, P2⟩, fun v H2 hyl => ?_⟩
      obtain ⟨Hd2, R2, _⟩ := hy v H2 hyl
      unfold forL at P'
      cases e2 : g xs[i] δ' with
      | none => simp only [e2] at P'; exact P'.elim
      | some δ1 =>
        simp only [e2] at P'
        refine qg C Hd2 H2 (tw :: ws) (ts :: ss) σ' δ' δ1 v xs[i] _ (by simp [hl]) R2 e2 fun σ3 R3 _ => ?_
        refine qb C Hd2 H2 (tw :: ws) (ts :: ss) σ3 δ1 _ (by simp [hl]) R3 ?_
        cases e3 : s δ1 with
        | nx δ2 =>
          simp only [e3] at P'
          exact fun Hd4 H4 σ4 R4 => ⟨Hd4, _, Rel.fgt (ws := tw :: ws) (ss := ts :: ss) (by simp [hl]) R4 loc, P'⟩
        | ct δ2 =>
          simp only [e3] at P'
          exact fun Hd4 H4 σ4 R4 => ⟨Hd4, _, Rel.fgt (ws := tw :: ws) (ss := ts :: ss) (by simp [hl]) R4 loc, P'⟩
        | bk δ2 =>
          simp only [e3] at P'
          exact fun Hd4 H4 σ4 R4 => P' Hd4 H4 σ4 (Rel.drop (Rel.fgt (ws := tw :: ws) (ss := ts :: ss) (by simp [hl]) R4 loc))
        | rt d δ2 =>
          simp only [e3] at P'
          intro v4 Hd4 H4 σ4 R4
          exact P' v4 Hd4 H4 σ4 (R4.sub fun f h => by
            cases h with
            | cons h1 h2 =>
              obtain ⟨g', k, rfl, h3⟩ := EAt.drop (w := tw) (s := ts) h2
              exact ⟨_, (List.Sublist.refl _).append (List.sublist_append_right _ _), .cons h1 h3⟩)
        | ro d δ2 =>
          simp only [e3] at P'
          intro v4 Hd4 H4 σ4 R4
          exact P' v4 Hd4 H4 σ4 (R4.sub fun f h => by
            cases h with
            | cons h1 h2 =>
              obtain ⟨g', k, rfl, h3⟩ := EAt.drop (w := tw) (s := ts) h2
              exact ⟨_, (List.Sublist.refl _).append (List.sublist_append_right _ _), .cons h1 h3⟩)
        | ex x δ2 =>
          simp only [e3] at P'
          exact fun cls dx Hd4 H4 σ4 R4 xa => P' cls dx Hd4 H4 σ4 (Rel.drop R4) xa
        | stuck => simp only [e3] at P'; exact P'
    · have hi' : i = xs.length := by omega
      subst hi'
      rw [List.drop_length] at P'
      exact .inl ⟨hstop _ (Nat.le_refl _), P' Hd' H' σ' (Rel.drop R')⟩
/-! ### while -/
def whileL (loc : List Nat) (q : DT) (body : DS) : Nat → Env → SO
  | 0, _ => .stuck
  | n + 1, δ => tS (q δ) δ fun k => if k = true then (match body δ with
      | .nx δ2 => whileL loc q body n (fgt loc δ2)
      | .ct δ2 => whileL loc q body n (fgt loc δ2)
      | .bk δ2 => .nx (fgt loc δ2)
      | o => o) else .nx δ
def sWhile (loc : List Nat) (n : Nat) (q : DT) (body : DS) : DS := fun δ => whileL loc q body n (fgt loc δ)
theorem pds_while {c : Expr} (loc : List Nat) (n : Nat) (hp : PassesOwn (model X.prog X.w) X.A X.env X.xe) (hc : PDT T X W c qa) (hb : PDSs T X W body s) : PDS T X W (.While c body [] pos) (sWhile loc n qa s) := by
  obtain ⟨tc, pc, qc⟩ := hc
  obtain ⟨tb, pb, qb⟩ := hb
  refine ⟨_, ps_while hp pc pb, ?_⟩
  intro C Hd H ws ss σ δ D hl hR hP
  unfold sWhile at hP
  refine ⟨fun m σ' H' => ∃ Hd' δ', Rel X.K T C Hd' H' (ws ++ σ') (ss ++ δ') ∧ SPost X.K T C W ws ss (whileL loc qa s m δ') D, ⟨n, Hd, _, Rel.fgt hl hR loc, hP⟩, ?_⟩
  rintro m σ' H' ⟨Hd', δ', R', P'⟩
  cases m with
  | zero => exact (show False from P').elim
  | succ m =>
    unfold whileL at P'
    refine qc C Hd' H' ws ss σ' δ' _ hl R' ?_
    cases e1 : qa δ' with
    | stuck => simp only [e1, tS] at P'; exact P'
    | ex x => simp only [e1, tS] at P'; exact fun cls dx Hd2 H2 R2 s2 xa => P' cls dx Hd2 H2 σ' R2 xa
    | ok k =>
      simp only [e1, tS] at P'
      intro Hd2 H2 R2 s2
      cases k with
      | false => simp only [Bool.false_eq_true, if_false] at P' ⊢; exact P' Hd2 H2 σ' R2
      | true =>
        simp only [if_true] at P' ⊢
        refine ⟨fun σ3 H3 => ∃ Hd3 δ3, Rel X.K T C Hd3 H3 (ws ++ σ3) (ss ++ δ3) ∧ SPost X.K T C W ws ss (whileL loc qa s m δ3) D, fun σ3 H3 ⟨Hd3, δ3, R3, P3⟩ => ⟨m, Nat.lt_succ_self _, Hd3, δ3, R3, P3⟩, ?_⟩
        refine qb C Hd2 H2 ws ss σ' δ' _ hl R2 ?_
        cases e3 : s δ' with
        | nx δ2 => simp only [e3] at P'; exact fun Hd4 H4 σ4 R4 => ⟨Hd4, _, Rel.fgt hl R4 loc, P'⟩
        | ct δ2 => simp only [e3] at P'; exact fun Hd4 H4 σ4 R4 => ⟨Hd4, _, Rel.fgt hl R4 loc, P'⟩
        | bk δ2 => simp only [e3] at P'; exact fun Hd4 H4 σ4 R4 => P' Hd4 H4 σ4 (Rel.fgt hl R4 loc)
        | rt d δ2 => simp only [e3] at P'; exact P'
        | ro d δ2 => simp only [e3] at P'; exact P'
        | ex x δ2 => simp only [e3] at P'; exact P'
        | stuck => simp only [e3] at P'; exact P'
end
end L2.DL

/-! ## DL6 -/
set_option linter.all false
set_option maxRecDepth 100000
set_option maxHeartbeats 4000000
/-! DL6: own things: where they lie, what may be made of them. -/
namespace L2.DL
open PySem PySem.Spec PyProof.Rows L2
/-- the part of an own thing at a path -/
def OT.at : OT → List Nat → Option OT
  | t, [] => some t
  | .lst xs, i :: p => match xs[i]? with | some x => x.at p | none => none
  | .ins _ xs, i :: p => match xs[i]? with | some x => x.at p | none => none
  | _, _ :: _ => none
def OT.put : OT → List Nat → OT → OT
  | _, [], u => u
  | .lst xs, i :: p, u => match xs[i]? with | some x => .lst (xs.set i (x.put p u)) | none => .lst xs
  | .ins c xs, i :: p, u => match xs[i]? with | some x => .ins c (xs.set i (x.put p u)) | none => .ins c xs
  | t, _ :: _, _ => t
/-- the value at a path -/
def rdP (H : Hp) : V → List Nat → Option V
  | v, [] => some v
  | .ref a, i :: p => match H a with
    | some (.lst vs) => match vs[i]? with | some w => rdP H w p | none => none
    | some (.ins _ _ fs) => match (fs.map (·.2))[i]? with | some w => rdP H w p | none => none
    | _ => none
  | _, _ :: _ => none
theorem rdP_same {H H' : Hp} (s : Same H H') : ∀ (p : List Nat) (v w : V), rdP H v p = some w → rdP H' v p = some w
  | [], v, w, h => by simpa [rdP] using h
  | i :: p, v, w, h => by
    cases v with
    | ref a =>
      simp only [rdP] at h ⊢
      cases e : H a with
      | none => rw [e] at h; cases h
      | some o =>
        rw [s a o e]
        rw [e] at h
        cases o with
        | lst vs =>
          simp only at h ⊢
          cases e2 : vs[i]? with
          | none => rw [e2] at h; cases h
          | some u => rw [e2] at h; exact rdP_same s p u w h
        | ins c d fs =>
          simp only at h ⊢
          cases e2 : (fs.map (·.2))[i]? with
          | none => rw [e2] at h; cases h
          | some u => rw [e2] at h; exact rdP_same s p u w h
        | _ => cases h
    | _ => simp [rdP] at h
section
variable {K : PySem.W.Frag} {T : Tab} {Hd Hd' H H' : Hp}
theorem OAtL.slot : ∀ {vs : List V} {xs : List OT} {f : List Addr} {i : Nat} {x : OT}, OAtL K T Hd H vs xs f → f.Nodup → xs[i]? = some x → ∃ v g, vs[i]? = some v ∧ OAt K T Hd H v x g ∧ g.Nodup ∧ (∀ a ∈ g, a ∈ f) ∧
    ∀ (Hd' H' : Hp) (v' : V) (x' : OT) (g' : List Addr), Same Hd Hd' → (∀ a ∈ f, a ∉ g → H' a = H a) → OAt K T Hd' H' v' x' g' → g'.Nodup → (∀ a ∈ g', a ∈ g ∨ a ∉ f) →
      ∃ f', OAtL K T Hd' H' (vs.set i v') (xs.set i x') f' ∧ f'.Nodup ∧ ∀ a ∈ f', (a ∈ f ∧ a ∉ g) ∨ a ∈ g'
  | _, _, _, _, _, .nil, _, e => by simp at e
  | _, _, _, 0, _, .cons (f := g) (g := f) h t, nd, e => by
    simp at e
    subst e
    obtain ⟨n1, n2, n3⟩ := List.nodup_append.mp nd
    refine ⟨_, g, rfl, h, n1, fun a ha => List.mem_append_left _ ha, fun Hd' H' w' s' g' sd k h' nd' hg => ?_⟩
    have hd : ∀ a ∈ f, a ∉ g := fun a ha hb => n3 a hb a ha rfl
    refine ⟨g' ++ f, .cons h' (t.to sd fun a ha => k a (List.mem_append_right _ ha) (hd a ha)), List.nodup_append.mpr ⟨nd', n2, fun a ha b hb e => ?_⟩, fun a ha => ?_⟩
    · subst e
      rcases hg a ha with z | z
      · exact hd a hb z
      · exact z (List.mem_append_right _ hb)
    · rcases List.mem_append.mp ha with z | z
      · exact .inr z
      · exact .inl ⟨List.mem_append_right _ z, hd a z⟩
  | _, _, _, j + 1, s, .cons (f := g0) (g := f) h t, nd, e => by
    obtain ⟨n1, n2, n3⟩ := List.nodup_append.mp nd
    obtain ⟨w, g, h1, h2, h3, h4, h5⟩ := OAtL.slot (i := j) (x := s) t n2 (by simpa using e)
    refine ⟨w, g, by simpa using h1, h2, h3, fun a ha => List.mem_append_right _ (h4 a ha), fun Hd' H' w' s' g' sd k h' nd' hg => ?_⟩
    obtain ⟨f', q1, q2, q3⟩ := h5 Hd' H' w' s' g' sd (fun a ha hn => k a (List.mem_append_right _ ha) hn) h' nd' (fun a ha => (hg a ha).imp id fun z m => z (List.mem_append_right _ m))
    have hd : ∀ a ∈ g0, a ∉ g := fun a ha hb => n3 a ha a (h4 a hb) rfl
    refine ⟨g0 ++ f', .cons (h.to sd fun a ha => k a (List.mem_append_left _ ha) (hd a ha)) q1, List.nodup_append.mpr ⟨n1, q2, fun a ha b hb e => ?_⟩, fun a ha => ?_⟩
    · subst e
      rcases q3 a hb with z | z
      · exact n3 a ha a z.1 rfl
      · rcases hg a z with y | y
        · exact hd a ha y
        · exact y (List.mem_append_left _ ha)
    · rcases List.mem_append.mp ha with z | z
      · exact .inl ⟨List.mem_append_left _ z, hd a z⟩
      · exact (q3 a z).imp (fun ⟨y1, y2⟩ => ⟨List.mem_append_right _ y1, y2⟩) id
theorem map_set_snd {α β : Type} : ∀ {fs : List (α × β)} {i : Nat} {v : β}, (fs.map (·.2))[i]? = some v → ((fs.map (·.2)).set i v) = fs.map (·.2) := fun h => set_self' h
theorem OAt.path : ∀ (p : List Nat) (t u : OT) (v : V) (f : List Addr), t.at p = some u → OAt K T Hd H v t f → f.Nodup → ∃ w g, rdP H v p = some w ∧ OAt K T Hd H w u g ∧ g.Nodup ∧ (∀ a ∈ g, a ∈ f) ∧
    ∀ (Hd' H' : Hp) (u' : OT) (g' : List Addr), Same Hd Hd' → (∀ a ∈ f, a ∉ g → H' a = H a) → OAt K T Hd' H' w u' g' → g'.Nodup → (∀ a ∈ g', a ∈ g ∨ a ∉ f) →
      ∃ f', OAt K T Hd' H' v (t.put p u') f' ∧ f'.Nodup ∧ ∀ a ∈ f', (a ∈ f ∧ a ∉ g) ∨ a ∈ g'
  | [], t, u, v, f, e, h, nd => by
    simp only [OT.at, Option.some.injEq] at e
    subst e
    exact ⟨v, f, rfl, h, nd, fun _ z => z, fun Hd' H' u' g' sd k h' nd' hg => ⟨g', h', nd', fun a ha => .inr ha⟩⟩
  | i :: p, t, u, v, f, e, h, nd => by
    cases t with
    | lst xs =>
      cases h with
      | lst h1 h2 =>
        rename_i a vs f1
        simp only [OT.at] at e
        cases e2 : xs[i]? with
        | none => rw [e2] at e; cases e
        | some x =>
          rw [e2] at e
          obtain ⟨na, nd1⟩ := List.nodup_cons.mp nd
          obtain ⟨v1, g1, k1, k2, k3, k4, k5⟩ := h2.slot nd1 e2
          obtain ⟨w, g, q0, q1, q2, q3, q4⟩ := OAt.path p x u v1 g1 e k2 k3
          refine ⟨w, g, by simp only [rdP, h1, k1]; exact q0, q1, q2, fun b hb => List.mem_cons_of_mem _ (k4 b (q3 b hb)), fun Hd' H' u' g' sd k h' nd' hg => ?_⟩
          obtain ⟨f2, r1, r2, r3⟩ := q4 Hd' H' u' g' sd (fun b hb hn => k b (List.mem_cons_of_mem _ (k4 b hb)) hn) h' nd' (fun b hb => (hg b hb).imp id fun z m => z (List.mem_cons_of_mem _ (k4 b m)))
          have hag : a ∉ g := fun z => na (k4 a (q3 a z))
          have hg' : ∀ b ∈ g', b ≠ a ∧ (b ∈ g ∨ b ∉ f1) := fun b hb => by
            rcases hg b hb with z | z
            · exact ⟨fun y => hag (y ▸ z), .inl z⟩
            · exact ⟨fun y => z (y ▸ List.mem_cons_self), .inr fun m => z (List.mem_cons_of_mem _ m)⟩
          obtain ⟨f3, s1, s2, s3⟩ := k5 Hd' H' v1 (x.put p u') f2 sd (fun b hb hn => k b (List.mem_cons_of_mem _ hb) fun z => hn (q3 b z)) r1 r2 (fun b hb => by
            rcases r3 b hb with z | z
            · exact .inl z.1
            · exact (hg' b z).2.imp (q3 b) id)
          rw [set_self' k1] at s1
          have ha3 : a ∉ f3 := fun z => by
            rcases s3 a z with y | y
            · exact na y.1
            · rcases r3 a y with y' | y'
              · exact na (k4 a y'.1)
              · exact (hg' a y').1 rfl
          refine ⟨a :: f3, ?_, List.nodup_cons.mpr ⟨ha3, s2⟩, fun b hb => ?_⟩
          · simp only [OT.put, e2]
            exact .lst (by rw [k a List.mem_cons_self hag]; exact h1) s1
          · rcases List.mem_cons.mp hb with z | z
            · exact .inl ⟨z ▸ List.mem_cons_self, z ▸ hag⟩
            · rcases s3 b z with y | y
              · exact .inl ⟨List.mem_cons_of_mem _ y.1, fun m => y.2 (q3 b m)⟩
              · rcases r3 b y with y' | y'
                · exact .inl ⟨List.mem_cons_of_mem _ (k4 b y'.1), y'.2⟩
                · exact .inr y'
    | ins c xs =>
      cases h with
      | ins h1 hk h2 =>
        rename_i a dx fs f1
        simp only [OT.at] at e
        cases e2 : xs[i]? with
        | none => rw [e2] at e; cases e
        | some x =>
          rw [e2] at e
          obtain ⟨na, nd1⟩ := List.nodup_cons.mp nd
          obtain ⟨v1, g1, k1, k2, k3, k4, k5⟩ := h2.slot nd1 e2
          obtain ⟨w, g, q0, q1, q2, q3, q4⟩ := OAt.path p x u v1 g1 e k2 k3
          refine ⟨w, g, by simp only [rdP, h1, k1]; exact q0, q1, q2, fun b hb => List.mem_cons_of_mem _ (k4 b (q3 b hb)), fun Hd' H' u' g' sd k h' nd' hg => ?_⟩
          obtain ⟨f2, r1, r2, r3⟩ := q4 Hd' H' u' g' sd (fun b hb hn => k b (List.mem_cons_of_mem _ (k4 b hb)) hn) h' nd' (fun b hb => (hg b hb).imp id fun z m => z (List.mem_cons_of_mem _ (k4 b m)))
          have hag : a ∉ g := fun z => na (k4 a (q3 a z))
          have hg' : ∀ b ∈ g', b ≠ a ∧ (b ∈ g ∨ b ∉ f1) := fun b hb => by
            rcases hg b hb with z | z
            · exact ⟨fun y => hag (y ▸ z), .inl z⟩
            · exact ⟨fun y => z (y ▸ List.mem_cons_self), .inr fun m => z (List.mem_cons_of_mem _ m)⟩
          obtain ⟨f3, s1, s2, s3⟩ := k5 Hd' H' v1 (x.put p u') f2 sd (fun b hb hn => k b (List.mem_cons_of_mem _ hb) fun z => hn (q3 b z)) r1 r2 (fun b hb => by
            rcases r3 b hb with z | z
            · exact .inl z.1
            · exact (hg' b z).2.imp (q3 b) id)
          rw [set_self' k1] at s1
          have ha3 : a ∉ f3 := fun z => by
            rcases s3 a z with y | y
            · exact na y.1
            · rcases r3 a y with y' | y'
              · exact na (k4 a y'.1)
              · exact (hg' a y').1 rfl
          refine ⟨a :: f3, ?_, List.nodup_cons.mpr ⟨ha3, s2⟩, fun b hb => ?_⟩
          · simp only [OT.put, e2]
            exact .ins (by rw [k a List.mem_cons_self hag]; exact h1) hk s1
          · rcases List.mem_cons.mp hb with z | z
            · exact .inl ⟨z ▸ List.mem_cons_self, z ▸ hag⟩
            · rcases s3 b z with y | y
              · exact .inl ⟨List.mem_cons_of_mem _ y.1, fun m => y.2 (q3 b m)⟩
              · rcases r3 b y with y' | y'
                · exact .inl ⟨List.mem_cons_of_mem _ (k4 b y'.1), y'.2⟩
                · exact .inr y'
    | _ => simp [OT.at] at e
end
section
variable {K : PySem.W.Frag} {T : Tab} {C : Ctx} {pv : List V} {Hd Hd' H H' : Hp} {ws ws' σ σ' : L2.St} {ss ss' δ δ' : Env} {f g : List Addr} {v : V} {x : D} {p : Addr} {o : HO}
theorem EAt.append : ∀ {ws : L2.St} {ss : Env} {f : List Addr}, EAt K T pv Hd H ws ss f → EAt K T pv Hd H σ δ g → EAt K T pv Hd H (ws ++ σ) (ss ++ δ) (f ++ g)
  | _, _, _, .nil, h => h
  | _, _, _, .cons m h', h => by rw [List.append_assoc]; exact .cons m (EAt.append h' h)
theorem EAt.split : ∀ {ws : L2.St} {ss : Env} {f : List Addr}, ws.length = ss.length → EAt K T pv Hd H (ws ++ σ) (ss ++ δ) f → ∃ a b, f = a ++ b ∧ EAt K T pv Hd H ws ss a ∧ EAt K T pv Hd H σ δ b
  | [], [], f, _, h => ⟨[], f, rfl, .nil, h⟩
  | _ :: _, [], _, hl, _ => by simp at hl
  | [], _ :: _, _, hl, _ => by simp at hl
  | w :: ws, s :: ss, f, hl, h => by
    have hl' : ws.length = ss.length := by simpa using hl
    cases h with
    | cons m h =>
      obtain ⟨a, b, rfl, h1, h2⟩ := EAt.split hl' h
      exact ⟨_, b, (List.append_assoc _ _ _).symm, .cons m h1, h2⟩
/-- the data alone -/
def dat : Env → Env := List.map fun
  | .own _ _ => .un
  | .exc => .un
  | s => s
theorem EAt.dat : ∀ {ws : L2.St} {ss : Env} {f : List Addr}, EAt K T pv Hd H ws ss f → EAt K T pv Hd H ws (L2.DL.dat ss) []
  | _, _, _, .nil => .nil
  | _, _, _, .cons m h => by
    cases m with
    | un => exact .cons .un (EAt.dat h)
    | exc _ => exact .cons .un (EAt.dat h)
    | d m => exact .cons (.d m) (EAt.dat h)
    | own _ _ => exact .cons .un (EAt.dat h)
/-- the names again, their data alone, above all -/
theorem Rel.dup (hl : ws.length = ss.length) (R : Rel K T C Hd H (ws ++ σ) (ss ++ δ)) : Rel K T C Hd H ((ws ++ σ) ++ σ) ((ss ++ δ) ++ dat δ) := by
  obtain ⟨f, h, nd, hf⟩ := R.env
  obtain ⟨a, b, rfl, h1, h2⟩ := EAt.split hl h
  exact ⟨R.bas, R.keep, a ++ b, by simpa using h.append h2.dat, nd, hf⟩
theorem Rel.under (hl : ws.length = ss.length) (R : Rel K T C Hd H (ws ++ σ) (ss ++ δ)) : Rel K T C Hd H ws ss := R.sub fun f h => by
  obtain ⟨a, b, rfl, h1, h2⟩ := EAt.split hl h
  exact ⟨a, List.sublist_append_left _ _, h1⟩
theorem Rel.free0 (R : Rel K T C Hd H ws ss) (hp : H p = none) : Hd p = none ∧ C.H0 p = none := by
  refine ⟨R.bas.free hp, ?_⟩
  cases q : C.H0 p with
  | none => rfl
  | some u => exact absurd hp (R.keep.kt p (by rw [q]; simp))
/-- a new object, held alone -/
theorem Rel.newW (R : Rel K T C Hd H ws ss) (hp : H p = none) (hn : isDat o = false) {t : OT} (h : OAt K T Hd (upd H p o) (.ref p) t [p]) : Rel K T C Hd (upd H p o) (some (.ref p) :: ws) (.own none t :: ss) := by
  obtain ⟨f, h0, nd, hf⟩ := R.env
  have np : p ∉ f := fun m => h0.there p m hp
  have hk : ∀ a, H a ≠ none → a ≠ p := fun a n e => n (e ▸ hp)
  refine ⟨⟨fun a u e => by rw [upd_ne (ne_of_none (R.bas.sub a u e) hp)]; exact R.bas.sub a u e, fun a xs e i => ?_⟩, ⟨R.keep.kd, fun a u e n => ?_, fun a n => ?_, R.keep.kn⟩, p :: f, .cons (g := [p]) (.own h (by simp)) (h0.to (.refl _) fun a ha => upd_ne fun e => np (e ▸ ha)), List.nodup_cons.mpr ⟨np, nd⟩, fun a ha => ?_⟩
  · by_cases ea : a = p
    · subst ea; rw [upd_same] at e; cases e; rw [hn] at i; cases i
    · rw [upd_ne ea] at e; exact R.bas.tps a xs e i
  · have e1 := R.keep.kh a u e n
    rw [upd_ne (ne_of_none e1 hp)]
    exact e1
  · have e1 := R.keep.kt a n
    rw [upd_ne (hk a e1)]
    exact e1
  · rcases List.mem_cons.mp ha with e | ha
    · subst e
      exact ⟨(R.free0 hp).1, .inl (R.free0 hp).2⟩
    · exact hf a ha
theorem Rel.newO (R : Rel K T C Hd H ws ss) (hp : H p = none) {vs : List V} {ds : List D} (l : ImL K T Hd vs ds) : Rel K T C Hd (upd H p (.lst vs)) (some (.ref p) :: ws) (.own none (.ld ds) :: ss) := R.newW hp rfl (.ld upd_same l)
/-- a part of an own thing: where it lies, what may be made of it; what comes new stands ahead -/
theorem Rel.path2 {j : Nat} {oo : Option Nat} {t u : OT} {pt : List Nat} (R : Rel K T C Hd H ws ss) (e : ss[j]? = some (.own oo t)) (ep : t.at pt = some u) : ∃ v w g, ws[j]? = some (some v) ∧ rdP H v pt = some w ∧ OAt K T Hd H w u g ∧ g.Nodup ∧ (∀ a ∈ g, Hd a = none) ∧ (∀ a ∈ g, H a ≠ none) ∧ (∀ a ∈ g, C.H0 a = none ∨ a ∈ C.P) ∧
    ∀ (Hd' H' : Hp) (u' : OT) (g' : List Addr) (vr : Option V) (sr : Sl) (gr : List Addr), Bas Hd' H' → Keep g Hd H Hd' H' → SlA K T C.pv Hd' H' vr sr gr → OAt K T Hd' H' w u' g' → (gr ++ g').Nodup → (∀ a ∈ gr ++ g', Hd' a = none) → (∀ a ∈ gr ++ g', a ∈ g ∨ H a = none) → Rel K T C Hd' H' (vr :: ws) (sr :: ss.set j (.own oo (t.put pt u'))) := by
  obtain ⟨f, h, nd, hf⟩ := R.env
  obtain ⟨w0, g0, h1, h2, h3, h4, h5⟩ := h.slot nd e
  cases h2 with
  | own hm hj =>
    rename_i v
    obtain ⟨w, g, q0, q1, q2, q3, q4⟩ := OAt.path pt t u v g0 ep hm h3
    refine ⟨v, w, g, h1, q0, q1, q2, fun a ha => (hf a (h4 a (q3 a ha))).1, OAt.there _ _ _ q1, fun a ha => (hf a (h4 a (q3 a ha))).2, fun Hd' H' u' g' vr sr gr b k hr h' nd0 hd0 hg0 => ?_⟩
    obtain ⟨nr, nd', ndr⟩ := List.nodup_append.mp nd0
    have hg : ∀ a ∈ g', a ∈ g ∨ H a = none := fun a ha => hg0 a (List.mem_append_right _ ha)
    have hd' : ∀ a ∈ g', Hd' a = none := fun a ha => hd0 a (List.mem_append_right _ ha)
    have kp : ∀ a ∈ f, a ∉ g → H' a = H a := fun a ha hn => by
      cases e1 : H a with
      | none => exact absurd e1 (h.there a ha)
      | some u => exact k.kh a u e1 hn
    obtain ⟨f1, r1, r2, r3⟩ := q4 Hd' H' u' g' k.kd (fun a ha hn => kp a (h4 a ha) hn) h' nd' (fun a ha => (hg a ha).imp id fun z m => h.there a (h4 a m) z)
    obtain ⟨f2, s1, s2, s3⟩ := h5 Hd' H' (some v) (.own oo (t.put pt u')) f1 k.kd (fun a ha hn => kp a ha fun z => hn (q3 a z)) (.own r1 hj) r2 (fun a ha => by
      rcases r3 a ha with z | z
      · exact .inl z.1
      · exact (hg a z).imp (q3 a) fun y m => h.there a m y)
    rw [set_self' h1] at s1
    have inF : ∀ a ∈ f2, (a ∈ f ∧ a ∉ g) ∨ a ∈ g' := fun a ha => by
      rcases s3 a ha with z | z
      · exact .inl ⟨z.1, fun y => z.2 (q3 a y)⟩
      · rcases r3 a z with y | y
        · exact .inl ⟨h4 a y.1, y.2⟩
        · exact .inr y
    have sp : ∀ a, (a ∈ g ∨ H a = none) → C.H0 a = none ∨ a ∈ C.P := fun a m => by
      rcases m with m | m
      · exact (hf a (h4 a (q3 a m))).2
      · exact .inl (R.free0 m).2
    refine ⟨b, R.keep.trans k fun a ha => (hf a (h4 a (q3 a ha))).2, gr ++ f2, .cons hr s1, List.nodup_append.mpr ⟨nr, s2, fun a ha c hc e => ?_⟩, fun a ha => ?_⟩
    · subst e
      rcases inF a hc with z | z
      · rcases hg0 a (List.mem_append_left _ ha) with y | y
        · exact z.2 y
        · exact h.there a z.1 y
      · exact ndr a ha a z rfl
    · rcases List.mem_append.mp ha with ha | ha
      · exact ⟨hd0 a (List.mem_append_left _ ha), sp a (hg0 a (List.mem_append_left _ ha))⟩
      · rcases inF a ha with z | z
        · exact ⟨(k.kn a (h.there a z.1) z.2).trans (hf a z.1).1, (hf a z.1).2⟩
        · exact ⟨hd' a z, sp a (hg a z)⟩
theorem Rel.path {j : Nat} {oo : Option Nat} {t u : OT} {pt : List Nat} (R : Rel K T C Hd H ws ss) (e : ss[j]? = some (.own oo t)) (ep : t.at pt = some u) : ∃ v w g, ws[j]? = some (some v) ∧ rdP H v pt = some w ∧ OAt K T Hd H w u g ∧ g.Nodup ∧ (∀ a ∈ g, Hd a = none) ∧ (∀ a ∈ g, H a ≠ none) ∧ (∀ a ∈ g, C.H0 a = none ∨ a ∈ C.P) ∧
    ∀ (Hd' H' : Hp) (u' : OT) (g' : List Addr), Bas Hd' H' → Keep g Hd H Hd' H' → OAt K T Hd' H' w u' g' → g'.Nodup → (∀ a ∈ g', Hd' a = none) → (∀ a ∈ g', a ∈ g ∨ H a = none) → Rel K T C Hd' H' ws (ss.set j (.own oo (t.put pt u'))) := by
  obtain ⟨v, w, g, h1, h2, h3, h4, h5, h6, h7, h8⟩ := R.path2 e ep
  exact ⟨v, w, g, h1, h2, h3, h4, h5, h6, h7, fun Hd' H' u' g' b k h' nd' hd' hg => (h8 Hd' H' u' g' none .un [] b k .un h' nd' hd' hg).drop⟩
/-- one object of an own thing is changed -/
theorem Rel.pathU {j : Nat} {oo : Option Nat} {t u : OT} {pt : List Nat} (R : Rel K T C Hd H ws ss) (e : ss[j]? = some (.own oo t)) (ep : t.at pt = some u) : ∃ v w g, ws[j]? = some (some v) ∧ rdP H v pt = some w ∧ OAt K T Hd H w u g ∧
    ∀ (p : Addr) (o' : HO) (u' : OT), p ∈ g → isDat o' = false → OAt K T Hd (upd H p o') w u' g → Rel K T C Hd (upd H p o') ws (ss.set j (.own oo (t.put pt u'))) := by
  obtain ⟨v, w, g, h1, h2, h3, h4, h5, h6, h7, h8⟩ := R.path e ep
  refine ⟨v, w, g, h1, h2, h3, fun p o' u' hp hn h' => h8 Hd _ u' g ⟨fun a q z => ?_, fun a xs z i => ?_⟩ ⟨.refl _, fun a q z n => ?_, fun a n => ?_, fun _ _ _ => rfl⟩ h' h4 h5 fun a ha => .inl ha⟩
  · rw [upd_ne fun y => by rw [y, h5 p hp] at z; cases z]; exact R.bas.sub a q z
  · by_cases y : a = p
    · subst y; rw [upd_same] at z; cases z; rw [hn] at i; cases i
    · rw [upd_ne y] at z; exact R.bas.tps a xs z i
  · rw [upd_ne (fun (y : a = p) => n (y ▸ hp))]; exact z
  · by_cases y : a = p
    · subst y; rw [upd_same]; simp
    · rw [upd_ne y]; exact n
theorem Rel.atLd {j : Nat} {oo : Option Nat} {ds : List D} {t : OT} {pt : List Nat} (R : Rel K T C Hd H ws ss) (e : ss[j]? = some (.own oo t)) (ep : t.at pt = some (.ld ds)) : ∃ v p vs, ws[j]? = some (some v) ∧ rdP H v pt = some (.ref p) ∧ H p = some (.lst vs) ∧ ImL K T Hd vs ds ∧
    ∀ vs' ds', ImL K T Hd vs' ds' → Rel K T C Hd (upd H p (.lst vs')) ws (ss.set j (.own oo (t.put pt (.ld ds')))) := by
  obtain ⟨v, w, g, h1, h2, h3, h4⟩ := R.pathU e ep
  cases h3 with
  | ld a1 a2 => exact ⟨v, _, _, h1, h2, a1, a2, fun vs' ds' l => h4 _ _ _ (by simp) rfl (.ld upd_same l)⟩
theorem Rel.atDd {j : Nat} {oo : Option Nat} {es : List (DKey × D)} {t : OT} {pt : List Nat} (R : Rel K T C Hd H ws ss) (e : ss[j]? = some (.own oo t)) (ep : t.at pt = some (.dd es)) : ∃ v p kvs, ws[j]? = some (some v) ∧ rdP H v pt = some (.ref p) ∧ H p = some (.dK kvs) ∧ kvs.map (·.1) = es.map (fun e => e.1.k) ∧ ImL K T Hd (kvs.map (·.2)) (es.map (·.2)) ∧
    ∀ kvs' es', kvs'.map (·.1) = es'.map (fun (e : DKey × D) => e.1.k) → ImL K T Hd (kvs'.map (·.2)) (es'.map (·.2)) → Rel K T C Hd (upd H p (.dK kvs')) ws (ss.set j (.own oo (t.put pt (.dd es')))) := by
  obtain ⟨v, w, g, h1, h2, h3, h4⟩ := R.pathU e ep
  cases h3 with
  | dd a1 a2 a3 => exact ⟨v, _, _, h1, h2, a1, a2, a3, fun vs' ds' l l2 => h4 _ _ _ (by simp) rfl (.dd upd_same l l2)⟩
/-- two places change their order -/
theorem Rel.swap {w w' : Option V} {s s' : Sl} (R : Rel K T C Hd H (w :: w' :: ws) (s :: s' :: ss)) : Rel K T C Hd H (w' :: w :: ws) (s' :: s :: ss) := by
  obtain ⟨f, h, nd, hf⟩ := R.env
  cases h with
  | cons m' h =>
    cases h with
    | cons m h =>
      rename_i f1 f2 f3
      have pm : (f3 ++ (f1 ++ f2)).Perm (f1 ++ (f3 ++ f2)) := by
        rw [← List.append_assoc, ← List.append_assoc]
        exact List.Perm.append_right _ List.perm_append_comm
      exact ⟨R.bas, R.keep, _, .cons m (.cons m' h), by first | exact pm.nodup_iff.mpr nd | exact pm.symm.nodup_iff.mpr nd, fun a ha => hf a (by first | exact pm.mem_iff.mp ha | exact pm.symm.mem_iff.mp ha)⟩
/-- the head goes to its slot -/
theorem Rel.putHead {w : Option V} {s : Sl} {j : Nat} (R : Rel K T C Hd H (w :: ws) (s :: ss)) (hj : j < ws.length) : Rel K T C Hd H (ws.set j w) (ss.set j s) := by
  obtain ⟨f, h, nd, hf⟩ := R.env
  cases h with
  | cons m h =>
    rename_i f1 g1
    obtain ⟨n1, n2, n3⟩ := List.nodup_append.mp nd
    have hj2 : j < ss.length := by rw [← h.length]; exact hj
    obtain ⟨w0, g0, h1, h2, h3, h4, h5⟩ := h.slot (j := j) n2 (List.getElem?_eq_getElem hj2)
    obtain ⟨f', q1, q2, q3⟩ := h5 Hd H w s g1 (.refl _) (fun _ _ _ => rfl) m n1 (fun a ha => .inr fun hb => n3 a ha a hb rfl)
    refine ⟨R.bas, R.keep, f', q1, q2, fun a ha => hf a ?_⟩
    rcases q3 a ha with z | z
    · exact List.mem_append_right _ z.1
    · exact List.mem_append_left _ z
theorem Rel.storeS {w : Option V} {s : Sl} (i : Nat) (hl : ws.length = ss.length) (R : Rel K T C Hd H (w :: (ws ++ σ)) (s :: (ss ++ δ))) : Rel K T C Hd H (ws ++ σ.set i w) (ss ++ δ.set i s) := by
  have hlen := R.drop.len
  simp only [List.length_append] at hlen
  by_cases hi : i < σ.length
  · have h := R.putHead (j := ws.length + i) (by simp; omega)
    rw [List.set_append_right _ _ (by omega), List.set_append_right _ _ (by omega)] at h
    simpa [hl] using h
  · rw [List.set_eq_of_length_le (by omega), List.set_eq_of_length_le (by omega)]
    exact R.drop
/-- all that is held alone is read as data -/
def thaw : Env → Env := List.map fun
  | .own _ t => .d t.toD
  | s => s
theorem thaw_append (a b : Env) : thaw (a ++ b) = thaw a ++ thaw b := List.map_append
theorem EAt.thaw (s : Same Hd H) : ∀ {ws : L2.St} {ss : Env} {f : List Addr}, EAt K T pv Hd H ws ss f → EAt K T pv H H ws (L2.DL.thaw ss) []
  | _, _, _, .nil => .nil
  | _, _, _, .cons m h => by
    cases m with
    | un => exact .cons .un (EAt.thaw s h)
    | exc z => exact .cons (.exc z) (EAt.thaw s h)
    | d m => exact .cons (.d (m.to s)) (EAt.thaw s h)
    | own m _ => exact .cons (.d (OAt.frz s _ _ _ (fun _ _ => rfl) m)) (EAt.thaw s h)
def Ctx.th (C : Ctx) (H : Hp) : Ctx := ⟨H, H, [], C.pv⟩
theorem Rel.thaw (R : Rel K T C Hd H ws ss) : Rel K T (C.th H) H H ws (L2.DL.thaw ss) :=
  ⟨⟨.refl _, fun _ _ h _ => h⟩, .refl, [], let ⟨_, h, _⟩ := R.env; h.thaw R.bas.sub, .nil, by simp⟩
mutual
/-- no lists, dicts, instances -/
def lfree : D → Bool
  | .lst _ => false
  | .dic _ => false
  | .ins _ _ => false
  | .tup xs => lfreeL xs
  | _ => true
def lfreeL : List D → Bool
  | [] => true
  | x :: xs => lfree x && lfreeL xs
end
mutual
theorem Im.lf (k : ∀ a xs, SqT K Hd a xs → SqT K Hd' a xs) : ∀ (x : D) (v : V), lfree x = true → Im K T Hd v x → Im K T Hd' v x
  | .non, _, _, h => by cases h; exact .non
  | .bl b, _, _, h => by cases h; exact .bl b
  | .int i, _, _, h => by cases h; exact .int i
  | .str cs, _, _, h => by cases h; exact .str cs
  | .tup xs, _, l, h => by
    cases h with
    | tup hs hl => exact .tup (k _ _ hs) (ImL.lf k xs _ l hl)
  | .lst xs, _, l, h => by cases l
  | .dic es, _, l, h => by cases l
  | .ins c xs, _, l, h => by cases l
theorem ImL.lf (k : ∀ a xs, SqT K Hd a xs → SqT K Hd' a xs) : ∀ (xs : List D) (vs : List V), lfreeL xs = true → ImL K T Hd vs xs → ImL K T Hd' vs xs
  | [], _, _, h => by cases h; exact .nil
  | x :: xs, _, l, h => by
    have l2 : (lfree x && lfreeL xs) = true := l
    rw [Bool.and_eq_true] at l2
    cases h with
    | cons h1 h2 => exact .cons (Im.lf k x _ l2.1 h1) (ImL.lf k xs _ l2.2 h2)
end
/-- back to what was held alone: the data heap has what is new -/
def backHd (Hd H Hd' : Hp) : Hp := fun a => match H a with
  | none => Hd' a
  | some _ => Hd a
theorem Rel.back {Hd' H' : Hp} (R : Rel K T C Hd H ws ss) (b : Bas Hd' H') (k : Keep [] H H Hd' H') : Bas (backHd Hd H Hd') H' ∧ Keep [] Hd H (backHd Hd H Hd') H' ∧ ∀ a xs, SqT K Hd' a xs → SqT K (backHd Hd H Hd') a xs := by
  have e1 : ∀ a, H a = none → backHd Hd H Hd' a = Hd' a := fun a e => by simp only [backHd, e]
  have e2 : ∀ a, H a ≠ none → backHd Hd H Hd' a = Hd a := fun a e => by
    cases q : H a with
    | none => exact absurd q e
    | some o => simp only [backHd, q]
  have tp : ∀ a u, Hd' a = some u → isDat u = true → backHd Hd H Hd' a = some u := fun a u q i => by
    by_cases n : H a = none
    · rw [e1 a n]; exact q
    · rw [e2 a n]
      have q2 : H a = some u := (k.kn a n (by simp)) ▸ q
      exact R.bas.tps a u q2 i
  refine ⟨⟨fun a u q => ?_, fun a u q i => ?_⟩, ⟨fun a u q => ?_, k.kh, k.kt, fun a n _ => e2 a n⟩, fun a xs q => ?_⟩
  · by_cases n : H a = none
    · rw [e1 a n] at q; exact b.sub a u q
    · rw [e2 a n] at q; exact k.kh a u (R.bas.sub a u q) (by simp)
  · exact tp a u (b.tps a u q i) i
  · rw [e2 a fun n => by rw [R.bas.free n] at q; cases q]; exact q
  · rcases q with (q | ⟨o, q⟩) | q
    · exact .inl (.inl (tp a _ q rfl))
    · exact .inl (.inr ⟨o, tp a _ q rfl⟩)
    · exact .inr q
end
/-! ### expressions that make a new thing -/
abbrev DO := Env → Out OT
def OPost (K : PySem.W.Frag) (T : Tab) (C : Ctx) (σ : L2.St) (W : WX) (ρw : L2.St) (ρs : Env) (H : Hp) (o : Out OT) (Q : VK) : Prop := match o with
  | .ok t => ∀ v Hd' H', Rel K T C Hd' H' (some v :: ρw) (.own none t :: ρs) → Same H H' → Q v H'
  | .ex x => ∀ cls dx Hd' H', Rel K T C Hd' H' ρw ρs → Same H H' → XAt T H' cls dx x → W cls dx σ H'
  | .stuck => False
def SndO (T : Tab) (X : Cx) (W : WX) (te : TE) (r : DO) : Prop := ∀ (C : Ctx) (Hd H : Hp) (ws : L2.St) (ss : Env) (σ : L2.St) (δ : Env) (Q : VK), ws.length = ss.length → Rel X.K T C Hd H (ws ++ σ) (ss ++ δ) →
  OPost X.K T C σ W (ws ++ σ) (ss ++ δ) H (r δ) Q → te σ H Q
structure PDO (T : Tab) (X : Cx) (W : WX) (e : Expr) (r : DO) : Prop where
  ex : ∃ te, PE X e te ∧ SndO T X W te r
def rO (r : DO) : DE := fun δ => (r δ).bind fun t => .ok t.toD
def oS' (o : Out OT) (δ : Env) (k : OT → SO) : SO := match o with
  | .ok t => k t
  | .ex x => .ex x δ
  | .stuck => .stuck
/-- an own thing is set into a slot, returned -/
def sSetO (i : Nat) (r : DO) : DS := fun δ => oS' (r δ) δ fun t => .nx (δ.set i (.own none t))
def sRetO (r : DO) : DS := fun δ => oS' (r δ) δ fun t => .ro t δ
def fLst (rl : DA) : DO := fun δ => (rl δ).bind fun xs => if xs.length ≤ 16777216 then .ok (.ld xs) else .stuck
/-- with all that is held alone read as data -/
def rThaw (r : DE) : DE := fun δ => (r (thaw δ)).bind fun d => if lfree d then .ok d else .stuck
def tThaw (r : DT) : DT := fun δ => r (thaw δ)
def flat : OT → Bool
  | .ld ds => lfreeL ds
  | .dd es => lfreeL (es.map (·.2))
  | _ => false
def oThaw (r : DO) : DO := fun δ => (r (thaw δ)).bind fun t => if flat t then .ok t else .stuck
/-- slots frozen -/
def frz1 (i : Nat) (δ : Env) : Env := match δ[i]? with
  | some (.own _ t) => δ.set i (.d t.toD)
  | _ => δ
def frzs : List Nat → Env → Env
  | [], δ => δ
  | i :: is, δ => frzs is (frz1 i δ)
def sFrz (is : List Nat) (s : DS) : DS := fun δ => s (frzs is δ)
section
variable {T : Tab} {X : Cx} {W : WX} {a b c e : Expr} {es : List Expr} {st : Stmt} {rest body : List Stmt} {ra rb rc re : DE} {rl : DA} {ro : DO} {qa qb : DT} {s u : DS} {ta tb tc te : TE} {pos : Pos}
theorem snd_of_o (h : SndO T X W te ro) : Snd T X W te (rO ro) := by
  intro C Hd H ws ss σ δ Q hl hR hP
  refine h C Hd H ws ss σ δ Q hl hR ?_
  unfold rO at hP
  cases e : ro δ with
  | stuck => rw [e] at hP; exact hP
  | ex x => rw [e] at hP; exact hP
  | ok xs =>
    rw [e] at hP
    intro v Hd' H' R' s'
    obtain ⟨Hd2, R2⟩ := R'.frz (j := 0) rfl
    exact hP v Hd2 H' R2 s'
theorem pd_o (h : PDO T X W e ro) : PDE T X W e (rO ro) := let ⟨t, p, q⟩ := h; ⟨t, p, snd_of_o q⟩
theorem snd_thaw (h : Snd T X W te re) : Snd T X W te (rThaw re) := by
  intro C Hd H ws ss σ δ Q hl hR hP
  have R1 := hR.thaw
  rw [thaw_append] at R1
  refine h (C.th H) H H ws (thaw ss) σ (thaw δ) Q (by rw [hl]; exact (List.length_map _).symm) R1 ?_
  unfold rThaw at hP
  cases e : re (thaw δ) with
  | stuck => rw [e] at hP; exact hP
  | ex x =>
    rw [e] at hP
    intro cls dx Hd' H' R' s' xa
    obtain ⟨b, k, _⟩ := hR.back R'.bas R'.keep
    exact hP cls dx _ H' (hR.on b k) s' xa
  | ok d =>
    rw [e] at hP
    intro v Hd' H' R' s'
    obtain ⟨b, k, tp⟩ := hR.back R'.bas R'.keep
    by_cases hd : lfree d = true
    · simp only [Out.bind, hd, if_true] at hP
      exact hP v _ H' ((hR.on b k).push (Im.lf tp d v hd R'.headv)) s'
    · simp only [Out.bind, hd, if_false] at hP
      exact hP.elim
theorem pd_thaw (h : PDE T X W e re) : PDE T X W e (rThaw re) := let ⟨t, p, q⟩ := h; ⟨t, p, snd_thaw q⟩
theorem sndT_thaw {tt : TT} (h : SndT T X W tt qa) : SndT T X W tt (tThaw qa) := by
  intro C Hd H ws ss σ δ Q hl hR hP
  have R1 := hR.thaw
  rw [thaw_append] at R1
  refine h (C.th H) H H ws (thaw ss) σ (thaw δ) Q (by rw [hl]; exact (List.length_map _).symm) R1 ?_
  unfold tThaw at hP
  cases e : qa (thaw δ) with
  | stuck => rw [e] at hP; exact hP
  | ex x =>
    rw [e] at hP
    intro cls dx Hd' H' R' s' xa
    obtain ⟨b, k, _⟩ := hR.back R'.bas R'.keep
    exact hP cls dx _ H' (hR.on b k) s' xa
  | ok d =>
    rw [e] at hP
    intro Hd' H' R' s'
    obtain ⟨b, k, tp⟩ := hR.back R'.bas R'.keep
    exact hP _ H' (hR.on b k) s'
theorem pdt_thaw (h : PDT T X W e qa) : PDT T X W e (tThaw qa) := let ⟨t, p, q⟩ := h; ⟨t, p, sndT_thaw q⟩
theorem OAt.flat {K : PySem.W.Frag} {Hd Hd' H : Hp} (tp : ∀ a xs, SqT K Hd a xs → SqT K Hd' a xs) {t : OT} {v : V} {g : List Addr} (hf : L2.DL.flat t = true) (h : OAt K T Hd H v t g) : OAt K T Hd' H v t g := by
  cases h with
  | ld h1 h2 => exact .ld h1 (ImL.lf tp _ _ hf h2)
  | dd h1 h2 h3 => exact .dd h1 h2 (ImL.lf tp _ _ hf h3)
  | _ => cases hf
theorem sndO_thaw (h : SndO T X W te ro) : SndO T X W te (oThaw ro) := by
  intro C Hd H ws ss σ δ Q hl hR hP
  have R1 := hR.thaw
  rw [thaw_append] at R1
  refine h (C.th H) H H ws (thaw ss) σ (thaw δ) Q (by rw [hl]; exact (List.length_map _).symm) R1 ?_
  unfold oThaw at hP
  cases e : ro (thaw δ) with
  | stuck => rw [e] at hP; exact hP
  | ex x =>
    rw [e] at hP
    intro cls dx Hd' H' R' s' xa
    obtain ⟨b, k, _⟩ := hR.back R'.bas R'.keep
    exact hP cls dx _ H' (hR.on b k) s' xa
  | ok t =>
    rw [e] at hP
    intro v Hd' H' R' s'
    obtain ⟨b, k, tp⟩ := hR.back R'.bas R'.keep
    by_cases hd : flat t = true
    · simp only [Out.bind, hd, if_true] at hP
      refine hP v (backHd Hd H Hd') H' ?_ s'
      have R2 := hR.on b k
      obtain ⟨f, h0, nd, hf⟩ := hR.env
      have h1 : EAt X.K T C.pv (backHd Hd H Hd') H' (ws ++ σ) (ss ++ δ) f := h0.to k.kd fun a ha => by
        cases e : H a with
        | none => exact absurd e (h0.there a ha)
        | some u => exact k.kh a u e (by simp)
      obtain ⟨f', h1', nd', hf'⟩ := R'.env
      cases h1' with
      | cons m _ =>
        cases m with
        | own m hj =>
          rename_i f2 g hh
          have hg : ∀ a ∈ g, Hd' a = none ∧ H a = none := fun a ha => by
            have := hf' a (List.mem_append_left _ ha)
            exact ⟨this.1, this.2.resolve_right (by simp [Ctx.th])⟩
          refine ⟨R2.bas, R2.keep, g ++ f, .cons (.own (OAt.flat tp hd m) (by simp)) h1, List.nodup_append.mpr ⟨(List.nodup_append.mp nd').1, nd, fun a ha b hb e => ?_⟩, fun a ha => ?_⟩
          · subst e
            exact h0.there a hb (hg a ha).2
          · rcases List.mem_append.mp ha with z | z
            · refine ⟨?_, .inl (hR.free0 (hg a z).2).2⟩
              simp only [backHd, (hg a z).2]
              exact (hg a z).1
            · exact ⟨(k.kn a (h0.there a z) (by simp)).trans (hf a z).1, (hf a z).2⟩
    · simp only [Out.bind, hd, if_false] at hP
      exact hP.elim
theorem pdo_thaw (h : PDO T X W e ro) : PDO T X W e (oThaw ro) := let ⟨t, p, q⟩ := h; ⟨t, p, sndO_thaw q⟩
theorem pdo_lst (hr : PDA T X W es rl) : PDO T X W (.List es pos) (fLst rl) := by
  obtain ⟨tb, pb, sb⟩ := hr
  refine ⟨_, pe_lst pb, ?_⟩
  intro C Hd H ws ss σ δ Q hl hR hP
  unfold fLst at hP
  refine sb C Hd H ws ss σ δ _ hl hR ?_
  cases e1 : rl δ with
  | stuck => simp only [e1, Out.bind] at hP; exact hP
  | ex x => simp only [e1, Out.bind] at hP; exact hP
  | ok xs =>
    simp only [e1, Out.bind] at hP
    intro vs Hd1 H1 R1 l1 s1
    by_cases hz : xs.length ≤ 16777216
    · rw [if_pos hz] at hP
      exact ⟨by rw [l1.length, sizeLine_eq]; exact hz, fun p hp => hP _ _ _ (R1.newO hp l1) (s1.trans (same_new hp))⟩
    · rw [if_neg hz] at hP; exact hP.elim
theorem sndS_o {k : OT → Env → SO} {g : V → TS} (sa : SndO T X W te ro) (h : ∀ (C : Ctx) (Hd H : Hp) (ws : L2.St) (ss : Env) (σ : L2.St) (δ : Env) (D : Ends) (v : V) (t : OT), ws.length = ss.length → Rel X.K T C Hd H (some v :: (ws ++ σ)) (.own none t :: (ss ++ δ)) → SPost X.K T C W ws ss (k t δ) D → g v D σ H) :
    SndS T X W (fun D σ H => te σ H fun v H1 => g v D σ H1) (fun δ => oS' (ro δ) δ fun t => k t δ) := by
  intro C Hd H ws ss σ δ D hl hR hP
  refine sa C Hd H ws ss σ δ _ hl hR ?_
  cases e : ro δ with
  | stuck => simp only [e, oS'] at hP; exact hP
  | ex x => simp only [e, oS'] at hP; exact fun cls dx Hd' H' R' s' xa => hP cls dx Hd' H' σ R' xa
  | ok d => simp only [e, oS'] at hP; exact fun v Hd' H' R' s' => h C Hd' H' ws ss σ δ D v d hl R' hP
theorem pds_setO {i : Nat} {x : Str} {pos' : Pos} (hN : X.N.Nodup) (hi : X.N[i]? = some x) (hx : Loc X.env.scope x) (ha : PDO T X W e ro) (hs : swapsWith e (some (.Name x pos')) pos.line X.env = pure false) (hf : X.fn x = true ∨ X.env.scope.names.lookup x = some .local := by first | exact .inl rfl | exact .inr rfl | assumption) :
    PDS T X W (.Assign [.Name x pos'] e pos) (sSetO i ro) := by
  obtain ⟨te, p, q⟩ := ha
  exact ⟨_, ps_set hN hi hx p hs hf, sndS_o (g := fun v D σ H => D.nx (σ.set i (some v)) H) (k := fun t δ => .nx (δ.set i (.own none t))) q fun C Hd H ws ss σ δ D v xs hl R hP => hP Hd H _ (R.storeS i hl)⟩
theorem pds_retO (ha : PDO T X W e ro) : PDS T X W (.Return (some e) pos) (sRetO ro) := by
  obtain ⟨te, p, q⟩ := ha
  exact ⟨_, ps_ret p, sndS_o (g := fun v D σ H => D.rt v H) (k := fun t δ => .ro t δ) q fun C Hd H ws ss σ δ D v x hl R hP => hP v Hd H σ R⟩
/-! ### freezing -/
theorem Rel.frzs {K : PySem.W.Frag} {C : Ctx} {ws : L2.St} {ss : Env} {σ : L2.St} (hl : ws.length = ss.length) : ∀ {is : List Nat} {Hd H : Hp} {δ : Env}, Rel K T C Hd H (ws ++ σ) (ss ++ δ) → ∃ Hd', Rel K T C Hd' H (ws ++ σ) (ss ++ L2.DL.frzs is δ)
  | [], Hd, _, _, R => ⟨Hd, R⟩
  | i :: is, Hd, H, δ, R => by
    have h1 : ∃ Hd', Rel K T C Hd' H (ws ++ σ) (ss ++ frz1 i δ) := by
      unfold frz1
      cases e : δ[i]? with
      | none => exact ⟨Hd, R⟩
      | some s =>
        cases s with
        | un => exact ⟨Hd, R⟩
        | exc => exact ⟨Hd, R⟩
        | d x => exact ⟨Hd, R⟩
        | own oo t =>
          have e' : (ss ++ δ)[ss.length + i]? = some (.own oo t) := by rw [List.getElem?_append_right (by omega)]; simpa using e
          obtain ⟨Hd', R'⟩ := R.frz e'
          rw [List.set_append_right _ _ (by omega)] at R'
          exact ⟨Hd', by simpa using R'⟩
    obtain ⟨Hd1, R1⟩ := h1
    exact Rel.frzs hl (is := is) R1
theorem pds_frz (is : List Nat) (h : PDS T X W st s) : PDS T X W st (sFrz is s) := by
  obtain ⟨t, p, q⟩ := h
  refine ⟨t, p, fun C Hd H ws ss σ δ D hl hR hP => ?_⟩
  obtain ⟨Hd', R'⟩ := Rel.frzs hl (is := is) hR
  exact q C Hd' H ws ss σ _ D hl R' hP
theorem pdss_frz {st : List Stmt} (is : List Nat) (h : PDSs T X W st s) : PDSs T X W st (sFrz is s) := by
  obtain ⟨t, p, q⟩ := h
  refine ⟨t, p, fun C Hd H ws ss σ δ D hl hR hP => ?_⟩
  obtain ⟨Hd', R'⟩ := Rel.frzs hl (is := is) hR
  exact q C Hd' H ws ss σ _ D hl R' hP
end
end L2.DL

/-! ## DL7 -/
set_option linter.all false
set_option maxRecDepth 100000
set_option maxHeartbeats 4000000
/-! DL7: comprehensions. -/
namespace L2.DL
open PySem PySem.Spec PyProof.Rows L2
def WF : WX := fun _ _ _ _ => False
section
variable {K : PySem.W.Frag} {T : Tab} {C : Ctx} {Hd H : Hp} {ws σ : L2.St} {ss δ : Env}
theorem Rel.fgtW (hl : ws.length = ss.length) (R : Rel K T C Hd H (ws ++ σ) (ss ++ δ)) : ∀ is : List Nat, Rel K T C Hd H (ws ++ wipe σ is) (ss ++ L2.DL.fgt is δ)
  | [] => R
  | i :: is => (Rel.fgtW hl R is).fgt1 i none hl
theorem wipe_in {i : Nat} {σ : L2.St} : ∀ {vs : List Nat}, i ∈ vs → i < σ.length → (wipe σ vs)[i]? = some none
  | [], h, _ => by simp at h
  | v :: vs, h, hl => by
    show ((wipe σ vs).set v none)[i]? = some none
    by_cases e : v = i
    · subst e
      rw [List.getElem?_set_self (by rw [wipe_length]; exact hl)]
    · rw [List.getElem?_set_ne e]
      exact wipe_in ((List.mem_cons.mp h).resolve_left fun z => e z.symm) hl
theorem wipe_wipe {σ : L2.St} {vs : List Nat} : wipe (wipe σ vs) vs = wipe σ vs := by
  apply List.ext_getElem?
  intro i
  by_cases h : i ∈ vs
  · by_cases hl : i < σ.length
    · rw [wipe_in h hl, wipe_in h (by rw [wipe_length]; exact hl)]
    · rw [List.getElem?_eq_none (by rw [wipe_length, wipe_length]; omega), List.getElem?_eq_none (by rw [wipe_length]; omega)]
  · rw [wipe_out h]
end
section
variable {T : Tab} {X : Cx} {scope : Scope} {e : Expr} {r : DE} {q : DT} {g : DG} {is : List Nat} {ifs : List Expr}
theorem pde_all (h : ∀ (s : Shared) (H : Hp) (C : Addr) (cl : List (Str × Addr)) (fp : List Addr), PDE T (X.blk s H scope (compEnvC scope cl C X.env) fp) WF e r) :
    ∃ te, (∀ (s : Shared) (H : Hp) (C : Addr) (cl : List (Str × Addr)) (fp : List Addr), PE (X.blk s H scope (compEnvC scope cl C X.env) fp) e te) ∧ Snd T X WF te r := by
  refine ⟨fun σ H Q => ∀ s H0 C cl fp, (h s H0 C cl fp).ex.choose σ H Q, fun s H0 C cl fp => ?_, ?_⟩
  · have p := (h s H0 C cl fp).ex.choose_spec.1
    exact ⟨fun pins s' σ H Q I q => p.run pins s' σ H Q I (q s H0 C cl fp)⟩
  · intro C Hd H ws ss σ δ Q hl hR hP s H0 C' cl fp
    exact (h s H0 C' cl fp).ex.choose_spec.2 C Hd H ws ss σ δ Q hl hR hP
theorem pdg_all (h : ∀ (s : Shared) (H : Hp) (C : Addr) (cl : List (Str × Addr)) (fp : List Addr), PDG T (X.blk s H scope (compEnvC scope cl C X.env) fp) e g is) :
    ∃ te, (∀ (s : Shared) (H : Hp) (C : Addr) (cl : List (Str × Addr)) (fp : List Addr), PG (X.blk s H scope (compEnvC scope cl C X.env) fp) e te) ∧ DtgS T X te g is := by
  refine ⟨fun v σ H Q => ∀ s H0 C cl fp, (h s H0 C cl fp).ex.choose v σ H Q, fun s H0 C cl fp => ?_, ?_⟩
  · have p := (h s H0 C cl fp).ex.choose_spec.1
    exact ⟨fun pins s' σ H x v Q I rx q => p.run pins s' σ H x v Q I rx (q s H0 C cl fp)⟩
  · intro C Hd H ws ss σ δ δ' v x Q hl hR hr hP s H0 C' cl fp
    exact (h s H0 C' cl fp).ex.choose_spec.2 C Hd H ws ss σ δ δ' v x Q hl hR hr hP
/-- a clause's tests -/
structure PDIf (T : Tab) (X : Cx) (W : WX) (ifs : List Expr) (r : DT) : Prop where
  ex : ∃ tt, PTs X ifs tt ∧ SndT T X W tt r
def rYes : DT := fun _ => .ok true
theorem pdif_nil {W : WX} : PDIf T X W [] rYes := ⟨_, pts_nil, fun C Hd H ws ss σ δ Q hl hR hP => hP Hd H hR (.refl _)⟩
theorem pdif_one {W : WX} (h : PDT T X W e q) : PDIf T X W [e] q := let ⟨t, p, s⟩ := h; ⟨_, pts_one p, s⟩
theorem pdif_all (h : ∀ (s : Shared) (H : Hp) (C : Addr) (cl : List (Str × Addr)) (fp : List Addr), PDIf T (X.blk s H scope (compEnvC scope cl C X.env) fp) WF ifs q) :
    ∃ te, (∀ (s : Shared) (H : Hp) (C : Addr) (cl : List (Str × Addr)) (fp : List Addr), PTs (X.blk s H scope (compEnvC scope cl C X.env) fp) ifs te) ∧ SndT T X WF te q := by
  refine ⟨fun σ H Q => ∀ s H0 C cl fp, (h s H0 C cl fp).ex.choose σ H Q, fun s H0 C cl fp => ?_, ?_⟩
  · have p := (h s H0 C cl fp).ex.choose_spec.1
    exact ⟨fun pins s' σ H Q I q => p.run pins s' σ H Q I (q s H0 C cl fp)⟩
  · intro C Hd H ws ss σ δ Q hl hR hP s H0 C' cl fp
    exact (h s H0 C' cl fp).ex.choose_spec.2 C Hd H ws ss σ δ Q hl hR hP
end
/-- [re for g in xs if t] -/
def compL (g : DG) (t : DT) (re : DE) (δ0 : Env) : List D → Out (List D)
  | [] => .ok []
  | x :: xs => match g x δ0 with
    | none => .stuck
    | some δ1 => match t δ1 with
      | .ok b => if b = true then (match re δ1 with
        | .ok d => (compL g t re δ0 xs).bind fun ds => .ok (d :: ds)
        | _ => .stuck) else compL g t re δ0 xs
      | _ => .stuck
def fComp (vs : List Nat) (ri : DIt) (g : DG) (t : DT) (re : DE) : DO := fun δ => (ri δ).bind fun xs => (compL g t re (fgt vs (dat δ)) xs).bind fun ds => if ds.length ≤ 16777216 then .ok (.ld ds) else .stuck
theorem compL_no_ex (g : DG) (t : DT) (re : DE) (δ0 : Env) : ∀ (xs : List D) (x : XD), compL g t re δ0 xs ≠ .ex x
  | [], x => by simp [compL]
  | y :: ys, x => by
    unfold compL
    have ih := compL_no_ex g t re δ0 ys
    split
    · simp
    · split
      · split
        · split
          · cases e : compL g t re δ0 ys with
            | ok a => simp [Out.bind]
            | ex z => exact absurd e (ih z)
            | stuck => simp [Out.bind]
          · simp
        · exact ih x
      · simp
theorem same_updN {H1 H4 : Hp} {L : Addr} {o : HO} (hL : H1 L = none) (s : Same H1 H4) : Same H1 (upd H4 L o) := fun a u h => by rw [upd_ne (ne_of_none h hL)]; exact s a u h
section
variable {T : Tab} {X : Cx} {W : WX} {elt tg iter : Expr} {ifs : List Expr} {scope : Scope} {own : List (Str × Nat)} {pos : Pos} {ri : DIt} {g : DG} {t : DT} {re : DE} {is : List Nat}
theorem Rel.same_of {K : PySem.W.Frag} {C : Ctx} {Hd H Hd' H' : Hp} {ws : L2.St} {ss : Env} (R : Rel K T C Hd H ws ss) : True := trivial
/-- what a comprehension needs -/
structure PDComp (T : Tab) (X : Cx) (W : WX) (elt tg iter : Expr) (ifs : List Expr) (scope : Scope) (own : List (Str × Nat)) (r : DO) : Prop where
  ex : ∃ wi g tt te, PI X tg iter wi ∧ (∀ (s : Shared) (H : Hp) (C : Addr) (cl : List (Str × Addr)) (fp : List Addr), PG (X.blk s H scope (compEnvC scope cl C X.env) fp) tg g) ∧
    (∀ (s : Shared) (H : Hp) (C : Addr) (cl : List (Str × Addr)) (fp : List Addr), PTs (X.blk s H scope (compEnvC scope cl C X.env) fp) ifs tt) ∧ (∀ (s : Shared) (H : Hp) (C : Addr) (cl : List (Str × Addr)) (fp : List Addr), PE (X.blk s H scope (compEnvC scope cl C X.env) fp) elt te) ∧
    SndO T X W (tLc wi g tt te (own.map (·.2))) r
theorem pd_compo (hi : PDI T X W tg iter ri)
    (hg : ∀ (s : Shared) (H : Hp) (C : Addr) (cl : List (Str × Addr)) (fp : List Addr), PDG T (X.blk s H scope (compEnvC scope cl C X.env) fp) tg g is) (ht : ∀ (s : Shared) (H : Hp) (C : Addr) (cl : List (Str × Addr)) (fp : List Addr), PDIf T (X.blk s H scope (compEnvC scope cl C X.env) fp) WF ifs t)
    (he : ∀ (s : Shared) (H : Hp) (C : Addr) (cl : List (Str × Addr)) (fp : List Addr), PDE T (X.blk s H scope (compEnvC scope cl C X.env) fp) WF elt re) (hv : ∀ i ∈ is, i ∈ own.map (·.2) := by decide) :
    PDComp T X W elt tg iter ifs scope own (fComp (own.map (·.2)) ri g t re) := by
  obtain ⟨wi, pi, qi⟩ := hi
  obtain ⟨tg', pg, qg⟩ := pdg_all hg
  obtain ⟨tt, pt, qt⟩ := pdif_all ht
  obtain ⟨te, pe, qe⟩ := pde_all he
  refine ⟨wi, tg', tt, te, pi, pg, pt, pe, ?_⟩
  intro C Hd H ws ss σ δ Q hl hR hP
  unfold fComp at hP
  refine qi C Hd H ws ss σ δ _ hl hR ?_
  cases e1 : ri δ with
  | stuck => simp only [e1, Out.bind] at hP; exact hP
  | ex x => simp only [e1, Out.bind] at hP; exact hP
  | ok xs =>
    simp only [e1, Out.bind] at hP
    intro J tw ts Hd1 H1 R1 s1 hJ L hL
    refine ⟨fun i m H' => i ≤ xs.length ∧ m = xs.length - i ∧ ∃ Hd' acc, Same H1 H' ∧ Rel X.K T C Hd' H' (tw :: some (.ref L) :: (ws ++ σ)) (ts :: .own none (.ld acc) :: (ss ++ δ)) ∧
        OPost X.K T C σ W (ws ++ σ) (ss ++ δ) H ((compL g t re (fgt (own.map (·.2)) (dat δ)) (xs.drop i)).bind fun ds => if (acc ++ ds).length ≤ 16777216 then .ok (.ld (acc ++ ds)) else .stuck) Q,
      ⟨xs.length, Nat.zero_le _, by simp, Hd1, [], same_new hL, (R1.newO hL .nil).swap, by simpa [Out.bind] using hP⟩, ?_⟩
    rintro i m H' ⟨hi, rfl, Hd', acc, sm, R', P'⟩
    obtain ⟨hstop, hgo⟩ := hJ C Hd' H' _ _ R'
    by_cases hlt : i < xs.length
    · have hx : xs[i]? = some xs[i] := List.getElem?_eq_getElem hlt
      obtain ⟨go, hy⟩ := hgo i xs[i] hx
      rw [List.drop_eq_getElem_cons hlt] at P'
      refine .inr ⟨go, fun H2 => ∃ Hd2 acc2, Same H1 H2 ∧ Rel X.K T C Hd2 H2 (tw :: some (.ref L) :: (ws ++ σ)) (ts :: .own none (.ld acc2) :: (ss ++ δ)) ∧
        OPost X.K T C σ W (ws ++ σ) (ss ++ δ) H ((compL g t re (fgt (own.map (·.2)) (dat δ)) (xs.drop (i + 1))).bind fun ds => if (acc2 ++ ds).length ≤ 16777216 then .ok (.ld (acc2 ++ ds)) else .stuck) Q,
        fun H2 ⟨Hd2, acc2, s2, R2, P2⟩ => ⟨xs.length - (i + 1), by omega, hlt, rfl, Hd2, acc2, s2, R2, P2⟩, fun v H2 hyl => ?_⟩
      obtain ⟨Hd2, R2, s2⟩ := hy v H2 hyl
      have R3 := (Rel.dup (ws := some v :: tw :: some (.ref L) :: ws) (ss := .d xs[i] :: ts :: .own none (.ld acc) :: ss) (σ := σ) (δ := δ) (by simp [hl]) R2)
      have hl3 : (some v :: tw :: some (.ref L) :: (ws ++ σ)).length = (Sl.d xs[i] :: ts :: Sl.own none (.ld acc) :: (ss ++ δ)).length := R2.len
      have R4 := Rel.fgtW (ws := some v :: tw :: some (.ref L) :: (ws ++ σ)) (ss := Sl.d xs[i] :: ts :: Sl.own none (.ld acc) :: (ss ++ δ)) hl3 R3 (own.map (·.2))
      have hl4 : (tw :: some (.ref L) :: (ws ++ σ)).length = (ts :: Sl.own none (.ld acc) :: (ss ++ δ)).length := by simpa using hl3
      unfold compL at P'
      cases e2 : g xs[i] (fgt (own.map (·.2)) (dat δ)) with
      | none => simp only [e2, Out.bind] at P'; exact P'.elim
      | some δ1 =>
        simp only [e2] at P'
        refine qg C Hd2 H2 (tw :: some (.ref L) :: (ws ++ σ)) (ts :: .own none (.ld acc) :: (ss ++ δ)) _ _ δ1 v xs[i] _ hl4 R4 e2 fun σ2 R5 t5 => ⟨(t5 _ hv).trans wipe_wipe, ?_⟩
        refine qt C Hd2 H2 _ _ σ2 δ1 _ hl4 R5 ?_
        cases e3 : t δ1 with
        | stuck => simp only [e3, Out.bind] at P'; exact P'.elim
        | ex x => simp only [e3, Out.bind] at P'; exact P'.elim
        | ok b =>
          simp only [e3] at P'
          intro Hd6 H6 R6 s6
          cases b with
          | false =>
            simp only [Bool.false_eq_true, if_false] at P' ⊢
            exact ⟨Hd6, acc, (sm.trans s2).trans s6, R6.under hl4, P'⟩
          | true =>
            simp only [if_true] at P' ⊢
            refine qe C Hd6 H6 _ _ σ2 δ1 _ hl4 R6 ?_
            cases e4 : re δ1 with
            | stuck => simp only [e4, Out.bind] at P'; exact P'.elim
            | ex x => simp only [e4, Out.bind] at P'; exact P'.elim
            | ok y =>
              simp only [e4] at P'
              intro vy Hd7 H7 R7 s7
              have R8 : Rel X.K T C Hd7 H7 (some vy :: tw :: some (.ref L) :: (ws ++ σ)) (.d y :: ts :: .own none (.ld acc) :: (ss ++ δ)) := Rel.under (ws := some vy :: tw :: some (.ref L) :: (ws ++ σ)) (ss := .d y :: ts :: .own none (.ld acc) :: (ss ++ δ)) (by simpa using hl4) R7
              obtain ⟨v0, p, vs, h0, h1, h2, h3, h4⟩ := R8.atLd (j := 2) (ds := acc) (pt := []) rfl rfl
              simp at h0
              subst h0
              simp only [rdP, Option.some.injEq, V.ref.injEq] at h1
              subst h1
              have hsame : Same H1 H7 := ((sm.trans s2).trans s6).trans s7
              have hP2 : OPost X.K T C σ W (ws ++ σ) (ss ++ δ) H ((compL g t re (fgt (own.map (·.2)) (dat δ)) (xs.drop (i + 1))).bind fun ds => if ((acc ++ [y]) ++ ds).length ≤ 16777216 then .ok (.ld ((acc ++ [y]) ++ ds)) else .stuck) Q := by
                cases e5 : compL g t re (fgt (own.map (·.2)) (dat δ)) (xs.drop (i + 1)) with
                | stuck => simp only [e5, Out.bind] at P'; exact P'.elim
                | ex x => simp only [e5, Out.bind] at P' ⊢; exact P'
                | ok ds => simp only [e5, Out.bind] at P' ⊢; simpa using P'
              have hz : acc.length < 16777216 := by
                cases e5 : compL g t re (fgt (own.map (·.2)) (dat δ)) (xs.drop (i + 1)) with
                | stuck => simp only [e5, Out.bind] at P'; exact P'.elim
                | ex x => exact absurd e5 (compL_no_ex _ _ _ _ _ _)
                | ok ds =>
                  simp only [e5, Out.bind] at P'
                  by_cases hz : (acc ++ (y :: ds)).length ≤ 16777216
                  · simp at hz; omega
                  · rw [if_neg hz] at P'; exact P'.elim
              refine ⟨vs, h2, by rw [h3.length, sizeLine_eq]; exact hz, Hd7, acc ++ [y], same_updN hL hsame, ?_, hP2⟩
              have R9 := h4 (vs ++ [vy]) (acc ++ [y]) (h3.append (.cons R8.headv .nil))
              exact R9.drop
    · have hi' : i = xs.length := by omega
      subst hi'
      rw [List.drop_length] at P'
      simp only [compL, Out.bind, List.append_nil] at P'
      refine .inl ⟨hstop _ (Nat.le_refl _), ?_⟩
      by_cases hz : acc.length ≤ 16777216
      · rw [if_pos hz] at P'
        exact P' _ Hd' H' R'.drop (s1.trans sm)
      · rw [if_neg hz] at P'; exact P'.elim
theorem pdo_comp {r : DO} (hc : X.calm = true) (hN : X.N.Nodup) (ok : BlkOk X.N X.env.scope scope own) (h : PDComp T X W elt tg iter ifs scope own r) (hs : ∀ x, foldedSetIterable iter X.env x = pure x := by intro _; rfl) :
    PDO T X W (.ListComp elt [⟨tg, iter, ifs, 0⟩] scope pos) r := by
  obtain ⟨wi, g, tt, te, pi, pg, pt, pe, q⟩ := h
  exact ⟨_, pe_lc hc hN pi ok pg pt pe hs, q⟩
theorem ps_setComp {r : DO} {i : Nat} {y : Str} {py spos : Pos} (hc : X.calm = true) (hN : X.N.Nodup) (hy : X.N[i]? = some y) (hyl : X.env.scope.names.lookup y = some .local)
    (hsw : swapsWith (.ListComp elt [⟨tg, iter, ifs, 0⟩] scope pos) (some (.Name y py)) spos.line X.env = pure true) (ok : BlkOk X.N X.env.scope scope own) (h : PDComp T X W elt tg iter ifs scope own r) (hs : ∀ x, foldedSetIterable iter X.env x = pure x := by intro _; rfl) :
    ∃ te, PS X (.Assign [.Name y py] (.ListComp elt [⟨tg, iter, ifs, 0⟩] scope pos) spos) (tAsg te (gName i)) ∧ SndO T X W te r := by
  obtain ⟨wi, g, tt, te, pi, pg, pt, pe, q⟩ := h
  exact ⟨_, ps_setLc hc hN hy hyl hsw pi ok pg pt pe hs, q⟩
theorem pds_setC {r : DO} {i : Nat} {y : Str} {py spos : Pos} (hc : X.calm = true) (hN : X.N.Nodup) (hy : X.N[i]? = some y) (hyl : X.env.scope.names.lookup y = some .local)
    (hsw : swapsWith (.ListComp elt [⟨tg, iter, ifs, 0⟩] scope pos) (some (.Name y py)) spos.line X.env = pure true) (ok : BlkOk X.N X.env.scope scope own) (h : PDComp T X W elt tg iter ifs scope own r) (hs : ∀ x, foldedSetIterable iter X.env x = pure x := by intro _; rfl) :
    PDS T X W (.Assign [.Name y py] (.ListComp elt [⟨tg, iter, ifs, 0⟩] scope pos) spos) (sSet i (rO r)) := by
  obtain ⟨te, p, q⟩ := ps_setComp (r := r) hc hN hy hyl hsw ok h hs
  exact ⟨_, p, sndS_e (f := fun v D σ H => D.nx (σ.set i (some v)) H) (k := fun d δ => .nx (δ.set i (.d d))) (snd_of_o q) fun C Hd H ws ss σ δ D v x hl R hP => hP Hd H _ (R.store i hl)⟩
theorem pds_setCO {r : DO} {i : Nat} {y : Str} {py spos : Pos} (hc : X.calm = true) (hN : X.N.Nodup) (hy : X.N[i]? = some y) (hyl : X.env.scope.names.lookup y = some .local)
    (hsw : swapsWith (.ListComp elt [⟨tg, iter, ifs, 0⟩] scope pos) (some (.Name y py)) spos.line X.env = pure true) (ok : BlkOk X.N X.env.scope scope own) (h : PDComp T X W elt tg iter ifs scope own r) (hs : ∀ x, foldedSetIterable iter X.env x = pure x := by intro _; rfl) :
    PDS T X W (.Assign [.Name y py] (.ListComp elt [⟨tg, iter, ifs, 0⟩] scope pos) spos) (sSetO i r) := by
  obtain ⟨te, p, q⟩ := ps_setComp (r := r) hc hN hy hyl hsw ok h hs
  exact ⟨_, p, sndS_o (g := fun v D σ H => D.nx (σ.set i (some v)) H) (k := fun t δ => .nx (δ.set i (.own none t))) q fun C Hd H ws ss σ δ D v xs hl R hP => hP Hd H _ (R.storeS i hl)⟩
end
end L2.DL

/-! ## DL8 -/
set_option linter.all false
set_option maxRecDepth 100000
set_option maxHeartbeats 4000000
/-! DL8: paths, changes of own things, dicts. -/
namespace L2.DL
open PySem PySem.Spec PyProof.Rows L2
/-! ### paths: fields of own instances -/
abbrev Path := List (Nat × Nat)
def OT.atC : OT → Path → Option OT
  | t, [] => some t
  | .ins c xs, (c', i) :: p => if c = c' then (match xs[i]? with | some x => x.atC p | none => none) else none
  | _, _ :: _ => none
abbrev ix (p : Path) : List Nat := p.map (·.2)
theorem atC_at : ∀ {p : Path} {t u : OT}, t.atC p = some u → t.at (ix p) = some u
  | [], t, u, h => by simpa [OT.atC, OT.at] using h
  | (c', i) :: p, t, u, h => by
    cases t with
    | ins c xs =>
      simp only [OT.atC] at h
      split at h
      · show (match xs[i]? with | some x => x.at (ix p) | none => none) = some u
        cases e : xs[i]? with
        | none => rw [e] at h; cases h
        | some x => rw [e] at h; exact atC_at h
      · cases h
    | _ => simp [OT.atC] at h
theorem atC_snoc : ∀ {p : Path} {t u : OT} {c i : Nat}, t.atC (p ++ [(c, i)]) = some u → ∃ xs, t.atC p = some (.ins c xs) ∧ xs[i]? = some u
  | [], t, u, c, i, h => by
    cases t with
    | ins c0 xs =>
      simp only [List.nil_append, OT.atC] at h
      split at h
      · rename_i e
        subst e
        cases e : xs[i]? with
        | none => rw [e] at h; cases h
        | some x => rw [e] at h; simp only [OT.atC] at h; exact ⟨xs, rfl, by rw [e]; exact h⟩
      · cases h
    | _ => simp [OT.atC] at h
  | (c', j) :: p, t, u, c, i, h => by
    cases t with
    | ins c0 xs =>
      simp only [List.cons_append, OT.atC] at h ⊢
      split at h
      · rename_i e
        rw [if_pos e]
        cases e : xs[j]? with
        | none => rw [e] at h; cases h
        | some x => rw [e] at h; exact atC_snoc h
      · cases h
    | _ => simp [OT.atC] at h
theorem rdP_snoc {H : Hp} {i : Nat} : ∀ {p : List Nat} {v : V} {a C dx : Addr} {fs : List (Str × V)} {w : V}, rdP H v p = some (.ref a) → H a = some (.ins C dx fs) → (fs.map (·.2))[i]? = some w → rdP H v (p ++ [i]) = some w
  | [], v, a, C, dx, fs, w, h, e, e2 => by
    simp only [rdP, Option.some.injEq] at h
    subst h
    simp only [List.nil_append, rdP, e, e2]
  | j :: p, v, a, C, dx, fs, w, h, e, e2 => by
    cases v with
    | ref b =>
      simp only [List.cons_append, rdP] at h ⊢
      cases e3 : H b with
      | none => rw [e3] at h; cases h
      | some o =>
        rw [e3] at h
        cases o with
        | lst vs =>
          simp only at h ⊢
          cases e4 : vs[j]? with
          | none => rw [e4] at h; cases h
          | some u => rw [e4] at h; exact rdP_snoc h e e2
        | ins c d gs =>
          simp only at h ⊢
          cases e4 : (gs.map (·.2))[j]? with
          | none => rw [e4] at h; cases h
          | some u => rw [e4] at h; exact rdP_snoc h e e2
        | _ => cases h
    | _ => simp [rdP] at h
theorem lookup_at {fs : List (Str × V)} : ∀ {i : Nat} {f : Str} {v : V}, (fs.map (·.1)).Nodup → fs[i]? = some (f, v) → fs.lookup f = some v := by
  induction fs with
  | nil => intro i f v _ h; simp at h
  | cons p ps ih =>
    intro i f v nd h
    obtain ⟨n1, n2⟩ := List.nodup_cons.mp nd
    cases i with
    | zero => simp at h; subst h; simp
    | succ i =>
      have h' : ps[i]? = some (f, v) := by simpa using h
      have hne : (f == p.1) = false := by
        refine beq_eq_false_iff_ne.mpr fun e => n1 ?_
        show p.1 ∈ _
        rw [← e]
        exact List.mem_map.mpr ⟨(f, v), List.mem_of_getElem? h', rfl⟩
      rw [List.lookup_cons, hne]
      exact ih n2 h'
structure PDP (T : Tab) (X : Cx) (e : Expr) (j : Nat) (pt : Path) : Prop where
  ex : ∃ te, PE X e te ∧ ∀ (C : Ctx) (Hd H : Hp) (ws : L2.St) (ss : Env) (σ : L2.St) (δ : Env) (oo : Option Nat) (t u : OT) (Q : VK), ws.length = ss.length → Rel X.K T C Hd H (ws ++ σ) (ss ++ δ) → δ[j]? = some (.own oo t) → t.atC pt = some u →
    (∀ v w, σ[j]? = some (some v) → rdP H v (ix pt) = some w → Q w H) → te σ H Q
section
variable {K : PySem.W.Frag} {T : Tab} {C : Ctx} {Hd H : Hp} {ws σ : L2.St} {ss δ : Env} {X : Cx} {W : WX} {e o : Expr} {pos : Pos}
/-- the j-th slot's path -/
theorem Rel.pathS {j : Nat} {oo : Option Nat} {t u : OT} {pt : Path} (hl : ws.length = ss.length) (R : Rel K T C Hd H (ws ++ σ) (ss ++ δ)) (e : δ[j]? = some (.own oo t)) (ep : t.atC pt = some u) : ∃ v w g, σ[j]? = some (some v) ∧ rdP H v (ix pt) = some w ∧ OAt K T Hd H w u g ∧
    ∀ (p : Addr) (o' : HO) (u' : OT), p ∈ g → isDat o' = false → OAt K T Hd (upd H p o') w u' g → Rel K T C Hd (upd H p o') (ws ++ σ) (ss ++ δ.set j (.own oo (t.put (ix pt) u'))) := by
  have e' : (ss ++ δ)[ss.length + j]? = some (.own oo t) := by rw [List.getElem?_append_right (by omega)]; simpa using e
  obtain ⟨v, w, g, h1, h2, h3, h4⟩ := R.pathU e' (atC_at ep)
  refine ⟨v, w, g, ?_, h2, h3, fun p o' u' a b c => ?_⟩
  · rw [← hl, List.getElem?_append_right (by omega)] at h1
    simpa using h1
  · have h := h4 p o' u' a b c
    rw [List.set_append_right _ _ (by omega)] at h
    simpa using h
theorem pdp_name {j : Nat} (h : PE X e (tVar j)) : PDP T X e j [] := ⟨_, h, fun C Hd H ws ss σ δ oo t u Q hl hR e1 e2 k => by
  obtain ⟨v, w, g, h1, h2, _⟩ := hR.pathS hl e1 e2
  exact ⟨v, h1, k v v h1 rfl⟩⟩
theorem pdp_fld {j c i : Nat} {pt : Path} {f : Str} (ho : PDP T X o j pt) (hc : Cls X.K (T.cl c)) (hn : NoAttr X.K (T.cl c) f) (hf : (T.lay c)[i]? = some f) (hd : (T.lay c).Nodup) (hb : attributeBase o f X.env (eval o X.env) = eval o X.env := by rfl) : PDP T X (.Attribute o f pos) j (pt ++ [(c, i)]) := by
  obtain ⟨te, p, q⟩ := ho
  refine ⟨_, pe_fld p hb, fun C Hd H ws ss σ δ oo t u Q hl hR e1 e2 k => ?_⟩
  obtain ⟨xs, a1, a2⟩ := atC_snoc e2
  refine q C Hd H ws ss σ δ oo t _ _ hl hR e1 a1 fun v w hv hw => ?_
  obtain ⟨v', w', g, h1, h2, h3, _⟩ := hR.pathS hl e1 a1
  rw [hv] at h1
  cases h1
  rw [hw] at h2
  cases h2
  cases h3 with
  | @ins a dx _ fs _ f' k1 k2 k3 =>
    have hlen := k3.length
    have hi : i < fs.length := by
      have := List.getElem?_eq_some_iff.mp a2
      obtain ⟨z, _⟩ := this
      rw [← hlen] at z
      simpa using z
    have hfi : fs[i]? = some (f, (fs[i]).2) := by
      have : (fs.map (·.1))[i]? = some f := by rw [k2, List.getElem?_take]; simp [hi, hf]
      rw [List.getElem?_map, List.getElem?_eq_getElem hi] at this
      rw [List.getElem?_eq_getElem hi]
      simp at this
      exact congrArg some (Prod.ext this rfl)
    have nd : (fs.map (·.1)).Nodup := by rw [k2]; exact hd.sublist (List.take_sublist _ _)
    have hw2 : (fs.map (·.2))[i]? = some (fs[i]).2 := by rw [List.getElem?_map, List.getElem?_eq_getElem hi]; rfl
    refine ⟨a, _, dx, fs, (fs[i]).2, rfl, k1, hc, hn, lookup_at nd hfi, k v _ hv ?_⟩
    show rdP H v ((pt ++ [(c, i)]).map (·.2)) = _
    rw [List.map_append]
    exact rdP_snoc hw k1 hw2
end
/-- the own thing at a path is changed -/
def chg (j : Nat) (pt : Path) (δ : Env) (k : OT → Option OT) : SO := match δ[j]? with
  | some (.own oo t) => match t.atC pt with
    | some u => match k u with
      | some u' => .nx (δ.set j (.own oo (t.put (ix pt) u')))
      | none => .stuck
    | none => .stuck
  | _ => .stuck
/-- the state behind a change -/
theorem chg_nx {K : PySem.W.Frag} {T : Tab} {C : Ctx} {W : WX} {ws : L2.St} {ss : Env} {j : Nat} {pt : Path} {δ : Env} {k : OT → Option OT} {D : Ends} (h : SPost K T C W ws ss (chg j pt δ k) D) : ∃ oo t u u', δ[j]? = some (.own oo t) ∧ t.atC pt = some u ∧ k u = some u' ∧
    ∀ Hd' H' σ', Rel K T C Hd' H' (ws ++ σ') (ss ++ δ.set j (.own oo (t.put (ix pt) u'))) → D.nx σ' H' := by
  unfold chg at h
  cases e : δ[j]? with
  | none => rw [e] at h; exact h.elim
  | some s =>
    rw [e] at h
    cases s with
    | un => exact h.elim
    | exc => exact h.elim
    | d x => exact h.elim
    | own oo t =>
      simp only at h
      cases e2 : t.atC pt with
      | none => rw [e2] at h; exact h.elim
      | some u =>
        simp only [e2] at h
        cases e3 : k u with
        | none => rw [e3] at h; exact h.elim
        | some u' =>
          rw [e3] at h
          exact ⟨oo, t, u, u', rfl, e2, e3, h⟩
/-! ### lists: append, [i] = -/
def kApp (d : D) : OT → Option OT
  | .ld ds => if ds.length < 16777216 then some (.ld (ds ++ [d])) else none
  | _ => none
/-- there must be something at the path before the rest is asked -/
def thereL (j : Nat) (pt : Path) (δ : Env) : Bool := match δ[j]? with
  | some (.own _ t) => match t.atC pt with
    | some (.ld _) => true
    | _ => false
  | _ => false
def sAppend (j : Nat) (pt : Path) (re : DE) : DS := fun δ => if thereL j pt δ = true then eS (re δ) δ fun d => chg j pt δ (kApp d) else .stuck
theorem thereL_of {j : Nat} {pt : Path} {δ : Env} (h : thereL j pt δ = true) : ∃ oo t ds, δ[j]? = some (.own oo t) ∧ t.atC pt = some (.ld ds) := by
  unfold thereL at h
  split at h
  · split at h
    · exact ⟨_, _, _, by assumption, by assumption⟩
    · cases h
  · cases h
section
variable {T : Tab} {X : Cx} {W : WX} {a b c e o : Expr} {es : List Expr} {st : Stmt} {rest body : List Stmt} {ra rb rc re rk : DE} {rl : DA} {ro : DO} {qa qb : DT} {s u : DS} {ta tb tc te : TE} {pos : Pos}
theorem pds_append {j : Nat} {pt : Path} {apos cpos : Pos} (ho : PDP T X o j pt) (ha : PDA T X W [e] (rCons re rNil)) (hs : swapsWith (.Call (.Attribute o "append" apos) [e] [] cpos) none pos.line X.env = pure false := by rfl)
    (pe : ∀ {to : TE} {t : TA}, PE X o to → PA X [e] t → PE X (.Call (.Attribute o "append" apos) [e] [] cpos) (tBM X.K "list" rAppend to t)) : PDS T X W (.Expr (.Call (.Attribute o "append" apos) [e] [] cpos) pos) (sAppend j pt re) := by
  obtain ⟨to, po, qo⟩ := ho
  obtain ⟨ta, p, q⟩ := ha
  refine ⟨_, ps_expr (pe po p) hs, ?_⟩
  intro C Hd H ws ss σ δ D hl hR hP
  unfold sAppend at hP
  by_cases ht : thereL j pt δ = true
  · rw [if_pos ht] at hP
    obtain ⟨oo, t, ds, e0, e1⟩ := thereL_of ht
    refine qo C Hd H ws ss σ δ oo t _ _ hl hR e0 e1 fun v w hv hw => ?_
    obtain ⟨v', w', g, h1, h2, h3, _⟩ := hR.pathS hl e0 e1
    rw [hv] at h1
    cases h1
    rw [hw] at h2
    cases h2
    cases h3 with
    | ld k1 k2 =>
      refine ⟨.inl ⟨rfl, _, .inl (.inl k1)⟩, ?_⟩
      refine q C Hd H ws ss σ δ _ hl hR ?_
      have er : rCons re rNil δ = (re δ).bind fun x => .ok [x] := rfl
      rw [er]
      cases e2 : re δ with
      | stuck => simp only [e2, eS] at hP; exact hP
      | ex x => simp only [e2, eS] at hP; exact fun cls dx Hd' H' R' s' xa => hP cls dx Hd' H' σ R' xa
      | ok x =>
        simp only [e2, eS] at hP
        intro vs Hd1 H1 R1 l1 s1
        obtain ⟨oo', t', u, u', f0, f1, f2, f3⟩ := chg_nx hP
        rw [e0] at f0
        cases f0
        rw [e1] at f1
        cases f1
        cases l1 with
        | cons m l1 =>
          cases l1
          obtain ⟨v', w', g, h1, h2, h3, h4⟩ := R1.pathS hl e0 e1
          rw [hv] at h1
          cases h1
          rw [rdP_same s1 _ _ _ hw] at h2
          cases h2
          cases h3 with
          | ld k3 k4 =>
            simp only [kApp] at f2
            by_cases hz : ds.length < 16777216
            · rw [if_pos hz] at f2
              cases f2
              exact ⟨_, _, _, rfl, rfl, k3, by rw [k4.length, sizeLine_eq]; exact hz, f3 _ _ _ (h4 _ (.lst _) _ (by simp) rfl (.ld upd_same (k4.append (.cons m .nil))))⟩
            · rw [if_neg hz] at f2; cases f2
  · rw [if_neg ht] at hP; exact hP.elim
def kSet (i : Int) (d : D) : OT → Option OT
  | .ld ds => match ixN ds.length i with
    | some k => some (.ld (ds.set k d))
    | none => none
  | _ => none
def iS (o : Out D) (δ : Env) (k : Int → SO) : SO := match o with
  | .ok (.int i) => k i
  | .ex x => .ex x δ
  | _ => .stuck
def sSetIx (j : Nat) (pt : Path) (ri re : DE) : DS := fun δ => eS (re δ) δ fun d => if thereL j pt δ = true then eS (ri δ) δ fun x => (match x with | .int i => chg j pt δ (kSet i d) | _ => .stuck) else .stuck
theorem pds_setIx {j : Nat} {pt : Path} {i : Expr} {ri : DE} {tpos : Pos} (ho : PDP T X o j pt) (hi : PDE T X W i ri) (ha : PDE T X W e re) (hs : swapsWithSole [.Subscript o i tpos] e pos.line X.env = pure false := by rfl) (hw : swappedStores [.Subscript o i tpos] e X.env = pure none := by rfl) (h1 : (assignEach [.Subscript o i tpos] X.env).map (·.2) = [assign (.Subscript o i tpos) X.env] := by rfl)
    (hA : ∀ v, assign (.Subscript o i tpos) X.env v = (do
      let ov ← holding [v] (eval o X.env)
      let iv ← holding [v, ov] (eval i X.env)
      standAt tpos
      holding [v, ov, iv] (setItem ov iv v)
      release [v, ov, iv] []) := by intro _; rfl) : PDS T X W (.Assign [.Subscript o i tpos] e pos) (sSetIx j pt ri re) := by
  obtain ⟨to, po, qo⟩ := ho
  obtain ⟨ti, pi, qi⟩ := hi
  obtain ⟨te, p, q⟩ := ha
  refine ⟨_, ps_asg p (pg_sub po pi set_list hA) hs hw h1, sndS_e (f := fun v D σ H => gSub to ti rSetL v σ H D.nx) (k := fun d δ => if thereL j pt δ = true then eS (ri δ) δ fun x => (match x with | .int i => chg j pt δ (kSet i d) | _ => .stuck) else .stuck) q fun C Hd H ws ss σ δ D vd d hl R hP => ?_⟩
  by_cases ht : thereL j pt δ = true
  · rw [if_pos ht] at hP
    obtain ⟨oo, t, ds, e0, e1⟩ := thereL_of ht
    refine qo C Hd H (some vd :: ws) (.d d :: ss) σ δ oo t _ _ (by simp [hl]) R e0 e1 fun v w hv hw => ?_
    refine qi C Hd H (some vd :: ws) (.d d :: ss) σ δ _ (by simp [hl]) R ?_
    cases e2 : ri δ with
    | stuck => simp only [e2, eS] at hP; exact hP
    | ex x => simp only [e2, eS] at hP; exact fun cls dx Hd' H' R' s' xa => hP cls dx Hd' H' σ R'.drop xa
    | ok x =>
      simp only [e2, eS] at hP
      intro vi Hd1 H1 R1 s1
      cases x with
      | int i =>
        have mi := R1.headv
        cases mi
        obtain ⟨oo', t', u, u', f0, f1, f2, f3⟩ := chg_nx hP
        rw [e0] at f0
        cases f0
        rw [e1] at f1
        cases f1
        have R2 := R1.drop
        have md := R2.headv
        obtain ⟨v', w', g, h1, h2, h3, h4⟩ := R2.drop.pathS hl e0 e1
        rw [hv] at h1
        cases h1
        rw [rdP_same s1 _ _ _ hw] at h2
        cases h2
        cases h3 with
        | ld k3 k4 =>
          simp only [kSet] at f2
          cases e3 : ixN ds.length i with
          | none => rw [e3] at f2; cases f2
          | some k =>
            rw [e3] at f2
            cases f2
            exact ⟨_, _, i, k, rfl, rfl, k3, by rw [k4.length]; exact e3, f3 _ _ _ (h4 _ (.lst _) _ (by simp) rfl (.ld upd_same (k4.set md k)))⟩
      | _ => exact (show False from hP).elim
  · rw [if_neg ht] at hP; exact hP.elim
end
/-! ### dicts -/
def dlook (es : List (DKey × D)) (k : DKey) : Option D := (es.find? fun e => decide (e.1 = k)).map (·.2)
def dput (es : List (DKey × D)) (k : DKey) (d : D) : List (DKey × D) := if (es.any fun e => decide (e.1 = k)) = true then es.map (fun e => if e.1 = k then (e.1, d) else e) else es ++ [(k, d)]
def dkey : D → Option DKey
  | .int i => some (.i i)
  | .str s => some (.s s)
  | _ => none
section
variable {K : PySem.W.Frag} {T : Tab} {H : Hp}
theorem key_im {v : V} {x : D} {k : DKey} (m : Im K T H v x) (h : dkey x = some k) : v = kV k.k := by
  cases m <;> simp [dkey] at h <;> subst h <;> rfl
theorem dec_key (a b : DKey) : decide (a.k = b.k) = decide (a = b) := by
  rw [Bool.eq_iff_iff]
  simp only [decide_eq_true_eq]
  exact ⟨DKey.k_inj, fun h => by rw [h]⟩
theorem dlook_im : ∀ {kvs : List (Key × V)} {es : List (DKey × D)} {k : DKey}, kvs.map (·.1) = es.map (fun e => e.1.k) → ImL K T H (kvs.map (·.2)) (es.map (·.2)) →
    (dlook es k = none ∧ valV kvs k.k = none) ∨ ∃ d v, dlook es k = some d ∧ valV kvs k.k = some v ∧ Im K T H v d
  | [], [], k, _, _ => .inl ⟨rfl, rfl⟩
  | [], _ :: _, k, h, _ => by simp at h
  | _ :: _, [], k, h, _ => by simp at h
  | p :: kvs, e :: es, k, h, l => by
    simp only [List.map_cons, List.cons.injEq] at h
    rw [List.map_cons, List.map_cons] at l
    cases l with
    | cons m l =>
      by_cases he : e.1 = k
      · exact .inr ⟨e.2, p.2, by simp [dlook, List.find?_cons, he], valV_pos (by rw [h.1, he]), m⟩
      · have hk : ¬ p.1 = k.k := fun z => he (DKey.k_inj (h.1.symm.trans z))
        have e1 : dlook (e :: es) k = dlook es k := by simp [dlook, List.find?_cons, he]
        rw [e1, valV_neg hk]
        exact dlook_im h.2 l
theorem any_key : ∀ {kvs : List (Key × V)} {es : List (DKey × D)} {k : DKey}, kvs.map (·.1) = es.map (fun e => e.1.k) → (kvs.any fun kv => decide (kv.1 = k.k)) = es.any fun e => decide (e.1 = k)
  | [], [], k, _ => rfl
  | [], _ :: _, k, h => by simp at h
  | _ :: _, [], k, h => by simp at h
  | p :: kvs, e :: es, k, h => by
    simp only [List.map_cons, List.cons.injEq] at h
    rw [List.any_cons, List.any_cons, any_key h.2, h.1, dec_key]
theorem dput_im {kvs : List (Key × V)} {es : List (DKey × D)} {k : DKey} {v : V} {d : D} (h : kvs.map (·.1) = es.map (fun e => e.1.k)) (l : ImL K T H (kvs.map (·.2)) (es.map (·.2))) (m : Im K T H v d) :
    (putK kvs k.k v).map (·.1) = (dput es k d).map (fun e => e.1.k) ∧ ImL K T H ((putK kvs k.k v).map (·.2)) ((dput es k d).map (·.2)) := by
  unfold putK dput
  rw [any_key h]
  by_cases ha : (es.any fun e => decide (e.1 = k)) = true
  · rw [if_pos ha, if_pos ha]
    have h1 : ∀ {kvs : List (Key × V)} {es : List (DKey × D)}, kvs.map (·.1) = es.map (fun e => e.1.k) → ImL K T H (kvs.map (·.2)) (es.map (·.2)) →
        (kvs.map (fun kv => if kv.1 = k.k then (kv.1, v) else kv)).map (·.1) = (es.map (fun e => if e.1 = k then (e.1, d) else e)).map (fun e => e.1.k) ∧
        ImL K T H ((kvs.map (fun kv => if kv.1 = k.k then (kv.1, v) else kv)).map (·.2)) ((es.map (fun e => if e.1 = k then (e.1, d) else e)).map (·.2)) := by
      intro kvs
      induction kvs with
      | nil =>
        intro es h l
        cases es with
        | nil => exact ⟨rfl, .nil⟩
        | cons _ _ => simp at h
      | cons p kvs ih =>
        intro es h l
        cases es with
        | nil => simp at h
        | cons e es =>
          simp only [List.map_cons, List.cons.injEq] at h
          rw [List.map_cons, List.map_cons] at l
          cases l with
          | cons m1 l =>
            obtain ⟨i1, i2⟩ := ih h.2 l
            rw [List.map_cons, List.map_cons, List.map_cons, List.map_cons, List.map_cons, List.map_cons]
            by_cases he : e.1 = k
            · have hp : p.1 = k.k := by rw [h.1, he]
              rw [if_pos hp, if_pos he]
              exact ⟨by rw [i1, h.1], .cons m i2⟩
            · have hp : ¬ p.1 = k.k := fun z => he (DKey.k_inj (h.1.symm.trans z))
              rw [if_neg hp, if_neg he]
              exact ⟨by rw [i1, h.1], .cons m1 i2⟩
    exact h1 h l
  · rw [if_neg ha, if_neg ha]
    rw [List.map_append, List.map_append, List.map_append, List.map_append, h]
    exact ⟨rfl, l.append (.cons m .nil)⟩
end
def dGet : D → D → Option D
  | .dic es, x => (dkey x).bind fun k => dlook es k
  | _, _ => none
def dHas : D → D → Option Bool
  | x, .dic es => (dkey x).map fun k => (dlook es k).isSome
  | _, _ => none
def dInD (x y : D) : Option D := (dHas x y).map D.bl
def dNotInD (x y : D) : Option D := (dHas x y).map fun b => D.bl (!b)
section
variable {T : Tab} {X : Cx} {W : WX} {a b c e o i f : Expr} {es : List Expr} {st : Stmt} {rest body : List Stmt} {ra rb rc re ri rf : DE} {rl : DA} {ro : DO} {qa qb : DT} {s u : DS} {ta tb tc te : TE} {pos : Pos}
/-- d[k] -/
theorem pd_dget (hu : X.A.units + 1 < cLine) (ha : PDE T X W o ra) (hb : PDE T X W i rb) (hs : NoSl i) : PDE T X W (.Subscript o i pos) (rOp dGet ra rb) := by
  obtain ⟨ta, pa, sa⟩ := ha
  obtain ⟨tb, pb, sb⟩ := hb
  refine ⟨_, pe_dget hu pa pb hs, snd_two (R := fun x y H2 Q => ∃ a v, x = .ref a ∧ DGet H2 a y (some v) ∧ Q v H2) (g := fun x y => ofO (dGet x y)) sa sb fun C Hd H ρw ρs σ vx vy x y Q R hP => ?_⟩
  cases x with
  | dic es =>
    have my := R.headv
    have mx := R.second
    cases mx with
    | dic h1 h2 h3 =>
      simp only [dGet] at hP
      cases e1 : dkey y with
      | none => rw [e1] at hP; exact (show False from hP).elim
      | some k =>
        rw [e1] at hP
        simp only [Option.bind] at hP
        obtain rfl := key_im my e1
        rcases dlook_im (k := k) h2 h3 with ⟨l1, _⟩ | ⟨d, v, l1, l2, m⟩
        · rw [l1] at hP; exact (show False from hP).elim
        · rw [l1] at hP
          exact ⟨_, v, rfl, .inl ⟨_, k.k, same_rd R.bas.sub h1, rfl, l2.symm⟩, hP v Hd H (R.drop.drop.push m) (.refl _)⟩
  | _ => exact (show False from hP).elim
theorem has_sound {neg : Bool} : OpG T X (fun y x H2 Q => ∃ a o, x = .ref a ∧ DGet H2 a y o ∧ Q (.bl (if neg then !o.isSome else o.isSome)) H2) (fun x y => (dHas x y).map fun b => D.bl (if neg then !b else b)) := by
  intro Cx Hd H ρw ρs vx vy x y z Q R hz k
  cases y with
  | dic es =>
    have my := R.headv
    have mx := R.second
    cases my with
    | dic h1 h2 h3 =>
      simp only [dHas] at hz
      cases e1 : dkey x with
      | none => rw [e1] at hz; cases hz
      | some kk =>
        rw [e1] at hz
        simp only [Option.map_some, Option.some.injEq] at hz
        subst hz
        obtain rfl := key_im mx e1
        refine ⟨_, _, rfl, .inl ⟨_, kk.k, same_rd R.bas.sub h1, rfl, rfl⟩, ?_⟩
        have hs : ∀ o : Option V, o.isSome = (dlook es kk).isSome → Q (.bl (if neg then !o.isSome else o.isSome)) H := fun o ho => by
          rw [ho]
          exact k _ Hd H (R.drop.drop.push (.bl _)) (.refl _)
        rcases dlook_im (k := kk) h2 h3 with ⟨l1, l2⟩ | ⟨d, v, l1, l2, m⟩
        · exact hs _ (by rw [l1, l2]; rfl)
        · exact hs _ (by rw [l1, l2]; rfl)
  | _ => cases hz
theorem pd_din (hu : X.A.units + 1 < cLine) (ha : PDE T X W a ra) (hb : PDE T X W b rb) (hm : behindInMarks .In b = false := by rfl) : PDE T X W (.Compare a [.In] [b] pos) (rOp dInD ra rb) := by
  obtain ⟨ta, pa, sa⟩ := ha
  obtain ⟨tb, pb, sb⟩ := hb
  exact ⟨_, pe_cmp (pc_din hu pa pb) hm, snd_op (has_sound (neg := false)) sa sb⟩
theorem pd_dnotin (hu : X.A.units + 1 < cLine) (ha : PDE T X W a ra) (hb : PDE T X W b rb) (hm : behindInMarks .NotIn b = false := by rfl) : PDE T X W (.Compare a [.NotIn] [b] pos) (rOp dNotInD ra rb) := by
  obtain ⟨ta, pa, sa⟩ := ha
  obtain ⟨tb, pb, sb⟩ := hb
  exact ⟨_, pe_cmp (pc_dnotin hu pa pb) hm, snd_op (has_sound (neg := true)) sa sb⟩
theorem pdt_din (hu : X.A.units + 1 < cLine) (ha : PDE T X W a ra) (hb : PDE T X W b rb) (hm : behindInMarks .In b = false := by rfl) : PDT T X W (.Compare a [.In] [b] pos) (rT (rOp dInD ra rb)) := by
  obtain ⟨ta, pa, sa⟩ := ha
  obtain ⟨tb, pb, sb⟩ := hb
  exact ⟨_, pt_cmp (pc_din hu pa pb) hm, sndT_of (snd_op (has_sound (neg := false)) sa sb)⟩
theorem pdt_dnotin (hu : X.A.units + 1 < cLine) (ha : PDE T X W a ra) (hb : PDE T X W b rb) (hm : behindInMarks .NotIn b = false := by rfl) : PDT T X W (.Compare a [.NotIn] [b] pos) (rT (rOp dNotInD ra rb)) := by
  obtain ⟨ta, pa, sa⟩ := ha
  obtain ⟨tb, pb, sb⟩ := hb
  exact ⟨_, pt_cmp (pc_dnotin hu pa pb) hm, sndT_of (snd_op (has_sound (neg := true)) sa sb)⟩
/-- d.get(k), d.get(k, x) -/
def dGet2 (x y z : D) : Option D := match x with
  | .dic es => (dkey y).map fun k => (dlook es k).getD z
  | _ => none
def isDic : D → Bool
  | .dic _ => true
  | _ => false
def rGet2 (ra rb rc : DE) : DE := fun δ => (ra δ).bind fun x => if isDic x = true then (rb δ).bind fun y => (rc δ).bind fun z => ofO (dGet2 x y z) else .stuck
theorem pd_get2 {apos cpos : Pos} (hu : X.A.units + 1 < cLine) (ha : PDE T X W o ra) (hb : PDE T X W e rb) (hc : PDE T X W f rc) (m : M2 X o "get" apos e f cpos) : PDE T X W (.Call (.Attribute o "get" apos) [e, f] [] cpos) (rGet2 ra rb rc) := by
  obtain ⟨ta, pa, sa⟩ := ha
  obtain ⟨tb, pb, sb⟩ := hb
  obtain ⟨tc, pc, sc⟩ := hc
  refine ⟨_, pe_dget2 hu pa pb pc m, ?_⟩
  intro C Hd H ws ss σ δ Q hl hR hP
  unfold rGet2 at hP
  refine sa C Hd H ws ss σ δ _ hl hR ?_
  cases e1 : ra δ with
  | stuck => simp only [e1, Out.bind] at hP; exact hP
  | ex x => simp only [e1, Out.bind] at hP; exact hP
  | ok x =>
    simp only [e1, Out.bind] at hP
    intro vx Hd1 H1 R1 s1
    cases x with
    | dic es =>
      simp only [isDic, if_true] at hP
      have mx := R1.headv
      cases mx with
      | dic h1 h2 h3 =>
        refine ⟨_, rfl, .inl ⟨_, same_rd R1.bas.sub h1⟩, ?_⟩
        refine sb C Hd1 H1 (_ :: ws) (_ :: ss) σ δ _ (by simp [hl]) R1 ?_
        cases e2 : rb δ with
        | stuck => simp only [e2] at hP; exact hP
        | ex y =>
          simp only [e2] at hP
          exact fun c d Hd' H' R' s' xa => hP c d Hd' H' R'.drop (s1.trans s') xa
        | ok y =>
          simp only [e2] at hP
          intro vy Hd2 H2 R2 s2
          refine sc C Hd2 H2 (_ :: _ :: ws) (_ :: _ :: ss) σ δ _ (by simp [hl]) R2 ?_
          cases e3 : rc δ with
          | stuck => simp only [e3] at hP; exact hP
          | ex y =>
            simp only [e3] at hP
            exact fun c d Hd' H' R' s' xa => hP c d Hd' H' R'.drop.drop ((s1.trans s2).trans s') xa
          | ok z =>
            simp only [e3] at hP
            intro vz Hd3 H3 R3 s3
            have mz := R3.headv
            have my := R3.second
            have mx := R3.third
            simp only [dGet2] at hP
            cases e4 : dkey y with
            | none => rw [e4] at hP; exact (show False from hP).elim
            | some k =>
              rw [e4] at hP
              obtain rfl := key_im my e4
              cases mx with
              | dic h1' h2' h3' =>
                refine ⟨_, .inl ⟨_, k.k, same_rd R3.bas.sub h1', rfl, rfl⟩, ?_⟩
                have R4 := R3.drop.drop.drop
                rcases dlook_im (k := k) h2' h3' with ⟨l1, l2⟩ | ⟨d, v, l1, l2, m⟩
                · rw [l2]
                  simp only [Option.map_some, l1, Option.getD_none] at hP ⊢
                  exact hP _ _ _ (R4.push mz) ((s1.trans s2).trans s3)
                · rw [l2]
                  simp only [Option.map_some, l1, Option.getD_some] at hP ⊢
                  exact hP _ _ _ (R4.push m) ((s1.trans s2).trans s3)
    | _ => simp only [isDic, Bool.false_eq_true, if_false] at hP; exact hP.elim
/-- {} and {k: v, ..} -/
def oDic0 : DO := fun _ => .ok (.dd [])
theorem pdo_dic0 : PDO T X W (.Dict [] [] pos) oDic0 := ⟨_, pe_dnewK, fun C Hd H ws ss σ δ Q hl hR hP p hp => hP _ _ _ (hR.newW hp rfl (.dd upd_same rfl .nil)) (same_new hp)⟩
/-- d[k] = v, d an own dict -/
def kPut (k : DKey) (d : D) : OT → Option OT
  | .dd es => if es.length < 16777216 then some (.dd (dput es k d)) else none
  | _ => none
def thereD (j : Nat) (pt : Path) (δ : Env) : Bool := match δ[j]? with
  | some (.own _ t) => match t.atC pt with
    | some (.dd _) => true
    | _ => false
  | _ => false
theorem thereD_of {j : Nat} {pt : Path} {δ : Env} (h : thereD j pt δ = true) : ∃ oo t ds, δ[j]? = some (.own oo t) ∧ t.atC pt = some (.dd ds) := by
  unfold thereD at h
  split at h
  · split at h
    · exact ⟨_, _, _, by assumption, by assumption⟩
    · cases h
  · cases h
def sPut (j : Nat) (pt : Path) (ri re : DE) : DS := fun δ => eS (re δ) δ fun d => if thereD j pt δ = true then eS (ri δ) δ fun x => (match dkey x with | some k => chg j pt δ (kPut k d) | none => .stuck) else .stuck
theorem pds_put {j : Nat} {pt : Path} {tpos : Pos} (hu : X.A.units + 1 < cLine) (ho : PDP T X o j pt) (hi : PDE T X W i ri) (ha : PDE T X W e re) (hs : swapsWith e (some (.Subscript o i tpos)) pos.line X.env = pure false := by rfl) : PDS T X W (.Assign [.Subscript o i tpos] e pos) (sPut j pt ri re) := by
  obtain ⟨to, po, qo⟩ := ho
  obtain ⟨ti, pi, qi⟩ := hi
  obtain ⟨te, p, q⟩ := ha
  refine ⟨_, ps_dput hu po pi p hs, sndS_e (f := fun v D σ H => to σ H fun x H2 => ti σ H2 fun y H3 => ∃ a H4, x = .ref a ∧ DPut H3 a y v H4 ∧ D.nx σ H4)
    (k := fun d δ => if thereD j pt δ = true then eS (ri δ) δ fun x => (match dkey x with | some k => chg j pt δ (kPut k d) | none => .stuck) else .stuck) q fun C Hd H ws ss σ δ D vd d hl R hP => ?_⟩
  by_cases ht : thereD j pt δ = true
  · rw [if_pos ht] at hP
    obtain ⟨oo, t, es, e0, e1⟩ := thereD_of ht
    refine qo C Hd H (some vd :: ws) (.d d :: ss) σ δ oo t _ _ (by simp [hl]) R e0 e1 fun v w hv hw => ?_
    refine qi C Hd H (some vd :: ws) (.d d :: ss) σ δ _ (by simp [hl]) R ?_
    cases e2 : ri δ with
    | stuck => simp only [e2, eS] at hP; exact hP
    | ex x => simp only [e2, eS] at hP; exact fun cls dx Hd' H' R' s' xa => hP cls dx Hd' H' σ R'.drop xa
    | ok x =>
      simp only [e2, eS] at hP
      intro vi Hd1 H1 R1 s1
      cases e3 : dkey x with
      | none => rw [e3] at hP; exact (show False from hP).elim
      | some k =>
        rw [e3] at hP
        obtain rfl := key_im R1.headv e3
        obtain ⟨oo', t', u, u', f0, f1, f2, f3⟩ := chg_nx hP
        rw [e0] at f0
        cases f0
        rw [e1] at f1
        cases f1
        have R2 := R1.drop
        have md := R2.headv
        obtain ⟨v', w', g, h1, h2, h3, h4⟩ := R2.drop.pathS hl e0 e1
        rw [hv] at h1
        cases h1
        rw [rdP_same s1 _ _ _ hw] at h2
        cases h2
        cases h3 with
        | @dd a kvs _ k3 k4 k5 =>
          simp only [kPut] at f2
          by_cases hz : es.length < 16777216
          · rw [if_pos hz] at f2
            cases f2
            have hl2 : kvs.length = es.length := by simpa using congrArg List.length k4
            obtain ⟨z1, z2⟩ := dput_im (k := k) k4 k5 md
            exact ⟨_, _, rfl, .inl ⟨_, k.k, k3, rfl, by rw [hl2, sizeLine_eq]; exact hz, rfl⟩, f3 _ _ _ (h4 _ (.dK _) _ (by simp) rfl (.dd upd_same z1 z2))⟩
          · rw [if_neg hz] at f2; cases f2
  · rw [if_neg ht] at hP; exact hP.elim
/-- list(d) -/
def dkD : DKey → D
  | .i n => .int n
  | .s x => .str x
def dListD : List D → Option D := d1 fun
  | .dic es => some (.lst (es.map fun e => dkD e.1))
  | _ => none
theorem keys_im {K : PySem.W.Frag} {H : Hp} : ∀ {kvs : List (Key × V)} {es : List (DKey × D)}, kvs.map (·.1) = es.map (fun e => e.1.k) → ImL K T H (kvs.map fun kv => kV kv.1) (es.map fun e => dkD e.1)
  | [], [], _ => .nil
  | [], _ :: _, h => by simp at h
  | _ :: _, [], h => by simp at h
  | p :: kvs, e :: es, h => by
    simp only [List.map_cons, List.cons.injEq] at h
    rw [List.map_cons, List.map_cons]
    refine .cons ?_ (keys_im h.2)
    rw [h.1]
    cases e.1 with
    | i n => exact .int n
    | s x => exact .str x
theorem cg_listD (hc : X.calm = true) : CallR X (.type "list") (fun xs H Q => ∃ (a : Addr) (kvs : List (Key × V)), xs = [.ref a] ∧ Rd H a (.dK kvs) ∧ ∀ p, H p = none → Q (.ref p) (upd H p (.lst (kvs.map fun kv => kV kv.1)))) ∧
    CallG T X (fun xs H Q => ∃ (a : Addr) (kvs : List (Key × V)), xs = [.ref a] ∧ Rd H a (.dK kvs) ∧ ∀ p, H p = none → Q (.ref p) (upd H p (.lst (kvs.map fun kv => kV kv.1)))) dListD := by
  refine ⟨call_listD hc, cg_one ?_⟩
  intro C Hd H ρw ρs v x z Q R h hz k
  cases h with
  | dic h1 h2 h3 => cases hz; exact ⟨_, _, rfl, same_rd R.bas.sub h1, fun p hp => k _ _ _ (R.newL hp (keys_im h2)) (same_new hp)⟩
  | _ => cases hz
end
end L2.DL

/-! ## DL9 -/
set_option linter.all false
set_option maxRecDepth 100000
set_option maxHeartbeats 4000000
/-! DL9: isinstance, slices, sets' sizes, minima, walks over dicts. -/
namespace L2.DL
open PySem PySem.Spec PyProof.Rows L2
/-! ### isinstance of built-in classes -/
def tyD : D → Option String
  | .non => some "NoneType"
  | .bl _ => some "bool"
  | .int _ => some "int"
  | .str _ => some "str"
  | .tup _ => some "tuple"
  | .lst _ => some "list"
  | .dic _ => some "dict"
  | .ins _ _ => none
def isTyD (n : String) (x : D) : Option Bool := if n = "int" ∨ n = "bool" ∨ n = "str" ∨ n = "tuple" ∨ n = "list" ∨ n = "dict" then (tyD x).map fun t => t == n || (n == "int" && t == "bool") else none
theorem kit_all : ∀ a ∈ ["NoneType", "bool", "int", "str", "tuple", "list", "dict"], ∀ n ∈ ["int", "bool", "str", "tuple", "list", "dict"], kitB a n = some (a == n || (n == "int" && a == "bool")) := by decide +kernel
theorem tyD_mem {x : D} {a : String} (h : tyD x = some a) : a ∈ ["NoneType", "bool", "int", "str", "tuple", "list", "dict"] := by
  cases x <;> simp [tyD] at h <;> subst h <;> decide
theorem im_ty {K : PySem.W.Frag} {T : Tab} {H : Hp} {v : V} {x : D} {a : String} (m : Im K T H v x) (h : tyD x = some a) : TyX K H v (.type a) := by
  cases m with
  | non => cases h; exact .base .non
  | bl b => cases h; exact .base (.bl b)
  | int i => cases h; exact .base (.int i)
  | str s => cases h; exact .base (.str _)
  | lst h1 _ =>
    cases h
    rcases h1 with h1 | ⟨o, h1⟩
    · exact .base (.lst h1)
    · exact .base (.frz h1)
  | tup h1 _ =>
    cases h
    rcases h1 with (h1 | ⟨o, h1⟩) | ⟨o, its, n, h1, h2, _⟩
    · exact .base (.tup h1)
    · exact .fTuple h1
    · exact .kTuple h1 h2
  | dic h1 _ _ =>
    cases h
    rcases h1 with h1 | ⟨o, h1⟩
    · exact .base (.dK h1)
    · exact .fDict h1
  | ins _ _ _ => cases h
def rIsB (n : String) (re : DE) : DE := fun δ => (re δ).bind fun x => ofO ((isTyD n x).map D.bl)
section
variable {T : Tab} {X : Cx} {W : WX} {a b c e o i f : Expr} {es : List Expr} {st : Stmt} {rest body : List Stmt} {ra rb rc re ri rf : DE} {rl : DA} {ro : DO} {qa qb : DT} {s u : DS} {ta tb tc te : TE} {pos : Pos}
theorem pd_isi {n : String} {p : Pos} (hg : Gl X "isinstance") (hm : X.mg "isinstance" = none) (ha : PDE T X W e re) (hc : PE X c (tC (.ty n))) (h1 : starEach [e, c] X.env = (false, eval e X.env) :: starEach [c] X.env := by rfl) (h2 : starEach [c] X.env = (false, eval c X.env) :: starEach [] X.env := by rfl)
    (hpl : (backTo pos (starEach [c] X.env)).any (·.1) = false := by rfl) : PDE T X W (.Call (.Name "isinstance" p) [e, c] [] pos) (rIsB n re) := by
  obtain ⟨te, pe, se⟩ := ha
  refine ⟨_, pe_callB call_isi hg hm (by decide +kernel) (pa_cons pe (pa_cons hc pa_nil h2) h1) (by decide) (by decide) h1 hpl, ?_⟩
  intro C Hd H ws ss σ δ Q hl hR hP
  unfold rIsB at hP
  refine se C Hd H ws ss σ δ _ hl hR ?_
  cases e1 : re δ with
  | stuck => simp only [e1, Out.bind] at hP; exact hP
  | ex x => simp only [e1, Out.bind] at hP; exact hP
  | ok x =>
    simp only [e1, Out.bind] at hP
    intro v Hd1 H1 R1 s1
    cases e2 : isTyD n x with
    | none => rw [e2] at hP; exact (show False from hP).elim
    | some r =>
      rw [e2] at hP
      unfold isTyD at e2
      split at e2
      · rename_i hn
        obtain ⟨a, ha, rfl⟩ := Option.map_eq_some_iff.mp e2
        refine ⟨v, .ty n, .type a, .type n, _, rfl, .ty n, im_ty (R1.headv.to R1.bas.sub) ha, kit_ty (kit_all a (tyD_mem ha) n ?_), hP _ _ _ (R1.drop.push (.bl _)) s1⟩
        rcases hn with h | h | h | h | h | h <;> subst h <;> decide
      · cases e2
/-! ### slices -/
def cutD {α : Type} (xs : List α) (lo hi : Option Int) : List α := (xs.drop (HT.sIx xs.length 0 lo)).take (HT.sIx xs.length xs.length hi - HT.sIx xs.length 0 lo)
theorem cut_im {K : PySem.W.Frag} {H : Hp} {vs : List V} {xs : List D} (l : ImL K T H vs xs) (lo hi : Option Int) : ImL K T H (cutV vs lo hi) (cutD xs lo hi) := by
  unfold cutV cutD
  rw [l.length]
  exact (l.drop _).take _
def dSl (x : D) (lo hi : Option Int) : Option D := match x with
  | .lst xs => some (.lst (cutD xs lo hi))
  | .tup xs => some (.tup (cutD xs lo hi))
  | .str cs => if cs.length ≤ 16777216 then some (.str (cutD cs lo hi)) else none
  | _ => none
def rSlAll (K : PySem.W.Frag) : V → Option Int → Option Int → Hp → VK → Prop := fun x lo hi H Q => rSlL K x lo hi H Q ∨ rSlA K x lo hi H Q ∨ rSlS x lo hi H Q
theorem sl_allR : SlR X (rSlAll X.K) := sl_list.or (sl_tupA.or sl_str)
/-- a part of a slice -/
abbrev DP := Env → Out (Option Int)
structure PDO' (T : Tab) (X : Cx) (W : WX) (e : Option Expr) (r : DP) : Prop where
  ex : ∃ to, PO X e to ∧ ∀ (C : Ctx) (Hd H : Hp) (ws : L2.St) (ss : Env) (σ : L2.St) (δ : Env) (Q : Option Int → Hp → Prop), ws.length = ss.length → Rel X.K T C Hd H (ws ++ σ) (ss ++ δ) →
    (match r δ with
      | .ok d => ∀ Hd' H', Rel X.K T C Hd' H' (ws ++ σ) (ss ++ δ) → Same H H' → Q d H'
      | .ex x => ∀ cls dx Hd' H', Rel X.K T C Hd' H' (ws ++ σ) (ss ++ δ) → Same H H' → XAt T H' cls dx x → W cls dx σ H'
      | .stuck => False) → to σ H Q
def pNone : DP := fun _ => .ok none
def pSome (re : DE) : DP := fun δ => (re δ).bind fun x => match x with | .int i => .ok (some i) | _ => .stuck
def rSl (re : DE) (rl rh : DP) : DE := fun δ => (re δ).bind fun x => (rl δ).bind fun lo => (rh δ).bind fun hi => ofO (dSl x lo hi)
theorem pdp_none : PDO' T X W none pNone := ⟨_, po_none, fun C Hd H ws ss σ δ Q hl hR hP => hP Hd H hR (.refl _)⟩
theorem pdp_some (h : PDE T X W e re) : PDO' T X W (some e) (pSome re) := by
  obtain ⟨te, p, q⟩ := h
  refine ⟨_, po_some p, fun C Hd H ws ss σ δ Q hl hR hP => ?_⟩
  unfold pSome at hP
  refine q C Hd H ws ss σ δ _ hl hR ?_
  cases e1 : re δ with
  | stuck => simp only [e1, Out.bind] at hP
  | ex x => simp only [e1, Out.bind] at hP; exact hP
  | ok x =>
    simp only [e1, Out.bind] at hP
    intro v Hd' H' R' s'
    cases x with
    | int i =>
      have m := R'.headv
      cases m
      exact ⟨i, rfl, hP Hd' H' R'.drop s'⟩
    | _ => exact (show False from hP).elim
theorem pd_slice {lo hi : Option Expr} {rl rh : DP} {p2 : Pos} (ha : PDE T X W e re) (hlo : PDO' T X W lo rl) (hhi : PDO' T X W hi rh) : PDE T X W (.Subscript e (.Slice lo hi none p2) pos) (rSl re rl rh) := by
  obtain ⟨te, p, q⟩ := ha
  obtain ⟨tl, pl, ql⟩ := hlo
  obtain ⟨th, ph, qh⟩ := hhi
  refine ⟨_, pe_slice sl_allR p pl ph, ?_⟩
  intro C Hd H ws ss σ δ Q hl hR hP
  unfold rSl at hP
  refine q C Hd H ws ss σ δ _ hl hR ?_
  cases e1 : re δ with
  | stuck => simp only [e1, Out.bind] at hP; exact hP
  | ex x => simp only [e1, Out.bind] at hP; exact hP
  | ok x =>
    simp only [e1, Out.bind] at hP
    intro v Hd1 H1 R1 s1
    refine ql C Hd1 H1 (some v :: ws) (.d x :: ss) σ δ _ (by simp [hl]) R1 ?_
    cases e2 : rl δ with
    | stuck => simp only [e2] at hP; exact hP
    | ex y => simp only [e2] at hP; exact fun c d Hd' H' R' s' xa => hP c d Hd' H' R'.drop (s1.trans s') xa
    | ok lo =>
      simp only [e2] at hP
      intro Hd2 H2 R2 s2
      refine qh C Hd2 H2 (some v :: ws) (.d x :: ss) σ δ _ (by simp [hl]) R2 ?_
      cases e3 : rh δ with
      | stuck => simp only [e3] at hP; exact hP
      | ex y => simp only [e3] at hP; exact fun c d Hd' H' R' s' xa => hP c d Hd' H' R'.drop ((s1.trans s2).trans s') xa
      | ok hi =>
        simp only [e3] at hP
        intro Hd3 H3 R3 s3
        have sm := (s1.trans s2).trans s3
        cases x with
        | lst xs =>
          have m := R3.headv
          cases m with
          | lst h1 l1 => exact .inl ⟨_, _, rfl, .inl (same_rd R3.bas.sub h1), fun p hp => hP _ _ _ (R3.drop.newL hp (cut_im l1 lo hi)) (sm.trans (same_new hp))⟩
        | tup xs =>
          have m := R3.headv
          cases m with
          | tup h1 l1 =>
            refine .inr (.inl ⟨_, _, rfl, same_t R3.bas.sub h1, fun hw => ?_, fun _ p hp => hP _ _ _ (R3.drop.newT hp (cut_im l1 lo hi)) (sm.trans (same_new hp))⟩)
            have e4 : cutD xs lo hi = xs := by
              unfold cutD
              rw [← l1.length, hw.1, hw.2, l1.length]
              simp
            have hP' : EPost X.K T C σ W (ws ++ σ) (ss ++ δ) H (ofO (some (D.tup (cutD xs lo hi)))) Q := hP
            rw [e4] at hP'
            exact hP' _ _ _ R3 sm
        | str cs =>
          have m := R3.headv
          cases m
          simp only [dSl] at hP
          by_cases hz : cs.length ≤ 16777216
          · rw [if_pos hz] at hP
            refine .inr (.inr ⟨_, rfl, by rw [mkS_length, sizeLine_eq]; exact hz, ?_⟩)
            have e4 : cutS (mkS cs) lo hi = mkS (cutD cs lo hi) := by
              show (⟨((cs.toArray.toList.drop (HT.sIx (mkS cs).length 0 lo)).take (HT.sIx (mkS cs).length (mkS cs).length hi - HT.sIx (mkS cs).length 0 lo)).toArray⟩ : Str) = _
              rw [mkS_length]
              rfl
            rw [e4]
            exact hP _ _ _ (R3.drop.push (.str _)) sm
          · rw [if_neg hz] at hP; exact (show False from hP).elim
        | _ => exact (show False from hP).elim
/-! ### len(set(..)) of ints -/
def intsD : List D → Option (List Int)
  | [] => some []
  | .int i :: xs => (intsD xs).map (i :: ·)
  | _ :: _ => none
theorem intsD_im {K : PySem.W.Frag} {H : Hp} : ∀ {vs : List V} {xs : List D} {ns : List Int}, ImL K T H vs xs → intsD xs = some ns → vs = ns.map V.int
  | _, [], ns, .nil, h => by simp [intsD] at h; subst h; rfl
  | _, x :: xs, ns, .cons m l, h => by
    cases x with
    | int i =>
      simp only [intsD] at h
      obtain ⟨ms, h1, rfl⟩ := Option.map_eq_some_iff.mp h
      cases m
      rw [intsD_im l h1]
      rfl
    | _ => simp [intsD] at h
/-- how many there are, each counted once -/
def cntD (ns : List Int) : Nat := ns.eraseDups.length
end
theorem mem_eraseDups' {ns : List Int} {x : Int} : x ∈ ns.eraseDups ↔ x ∈ ns := List.mem_eraseDups
theorem nodup_eraseDups' : ∀ (n : Nat) (ns : List Int), ns.length ≤ n → ns.eraseDups.Nodup
  | _, [], _ => by simp
  | 0, _ :: _, h => by simp at h
  | n + 1, x :: xs, h => by
    rw [List.eraseDups_cons]
    refine List.nodup_cons.mpr ⟨fun z => ?_, nodup_eraseDups' n _ ?_⟩
    · have := List.mem_eraseDups.mp z
      simp at this
    · have := List.length_filter_le (fun b => !b == x) xs
      simp at h
      omega
theorem nodup_len : ∀ (a b : List Int), a.Nodup → b.Nodup → (∀ x, x ∈ a ↔ x ∈ b) → a.length = b.length
  | [], [], _, _, _ => rfl
  | [], y :: b, _, _, h => absurd ((h y).mpr (by simp)) (by simp)
  | x :: a, b, na, nb, h => by
    obtain ⟨n1, n2⟩ := List.nodup_cons.mp na
    have hx : x ∈ b := (h x).mp (by simp)
    have e : (b.erase x).length + 1 = b.length := by
      rw [List.length_erase_of_mem hx]
      have := List.length_pos_of_mem hx
      omega
    have ih := nodup_len a (b.erase x) n2 (nb.erase x) fun y => by
      constructor
      · intro hy
        have : y ≠ x := fun z => n1 (z ▸ hy)
        exact (List.mem_erase_of_ne this).mpr ((h y).mp (by simp [hy]))
      · intro hy
        have hb := List.mem_of_mem_erase hy
        have : y ≠ x := fun z => by
          subst z
          exact (List.Nodup.not_mem_erase nb) hy
        exact ((h y).mpr hb |> List.mem_cons.mp).resolve_left this
    simp [ih, ← e]
theorem set_count {w : World} {h : Heap} {a : Addr} {ns : List Int} {c : Nat} (S : SetR w h a (fun j => decide (j ∈ ns)) c) : c = cntD ns := by
  obtain ⟨o, es, ep, t, _, _, _, _, nd, hm, _, _, hn, _⟩ := S
  rw [← hn]
  unfold cntD
  rw [← nodup_len (es.toList.map keyOf) ns.eraseDups nd (nodup_eraseDups' _ ns (Nat.le_refl _)) fun x => by rw [← hm x, List.mem_eraseDups]; simp]
  simp
section
variable {T : Tab} {X : Cx} {W : WX} {a b c e o i f : Expr} {es : List Expr} {st : Stmt} {rest body : List Stmt} {ra rb rc re ri rf : DE} {rl : DA} {ro : DO} {qa qb : DT} {s u : DS} {ta tb tc te : TE} {pos : Pos}
def dLenSet : D → Option D
  | .tup xs => (intsD xs).bind fun ns => if ns.length ≤ 1000 then some (.int (cntD ns)) else none
  | _ => none
def tLenSetT (K : PySem.W.Frag) (ta : TE) : TE := fun σ H Q => ta σ H fun x H1 => ∃ (l : Addr) (ns : List Int), x = .ref l ∧ SqT K H1 l (ns.map V.int) ∧ ns.length ≤ 1000 ∧ Q (.int (cntD ns : Nat)) H1
theorem pe_lenSetT {p p2 q pos : Pos} (hg : Gl X "len") (hm : X.mg "len" = none) (hg2 : Gl X "set") (hm2 : X.mg "set" = none) (ha : PE X a ta) (hc : X.calm = true) (na : starEach [a] X.env = (false, eval a X.env) :: starEach [] X.env := by rfl) :
    PE X (.Call (.Name "len" p) [.Call (.Name "set" p2) [a] [] q] [] pos) (tLenSetT X.K ta) := by
  refine ⟨fun pins s σ H Q I h => ?_⟩
  refine Call_ (ld_blt I hg hm boot_len ?_)
  refine PyProof.Rows.callWith_builtin1 (PyProof.Rows.args_cons ?_ rfl) rfl rfl
  refine Call_ (ld_blt I hg2 hm2 boot_set ?_)
  refine PyProof.Rows.callWith_type1 (PyProof.Rows.args_cons (thn (ha.run pins s σ H _ I h) fun v s1 ⟨x, H1, I1, r1, q1⟩ => PyProof.Rows.args_nil ?_) na) na rfl
  obtain ⟨l, ns, rfl, hq, hl, q1⟩ := q1
  cases r1
  obtain ⟨its, r, pl, hz⟩ := I1.tuple hq
  refine call_set_tupI ns (I1.ok.hd hc) pl (by simpa using intsAre_of r) (by unfold scanBound; omega) fun h' tk c hS hcl hk => ?_
  refine PyProof.Rows.args_nil ?_
  have hcnt := set_count hS
  obtain ⟨o, es, ep, t, ho, hex, hd, _, _, _, _, hf, hn, _⟩ := hS
  have I2 : Inv X pins σ H1 { s1 with heap := h', toks := tk } := I1.kept hk
  exact call_len_set ho hex hd hf (by rw [hn]; omega) ⟨.int (cntD ns : Nat), H1, I2.tok _, ⟨_, by rw [hn, hcnt]⟩, q1⟩
theorem pd_lenSet {p p2 q : Pos} (hg : Gl X "len") (hm : X.mg "len" = none) (hg2 : Gl X "set") (hm2 : X.mg "set" = none) (hc : X.calm = true) (ha : PDE T X W a ra) (na : starEach [a] X.env = (false, eval a X.env) :: starEach [] X.env := by rfl) :
    PDE T X W (.Call (.Name "len" p) [.Call (.Name "set" p2) [a] [] q] [] pos) (rUn dLenSet ra) := by
  obtain ⟨ta, pa, sa⟩ := ha
  refine ⟨_, pe_lenSetT hg hm hg2 hm2 pa hc na, snd_one (R := fun x H1 Q => ∃ (l : Addr) (ns : List Int), x = .ref l ∧ SqT X.K H1 l (ns.map V.int) ∧ ns.length ≤ 1000 ∧ Q (.int (cntD ns : Nat)) H1) sa fun C Hd H ρw ρs σ vx x Q R hP => ?_⟩
  cases x with
  | tup xs =>
    have m := R.headv
    cases m with
    | tup h1 l1 =>
      simp only [dLenSet] at hP
      cases e1 : intsD xs with
      | none => rw [e1] at hP; exact (show False from hP).elim
      | some ns =>
        rw [e1] at hP
        simp only [Option.bind] at hP
        by_cases hz : ns.length ≤ 1000
        · rw [if_pos hz] at hP
          have ev := intsD_im l1 e1
          subst ev
          exact ⟨_, ns, rfl, same_t R.bas.sub h1, hz, hP _ Hd H (R.drop.push (.int _)) (.refl _)⟩
        · rw [if_neg hz] at hP; exact (show False from hP).elim
  | _ => exact (show False from hP).elim
/-! ### min(t) of ints -/
def minI : List Int → Option Int
  | [] => none
  | [x] => some x
  | x :: xs => (minI xs).map fun m => if x ≤ m then x else m
theorem minI_spec : ∀ {ns : List Int} {m : Int}, m ∈ ns → (∀ y ∈ ns, m ≤ y) → minI ns = some m
  | [], m, h, _ => by simp at h
  | [x], m, h, _ => by simp at h; subst h; rfl
  | x :: y :: xs, m, h, hm => by
    have hx := hm x (by simp)
    obtain ⟨m', h1, h2, h3⟩ : ∃ m', minI (y :: xs) = some m' ∧ m' ∈ y :: xs ∧ ∀ z ∈ y :: xs, m' ≤ z := by
      have : ∀ (l : List Int), l ≠ [] → ∃ m', m' ∈ l ∧ ∀ z ∈ l, m' ≤ z := by
        intro l
        induction l with
        | nil => intro h; exact absurd rfl h
        | cons a l ih =>
          intro _
          cases l with
          | nil => exact ⟨a, by simp, by simp⟩
          | cons b l =>
            obtain ⟨m', k1, k2⟩ := ih (by simp)
            by_cases q : a ≤ m'
            · exact ⟨a, by simp, fun z hz => (List.mem_cons.mp hz).elim (fun e => e ▸ Int.le_refl _) fun hz => Int.le_trans q (k2 z hz)⟩
            · exact ⟨m', List.mem_cons_of_mem _ k1, fun z hz => (List.mem_cons.mp hz).elim (fun e => by subst e; omega) (k2 z)⟩
      obtain ⟨m', k1, k2⟩ := this (y :: xs) (by simp)
      exact ⟨m', minI_spec k1 k2, k1, k2⟩
    show (minI (y :: xs)).map _ = _
    rw [h1]
    simp only [Option.map_some, Option.some.injEq]
    have k1 := hm m' (List.mem_cons_of_mem _ h2)
    rcases List.mem_cons.mp h with e | h
    · subst e; rw [if_pos k1]
    · have k2 := h3 m h
      have : m = m' := by omega
      subst this
      split <;> omega
end
theorem min_tup {prog : Program} {w : World} {A : Around} {E : Value → Shared → Prop} {s : Shared} {l : Addr} {its : List Value} {ns : List Int} {Q : Value → Shared → Prop} (hh : A.handled = none) (hl : s.heap.IsTuple l its.toArray) (hi : IntsAre its ns) (hne : 0 < ns.length)
    (h : ∀ h' tk M t', (∀ b o, s.heap.get? b = some o → h'.get? b = some o) → M ∈ ns → (∀ a, a ∈ ns → M ≤ a) → Q (.int M t') { s with heap := h', toks := tk }) : wpAny (model prog w) A (call (.builtin "min") [.ref l]) Q E s := by
  obtain ⟨xs, e⟩ := hi.allInts.items
  have hn : numsOf (intItems xs).toList = ns := by rw [← e]; exact hi.numsOf
  rw [nums_intItems] at hn
  subst hn
  rw [e] at hl
  have hsz : 0 < xs.size := by simpa using hne
  have hlt : l < s.heap.objs.size := by obtain ⟨_, e, _⟩ := hl; exact Heap.lt_size e
  refine call_min_walk (wpAny_pyIter_tuple hl ?_)
  refine ⟨_, _, _, _, _, _, _, rfl, Walks.tuple (A := A.in1) hh _ l (Nat.ne_of_lt hlt) (intItems xs), ⟨⟨_, Heap.get?_push_size _ rfl, rfl, rfl⟩, hl.push _⟩, fun b hb => ?_, by simpa [intItems] using hsz, CmpOf.ints_lt (numAt xs) (fun _ _ => intItems_at), fun v h' tk hP hk => ?_⟩
  · show b < (s.heap.push _).objs.size
    rw [Heap.size_push]
    rcases List.mem_cons.mp hb with rfl | hb
    · exact Nat.lt_succ_self _
    · rcases List.mem_cons.mp hb with rfl | hb
      · exact Nat.lt_succ_of_lt hlt
      · cases hb
  · have hv : (intItems xs)[argBest (fun i j => decide (numAt xs i < numAt xs j)) (xs.size - 1)]? = some v := by simpa [intItems] using hP
    obtain ⟨t, rfl⟩ := intItems_at hv
    obtain ⟨h1, h2⟩ := argBest_lt (numAt xs) (xs.size - 1)
    refine h h' tk _ t (fun b o e => hk b o (by simpa using Nat.ne_of_lt (Heap.lt_size e)) (Heap.get?_push_of_some _ e)) ?_ fun a ha => ?_
    · rw [numAt_eq]; exact PySem.getD_mem (by rw [List.length_map, Array.length_toList]; omega)
    · obtain ⟨j, hj, rfl⟩ := mem_getD ha
      rw [List.length_map, Array.length_toList] at hj
      rw [← numAt_eq]; exact h2 j (by omega)
section
variable {T : Tab} {X : Cx} {W : WX} {a b c e o i f : Expr} {es : List Expr} {st : Stmt} {rest body : List Stmt} {ra rb rc re ri rf : DE} {rl : DA} {ro : DO} {qa qb : DT} {s u : DS} {ta tb tc te : TE} {pos : Pos}
def dMinT : List D → Option D := d1 fun
  | .tup xs => (intsD xs).bind fun ns => (minI ns).map D.int
  | .lst xs => (intsD xs).bind fun ns => (minI ns).map D.int
  | _ => none
def rMinA (K : PySem.W.Frag) : List V → Hp → VK → Prop := fun vs H Q => ∃ (a : Addr) (ns : List Int), vs = [V.ref a] ∧ (SqL K H a (ns.map V.int) ∨ SqT K H a (ns.map V.int)) ∧ 0 < ns.length ∧ ∀ m, m ∈ ns → (∀ y, y ∈ ns → m ≤ y) → Q (.int m) H
theorem cr_minA (hc : X.calm = true) : CallR X (.builtin "min") (rMinA X.K) := by
  intro pins s σ H vs us Q I r h
  obtain ⟨a, ns, rfl, hs | hs, hne, q⟩ := h
  · exact cr_min hc pins s σ H _ us Q I r ⟨a, ns, rfl, hs, hne, q⟩
  · obtain ⟨its, rv, hl, _⟩ := I.tuple hs
    rw [Vals.ref1 r]
    exact min_tup (I.ok.hd hc) hl rv.ints hne fun h' tk m t' hk h1 h2 => ⟨.int _, H, I.kept hk, ⟨_, rfl⟩, q m h1 h2⟩
theorem cg_minT (hc : X.calm = true) : CallR X (.builtin "min") (rMinA X.K) ∧ CallG T X (rMinA X.K) dMinT := by
  refine ⟨cr_minA hc, cg_one ?_⟩
  intro C Hd H ρw ρs v x z Q R h hz k
  have key : ∀ (ns : List Int) (m : Int), minI ns = some m → 0 < ns.length := fun ns m h => by
    cases ns with
    | nil => simp [minI] at h
    | cons _ _ => simp
  cases h with
  | tup h1 l1 =>
    obtain ⟨ns, e1, hz⟩ := Option.bind_eq_some_iff.mp hz
    obtain ⟨m, e2, rfl⟩ := Option.map_eq_some_iff.mp hz
    have ev := intsD_im l1 e1
    subst ev
    refine ⟨_, ns, rfl, .inr (same_t R.bas.sub h1), key _ _ e2, fun m' h1 h2 => ?_⟩
    rw [minI_spec h1 h2] at e2
    cases e2
    exact k _ Hd H (R.push (.int _)) (.refl _)
  | lst h1 l1 =>
    obtain ⟨ns, e1, hz⟩ := Option.bind_eq_some_iff.mp hz
    obtain ⟨m, e2, rfl⟩ := Option.map_eq_some_iff.mp hz
    have ev := intsD_im l1 e1
    subst ev
    refine ⟨_, ns, rfl, .inl (.inl (same_rd R.bas.sub h1)), key _ _ e2, fun m' h1 h2 => ?_⟩
    rw [minI_spec h1 h2] at e2
    cases e2
    exact k _ Hd H (R.push (.int _)) (.refl _)
  | _ => cases hz
/-! ### for k in d, d a name for data -/
def forK (loc : List Nat) (i : Nat) (g : DG) (body : DS) : DS := fun δ => match δ[i]? with
  | some (.d (.dic es)) => (match forL loc g body (es.map fun e => dkD e.1) (fgt loc δ) with
    | .ex _ _ => .stuck
    | o => o)
  | _ => .stuck
theorem steps_keys {K : PySem.W.Frag} {d : Addr} {od : Obj} {kvs : List (Key × V)} {es : List (DKey × D)} (hk : kvs.map (·.1) = es.map (fun e => e.1.k)) {C : Ctx} (hH : ∀ {Hd H : Hp} {ws : L2.St} {ss : Env}, Rel K T C Hd H ws ss → H d = some (.frz od (.dK kvs))) :
    ∀ (Hd H : Hp) (ρw : L2.St) (ρs : Env), Rel K T C Hd H ρw ρs → (∀ i, (es.map fun e => dkD e.1).length ≤ i → (Itk d od kvs).stop i H) ∧ ∀ i x, (es.map fun e => dkD e.1)[i]? = some x → (Itk d od kvs).go i H ∧ ∀ v H', (Itk d od kvs).yld i H v H' → Rel K T C Hd H' (some v :: ρw) (.d x :: ρs) := by
  have hl : kvs.length = es.length := by simpa using congrArg List.length hk
  intro Hd H ρw ρs R
  refine ⟨fun i hi => ⟨hH R, by rw [hl]; simpa using hi⟩, fun i x hx => ?_⟩
  rw [List.getElem?_map] at hx
  obtain ⟨e, he, rfl⟩ := Option.map_eq_some_iff.mp hx
  have hi : i < es.length := by
    obtain ⟨z, _⟩ := List.getElem?_eq_some_iff.mp he
    exact z
  refine ⟨⟨hH R, by rw [hl]; exact hi⟩, fun v H' hy => ?_⟩
  obtain ⟨rfl, k, v', hkv, rfl⟩ := hy
  have hk2 : (kvs.map (·.1))[i]? = (es.map (fun e => e.1.k))[i]? := by rw [hk]
  rw [List.getElem?_map, List.getElem?_map, hkv, he] at hk2
  simp only [Option.map_some, Option.some.injEq] at hk2
  subst hk2
  refine R.push ?_
  cases e.1 with
  | i n => exact .int n
  | s x => exact .str x
/-- the state begins anew -/
theorem Rel.reroot {K : PySem.W.Frag} {C : Ctx} {Hd H : Hp} {ws : L2.St} {ss : Env} (R : Rel K T C Hd H ws ss) : ∃ f, (∀ a ∈ f, Hd a = none) ∧ Rel K T ⟨Hd, H, f, C.pv⟩ Hd H ws ss ∧ ∀ {Hd3 H3 : Hp} {ws' : L2.St} {ss' : Env}, Rel K T ⟨Hd, H, f, C.pv⟩ Hd3 H3 ws' ss' → Rel K T C Hd3 H3 ws' ss' := by
  obtain ⟨f, h, nd, hf⟩ := R.env
  refine ⟨f, fun a ha => (hf a ha).1, ⟨R.bas, .refl, f, h, nd, fun a ha => ⟨(hf a ha).1, .inr ha⟩⟩, fun {Hd3 H3 ws' ss'} R3 => ?_⟩
  obtain ⟨f', h', nd', hf'⟩ := R3.env
  refine ⟨R3.bas, R.keep.trans R3.keep fun a ha => (hf a ha).2, f', h', nd', fun a ha => ⟨(hf' a ha).1, ?_⟩⟩
  rcases (hf' a ha).2 with z | z
  · exact .inl (R.free0 z).2
  · exact (hf a z).2
theorem for_core {C : Ctx} {J : It} {xs : List D} {g' : TG} {tb : TS} {g : DG} {is : List Nat} {loc : List Nat} {Hd1 H1 : Hp} {ws : L2.St} {ss : Env} {σ : L2.St} {δ1 : Env} {D : Ends} (hl : ws.length = ss.length)
    (hJ : ∀ (Hd H : Hp) (ρw : L2.St) (ρs : Env), Rel X.K T C Hd H ρw ρs → (∀ i, xs.length ≤ i → J.stop i H) ∧ ∀ i x, xs[i]? = some x → J.go i H ∧ ∀ v H', J.yld i H v H' → Rel X.K T C Hd H' (some v :: ρw) (.d x :: ρs))
    (qg : DtgS T X g' g is) (qb : SndS T X W tb s) (R1 : Rel X.K T C Hd1 H1 (ws ++ σ) (ss ++ δ1)) (P : SPost X.K T C W ws ss (forL loc g s xs δ1) D) :
    ∃ W : Nat → Nat → L2.St → Hp → Prop, (∃ m, W 0 m σ H1) ∧ ∀ i m σ H, W i m σ H →
      (J.stop i H ∧ D.nx σ H) ∨ (J.go i H ∧ ∃ N : L2.St → Hp → Prop, (∀ σ' H', N σ' H' → ∃ m', m' < m ∧ W (i + 1) m' σ' H') ∧ ∀ x H', J.yld i H x H' → g' x σ H' fun σ2 H2 => tb { D with nx := N, ct := N, bk := D.nx } σ2 H2) := by
  refine ⟨fun i m σ' H' => i ≤ xs.length ∧ m = xs.length - i ∧ ∃ Hd' δ', Rel X.K T C Hd' H' (ws ++ σ') (ss ++ δ') ∧ SPost X.K T C W ws ss (forL loc g s (xs.drop i) δ') D,
    ⟨xs.length, Nat.zero_le _, by simp, Hd1, δ1, R1, by simpa using P⟩, ?_⟩
  rintro i m σ' H' ⟨hi, rfl, Hd', δ', R', P'⟩
  obtain ⟨hstop, hgo⟩ := hJ Hd' H' _ _ R'
  by_cases hlt : i < xs.length
  · have hx : xs[i]? = some xs[i] := List.getElem?_eq_getElem hlt
    obtain ⟨go, hy⟩ := hgo i xs[i] hx
    rw [List.drop_eq_getElem_cons hlt] at P'
    refine .inr ⟨go, fun σ2 H2 => ∃ Hd2 δ2, Rel X.K T C Hd2 H2 (ws ++ σ2) (ss ++ δ2) ∧ SPost X.K T C W ws ss (forL loc g s (xs.drop (i + 1)) δ2) D, fun σ2 H2 ⟨Hd2, δ2, R2, P2⟩ => ⟨xs.length - (i + 1), by omega, hlt, rfl, Hd2, δ2, R2, P2⟩, fun v H2 hyl => ?_⟩
    have R2 := hy v H2 hyl
    unfold forL at P'
    cases e2 : g xs[i] δ' with
    | none => simp only [e2] at P'; exact P'.elim
    | some δ1 =>
      simp only [e2] at P'
      refine qg C Hd' H2 ws ss σ' δ' δ1 v xs[i] _ hl R2 e2 fun σ3 R3 _ => ?_
      refine qb C Hd' H2 ws ss σ3 δ1 _ hl R3 ?_
      cases e3 : s δ1 with
      | nx δ2 => simp only [e3] at P'; exact fun Hd4 H4 σ4 R4 => ⟨Hd4, _, Rel.fgt hl R4 loc, P'⟩
      | ct δ2 => simp only [e3] at P'; exact fun Hd4 H4 σ4 R4 => ⟨Hd4, _, Rel.fgt hl R4 loc, P'⟩
      | bk δ2 => simp only [e3] at P'; exact fun Hd4 H4 σ4 R4 => P' Hd4 H4 σ4 (Rel.fgt hl R4 loc)
      | rt d δ2 => simp only [e3] at P'; exact P'
      | ro d δ2 => simp only [e3] at P'; exact P'
      | ex x δ2 => simp only [e3] at P'; exact P'
      | stuck => simp only [e3] at P'; exact P'
  · have hi' : i = xs.length := by omega
    subst hi'
    rw [List.drop_length] at P'
    exact .inl ⟨hstop _ (Nat.le_refl _), P' Hd' H' σ' R'⟩
theorem pds_forK {tg : Expr} {i : Nat} {g : DG} {is : List Nat} (loc : List Nat) (hp : PassesOwn (model X.prog X.w) X.A X.env X.xe) (hc : X.calm = true) (hi : PE X e (tVar i)) (hg : PDG T X tg g is) (hb : PDSs T X W body s) (hs : ∀ x, foldedSetIterable e X.env x = pure x := by intro _; rfl) :
    PDS T X W (.For tg e body [] pos) (forK loc i g s) := by
  obtain ⟨tg', pg, qg⟩ := hg
  obtain ⟨tb, pb, qb⟩ := hb
  have ps := ps_for hp hc (pi_keys hi) pg pb hs (pos := pos)
  refine ⟨fun D σ H => tFor (iKeys (tVar i)) tg' tb D σ H ∨ tLock (tFor (iKeys (tVar i)) tg' tb) D σ H, ⟨fun pins s σ H D I h => ?_⟩, ?_⟩
  · rcases h with h | h
    · exact ps.run pins s σ H D I h
    · exact (ps_lock ps).run pins s σ H D I h
  intro C Hd H ws ss σ δ D hl hR hP
  unfold forK at hP
  cases e0 : δ[i]? with
  | none => rw [e0] at hP; exact hP.elim
  | some sl =>
    rw [e0] at hP
    cases sl with
    | un => exact hP.elim
    | exc => exact hP.elim
    | own _ _ => exact hP.elim
    | d x =>
      cases x with
      | dic es =>
        have hP : SPost X.K T C W ws ss (match forL loc g s (es.map fun e => dkD e.1) (fgt loc δ) with | .ex _ _ => .stuck | o => o) D := hP
        obtain ⟨v, ev, m⟩ := hR.var hl e0
        cases m with
        | @dic d kvs _ h1 h2 h3 =>
          -- the loop, the dict locked
          have loop : ∀ (C' : Ctx) (od : Obj) (Hd1 H1 : Hp) (D' : Ends), (∀ {Hd H : Hp} {ws : L2.St} {ss : Env}, Rel X.K T C' Hd H ws ss → H d = some (.frz od (.dK kvs))) → Rel X.K T C' Hd1 H1 (ws ++ σ) (ss ++ δ) →
              SPost X.K T C' W ws ss (match forL loc g s (es.map fun e => dkD e.1) (fgt loc δ) with | .ex _ _ => .stuck | o => o) D' → tFor (iKeys (tVar i)) tg' tb D' σ H1 := by
            intro C' od Hd1 H1 D' hH R1 P1
            have hJ := steps_keys (T := T) (K := X.K) h2 (C := C') (od := od) (d := d) hH
            refine ⟨_, ev, d, od, rfl, .inl ⟨kvs, hH R1, ?_⟩⟩
            refine for_core (loc := loc) hl hJ qg qb (Rel.fgt hl R1 loc) ?_
            cases e3 : forL loc g s (es.map fun e => dkD e.1) (fgt loc δ) with
            | ex x δ2 => rw [e3] at P1; exact P1.elim
            | stuck => rw [e3] at P1; exact P1.elim
            | nx δ2 => rw [e3] at P1; exact P1
            | ct δ2 => rw [e3] at P1; exact P1
            | bk δ2 => rw [e3] at P1; exact P1
            | rt d δ2 => rw [e3] at P1; exact P1
            | ro d δ2 => rw [e3] at P1; exact P1
          rcases h1 with h1 | ⟨od, h1⟩
          · refine .inr ⟨d, _, hR.bas.sub d _ h1, True.intro, fun od => ?_⟩
            obtain ⟨f, hf, R1, back⟩ := hR.lock (od := od) h1 rfl (fun _ _ _ z => nomatch z)
            refine loop _ od _ _ _ (fun {Hd H ws ss} R => (back R).1) R1 ?_
            cases e3 : forL loc g s (es.map fun e => dkD e.1) (fgt loc δ) with
            | ex x δ2 => rw [e3] at hP; exact hP.elim
            | stuck => rw [e3] at hP; exact hP.elim
            | nx δ2 => rw [e3] at hP; exact fun Hd4 H4 σ4 R4 => ⟨(back R4).1, hP _ _ _ (back R4).2⟩
            | ct δ2 => rw [e3] at hP; exact fun Hd4 H4 σ4 R4 => ⟨(back R4).1, hP _ _ _ (back R4).2⟩
            | bk δ2 => rw [e3] at hP; exact fun Hd4 H4 σ4 R4 => ⟨(back R4).1, hP _ _ _ (back R4).2⟩
            | rt d δ2 => rw [e3] at hP; exact fun v Hd4 H4 σ4 R4 => ⟨(back R4).1, hP v _ _ _ (back R4).2⟩
            | ro d δ2 => rw [e3] at hP; exact fun v Hd4 H4 σ4 R4 => ⟨(back R4).1, hP v _ _ _ (back R4).2⟩
          · obtain ⟨f, hf, R1, back⟩ := hR.reroot
            refine .inl (loop _ od _ _ _ (fun {Hd3 H3 ws ss} R => ?_) R1 ?_)
            · exact R.keep.kh d _ (hR.bas.sub d _ h1) fun z => by rw [hf d z] at h1; cases h1
            · cases e3 : forL loc g s (es.map fun e => dkD e.1) (fgt loc δ) with
              | ex x δ2 => rw [e3] at hP; exact hP.elim
              | stuck => rw [e3] at hP; exact hP.elim
              | nx δ2 => rw [e3] at hP; exact fun Hd4 H4 σ4 R4 => hP _ _ _ (back R4)
              | ct δ2 => rw [e3] at hP; exact fun Hd4 H4 σ4 R4 => hP _ _ _ (back R4)
              | bk δ2 => rw [e3] at hP; exact fun Hd4 H4 σ4 R4 => hP _ _ _ (back R4)
              | rt d δ2 => rw [e3] at hP; exact fun v Hd4 H4 σ4 R4 => hP v _ _ _ (back R4)
              | ro d δ2 => rw [e3] at hP; exact fun v Hd4 H4 σ4 R4 => hP v _ _ _ (back R4)
      | _ => exact hP.elim
end
end L2.DL

/-! ## DL10 -/
set_option linter.all false
set_option maxRecDepth 100000
set_option maxHeartbeats 4000000
/-! DL10: what stands in the module: constants, tables; raise, try; defs. -/
namespace L2.DL
open PySem PySem.Spec PyProof.Rows L2
/-! ### constants of the module -/
mutual
/-- a value of the written part stands for a datum -/
def imK (K : PySem.W.Frag) : Value → D → Bool
  | .none, .non => true
  | .bool b, .bl c => b == c
  | .int i _, .int j => decide (i = j)
  | .str x _, .str cs => decide (x = mkS cs)
  | .ref a, .tup xs => (match K.lookup a with
    | some ⟨.type c, _, .seq its _, _⟩ => decide (c = "tuple") && (decide (its.size ≤ sizeLine) && imKL K its.toList xs)
    | _ => false)
  | _, _ => false
def imKL (K : PySem.W.Frag) : List Value → List D → Bool
  | [], [] => true
  | u :: us, x :: xs => imK K u x && imKL K us xs
  | _, _ => false
end
section
variable {K : PySem.W.Frag} {T : Tab}
mutual
theorem imK_ok : ∀ (x : D) (u : Value), imK K u x = true → ∃ v, RelV v u ∧ ∀ H, Im K T H v x
  | .non, u, h => by
    cases u with
    | none => exact ⟨.non, rfl, fun _ => .non⟩
    | _ => simp [imK] at h
  | .bl c, u, h => by
    cases u with
    | bool b => simp [imK] at h; subst h; exact ⟨.bl _, rfl, fun _ => .bl _⟩
    | _ => simp [imK] at h
  | .int j, u, h => by
    cases u with
    | int i t => simp [imK] at h; subst h; exact ⟨.int _, ⟨t, rfl⟩, fun _ => .int _⟩
    | _ => simp [imK] at h
  | .str cs, u, h => by
    cases u with
    | str x t => simp [imK] at h; subst h; exact ⟨.str _, ⟨t, rfl⟩, fun _ => .str _⟩
    | _ => simp [imK] at h
  | .tup xs, u, h => by
    cases u with
    | ref a =>
      simp only [imK] at h
      cases q : K.lookup a with
      | none => rw [q] at h; cases h
      | some o =>
        obtain ⟨oc, od, dt, sl⟩ := o
        rw [q] at h
        cases oc with
        | type c =>
          cases dt with
          | seq its n =>
            simp only [Bool.and_eq_true, decide_eq_true_eq] at h
            obtain ⟨rfl, h2, h3⟩ := h
            obtain ⟨vs, r, m⟩ := imKL_ok xs its.toList h3
            exact ⟨.ref a, rfl, fun H => .tup (.inr ⟨_, its, n, q, rfl, rfl, h2, r⟩) (m H)⟩
          | _ => cases h
        | _ => cases h
    | _ => simp [imK] at h
  | .lst xs, u, h => by cases u <;> simp [imK] at h
  | .dic xs, u, h => by cases u <;> simp [imK] at h
  | .ins c xs, u, h => by cases u <;> simp [imK] at h
theorem imKL_ok : ∀ (xs : List D) (us : List Value), imKL K us xs = true → ∃ vs, Vals vs us ∧ ∀ H, ImL K T H vs xs
  | [], [], _ => ⟨[], .nil, fun _ => .nil⟩
  | [], _ :: _, h => by simp [imKL] at h
  | _ :: _, [], h => by simp [imKL] at h
  | x :: xs, u :: us, h => by
    simp only [imKL, Bool.and_eq_true] at h
    obtain ⟨v, r, m⟩ := imK_ok x u h.1
    obtain ⟨vs, rs, ms⟩ := imKL_ok xs us h.2
    exact ⟨v :: vs, .cons r rs, fun H => .cons (m H) (ms H)⟩
end
end
/-- the module's name x is this datum -/
def conD (K : PySem.W.Frag) (x : Str) (d : D) : Bool := match PySem.W.nsIn K mainGlobals x with
  | some (some u) => imK K u d
  | _ => false
theorem conD_ok {K : PySem.W.Frag} {T : Tab} {h : Heap} {mg : Str → Option Value} {x : Str} {d : D} (X : K.In h) (G : h.Ns mainGlobals mg) (e : conD K x d = true) : ∃ u v, mg x = some u ∧ RelV v u ∧ ∀ H, Im K T H v d := by
  unfold conD at e
  cases q : PySem.W.nsIn K mainGlobals x with
  | none => rw [q] at e; cases e
  | some r =>
    rw [q] at e
    cases r with
    | none => cases e
    | some u =>
      obtain ⟨v, r, m⟩ := imK_ok (T := T) d u e
      exact ⟨u, v, PySem.W.mg_of X G q, r, m⟩
/-! ### tables of the module with text keys -/
abbrev TB := List (List Nat × D)
def entB (K : PySem.W.Frag) : List DictEntry → TB → Bool
  | [], [] => true
  | e :: es, q :: qs => (match e.key with
    | .str x _ => decide (x = mkS q.1) && (imK K e.val q.2 && entB K es qs)
    | _ => false)
  | _, _ => false
def tabD (K : PySem.W.Frag) (x : Str) (tb : TB) : Bool := match PySem.W.nsIn K mainGlobals x with
  | some (some (.ref a)) => (match K.lookup a with
    | some ⟨_, _, .dict es _, _⟩ => entB K es.toList tb
    | _ => false)
  | _ => false
structure KTab (K : PySem.W.Frag) (T : Tab) (w : World) (mg : Str → Option Value) (x : Str) (tb : TB) : Prop where
  ex : ∃ d, mg x = some (.ref d) ∧ (∃ es n, KDict K w d es n) ∧ (∀ z, (tb.lookup z = none → PySem.W.nsIn K d (mkS z) = some none) ∧ ∀ y, tb.lookup z = some y → ∃ u v, PySem.W.nsIn K d (mkS z) = some (some u) ∧ RelV v u ∧ ∀ H, Im K T H v y)
theorem entB_find {K : PySem.W.Frag} {T : Tab} {z : List Nat} : ∀ {es : List DictEntry} {tb : TB}, entB K es tb = true → es.any (·.refKey) = false ∧ ((tb.lookup z = none ∧ es.find? (·.key.isStr (mkS z)) = none) ∨ ∃ y e v, tb.lookup z = some y ∧ es.find? (·.key.isStr (mkS z)) = some e ∧ RelV v e.val ∧ ∀ H, Im K T H v y)
  | [], [], _ => ⟨rfl, .inl ⟨rfl, rfl⟩⟩
  | [], _ :: _, h => by simp [entB] at h
  | _ :: _, [], h => by simp [entB] at h
  | e :: es, q :: qs, h => by
    simp only [entB] at h
    cases hk : e.key with
    | str x t =>
      rw [hk] at h
      simp only [Bool.and_eq_true, decide_eq_true_eq] at h
      obtain ⟨rfl, h2, h3⟩ := h
      obtain ⟨i1, i2⟩ := entB_find (T := T) (z := z) h3
      have hr : e.refKey = false := by unfold DictEntry.refKey; rw [hk]
      refine ⟨by rw [List.any_cons, hr, i1]; rfl, ?_⟩
      obtain ⟨q1, q2⟩ := q
      by_cases hz : z = q1
      · subst hz
        obtain ⟨v, r, m⟩ := imK_ok (T := T) q2 e.val h2
        exact .inr ⟨q2, e, v, by simp, by simp [List.find?_cons, hk, Value.isStr], r, m⟩
      · have e1 : (z == q1) = false := beq_eq_false_iff_ne.mpr hz
        have e2 : (mkS q1 == mkS z) = false := by rw [mkS_eq]; exact beq_eq_false_iff_ne.mpr fun y => hz y.symm
        rcases i2 with ⟨j1, j2⟩ | ⟨y, e', v, j1, j2, j3⟩
        · exact .inl ⟨by simp [List.lookup_cons, e1, j1], by rw [List.find?_cons]; simp only [hk, Value.isStr, e2]; exact j2⟩
        · refine .inr ⟨y, e', v, by simp [List.lookup_cons, e1, j1], ?_, j3⟩
          rw [List.find?_cons]
          simp only [hk, Value.isStr, e2]
          exact j2
    | _ => rw [hk] at h; cases h
theorem ktab_of {K : PySem.W.Frag} {T : Tab} {w : World} {h : Heap} {mg : Str → Option Value} {x : Str} {tb : TB} (X : K.In h) (G : h.Ns mainGlobals mg) (e : tabD K x tb = true) (hd : ∃ ks, He.dicW K (He.ga K x) = some (He.keysIn w.params ks)) : KTab K T w mg x tb := by
  unfold tabD at e
  cases q : PySem.W.nsIn K mainGlobals x with
  | none => rw [q] at e; cases e
  | some r =>
    rw [q] at e
    cases r with
    | none => cases e
    | some u =>
      cases u with
      | ref a =>
        simp only at e
        have ga : He.ga K x = a := by unfold He.ga; rw [q]
        obtain ⟨ks, hd⟩ := hd
        rw [ga] at hd
        obtain ⟨es, n, kd⟩ := He.dicW_ok hd
        rw [kd.at_] at e
        refine ⟨a, PySem.W.mg_of X G q, ⟨es, n, kd⟩, fun z => ?_⟩
        obtain ⟨i1, i2⟩ := entB_find (T := T) (z := z) e
        have hn : PySem.W.nsIn K a (mkS z) = (match es.toList.find? (·.key.isStr (mkS z)) with
            | some e => some (some e.val)
            | none => if es.toList.any (·.refKey) then none else some none) := by
          unfold PySem.W.nsIn
          rw [kd.at_] <;> rfl
        rcases i2 with ⟨j1, j2⟩ | ⟨y, e', v, j1, j2, j3, j4⟩
        · refine ⟨fun _ => ?_, fun y hy => ?_⟩
          · rw [hn, j2, i1]; rfl
          · rw [j1] at hy; cases hy
        · refine ⟨fun hy => ?_, fun y' hy => ?_⟩
          · rw [j1] at hy; cases hy
          · rw [j1] at hy
            cases hy
            exact ⟨e'.val, v, by rw [hn, j2], j3, j4⟩
      | _ => cases e
section
variable {T : Tab} {X : Cx} {W : WX} {a b c e o i f : Expr} {es : List Expr} {st : Stmt} {rest body suite : List Stmt} {ra rb rc re ri rf : DE} {rl : DA} {ro : DO} {qa qb : DT} {s u : DS} {ta tb' tc te : TE} {pos : Pos} {tb : TB} {x : Str}
theorem pd_con {d : D} {p : Pos} (hg : Gl X x) (h : ∃ u v, X.mg x = some u ∧ RelV v u ∧ ∀ H, Im X.K T H v d) (hd : (x == ("__debug__" : Str)) = false := by decide) : PDE T X W (.Name x p) (rC d) := by
  obtain ⟨u, v, hm, r, m⟩ := h
  exact pd_c (pe_glob hg hm r hd) m
def dTabIn (tb : TB) : D → Option D
  | .str z => some (.bl (tb.lookup z).isSome)
  | _ => none
def dTabNotIn (tb : TB) : D → Option D
  | .str z => some (.bl (!(tb.lookup z).isSome))
  | _ => none
def dTabGet (tb : TB) : D → Option D
  | .str z => tb.lookup z
  | _ => none
theorem tabIn_sound {d : Addr} {neg : Bool} (hv : ∀ z, (tb.lookup z = none → PySem.W.nsIn X.K d (mkS z) = some none) ∧ ∀ y, tb.lookup z = some y → ∃ u v, PySem.W.nsIn X.K d (mkS z) = some (some u) ∧ RelV v u ∧ ∀ H, Im X.K T H v y)
    (sa : Snd T X W ta ra) : Snd T X W (tOp (fun x y H Q => ∃ (z : Str) (r : Option Value), x = .str z ∧ y = .ref d ∧ PySem.W.nsIn X.K d z = some r ∧ Q (.bl (if neg then !r.isSome else r.isSome)) H) ta (tC (.ref d)))
      (rUn (fun x => match x with | .str z => some (.bl (if neg then !(tb.lookup z).isSome else (tb.lookup z).isSome)) | _ => none) ra) := by
  refine snd_one (R := fun x H Q => ∃ (z : Str) (r : Option Value), x = .str z ∧ V.ref d = .ref d ∧ PySem.W.nsIn X.K d z = some r ∧ Q (.bl (if neg then !r.isSome else r.isSome)) H) sa fun C Hd H ρw ρs σ vx x Q R hP => ?_
  cases x with
  | str z =>
    have m := R.headv
    cases m
    have fin : ∀ r : Option Value, r.isSome = (tb.lookup z).isSome → Q (.bl (if neg then !r.isSome else r.isSome)) H := fun r hr => by
      rw [hr]
      exact hP _ Hd H (R.drop.push (.bl _)) (.refl _)
    cases e : tb.lookup z with
    | none => exact ⟨mkS z, none, rfl, rfl, (hv z).1 e, fin _ (by rw [e]; rfl)⟩
    | some y =>
      obtain ⟨u, v, h1, _⟩ := (hv z).2 y e
      exact ⟨mkS z, some u, rfl, rfl, h1, fin _ (by rw [e]; rfl)⟩
  | _ => exact (show False from hP).elim
theorem pd_tabIn {p : Pos} (hg : Gl X x) (h : KTab X.K T X.w X.mg x tb) (ha : PDE T X W a ra) (hd : (x == ("__debug__" : Str)) = false := by decide) (hm : behindInMarks .In (.Name x p) = false := by rfl) : PDE T X W (.Compare a [.In] [.Name x p] pos) (rUn (dTabIn tb) ra) := by
  obtain ⟨d, hx, ⟨es, n, kd⟩, hv⟩ := h
  obtain ⟨ta, pa, sa⟩ := ha
  have e : dTabIn tb = fun x => match x with | .str z => some (.bl (if false then !(tb.lookup z).isSome else (tb.lookup z).isSome)) | _ => none := by funext x; cases x <;> rfl
  rw [e]
  exact ⟨_, pe_cmpR (op_in_kd kd) pa (pe_glob (v := .ref d) hg hx rfl hd) hm, tabIn_sound (neg := false) hv sa⟩
theorem pd_tabNotIn {p : Pos} (hg : Gl X x) (h : KTab X.K T X.w X.mg x tb) (ha : PDE T X W a ra) (hd : (x == ("__debug__" : Str)) = false := by decide) (hm : behindInMarks .NotIn (.Name x p) = false := by rfl) : PDE T X W (.Compare a [.NotIn] [.Name x p] pos) (rUn (dTabNotIn tb) ra) := by
  obtain ⟨d, hx, ⟨es, n, kd⟩, hv⟩ := h
  obtain ⟨ta, pa, sa⟩ := ha
  have e : dTabNotIn tb = fun x => match x with | .str z => some (.bl (if true then !(tb.lookup z).isSome else (tb.lookup z).isSome)) | _ => none := by funext x; cases x <;> rfl
  rw [e]
  exact ⟨_, pe_cmpR (op_notIn_kd kd) pa (pe_glob (v := .ref d) hg hx rfl hd) hm, tabIn_sound (neg := true) hv sa⟩
theorem pdt_tabIn {p : Pos} (hg : Gl X x) (h : KTab X.K T X.w X.mg x tb) (ha : PDE T X W a ra) (hd : (x == ("__debug__" : Str)) = false := by decide) (hm : behindInMarks .In (.Name x p) = false := by rfl) : PDT T X W (.Compare a [.In] [.Name x p] pos) (rT (rUn (dTabIn tb) ra)) := by
  obtain ⟨d, hx, ⟨es, n, kd⟩, hv⟩ := h
  obtain ⟨ta, pa, sa⟩ := ha
  have e : dTabIn tb = fun x => match x with | .str z => some (.bl (if false then !(tb.lookup z).isSome else (tb.lookup z).isSome)) | _ => none := by funext x; cases x <;> rfl
  rw [e]
  exact ⟨_, pt_cmpR (op_in_kd kd) pa (pe_glob (v := .ref d) hg hx rfl hd) hm, sndT_of (tabIn_sound (neg := false) hv sa)⟩
theorem pdt_tabNotIn {p : Pos} (hg : Gl X x) (h : KTab X.K T X.w X.mg x tb) (ha : PDE T X W a ra) (hd : (x == ("__debug__" : Str)) = false := by decide) (hm : behindInMarks .NotIn (.Name x p) = false := by rfl) : PDT T X W (.Compare a [.NotIn] [.Name x p] pos) (rT (rUn (dTabNotIn tb) ra)) := by
  obtain ⟨d, hx, ⟨es, n, kd⟩, hv⟩ := h
  obtain ⟨ta, pa, sa⟩ := ha
  have e : dTabNotIn tb = fun x => match x with | .str z => some (.bl (if true then !(tb.lookup z).isSome else (tb.lookup z).isSome)) | _ => none := by funext x; cases x <;> rfl
  rw [e]
  exact ⟨_, pt_cmpR (op_notIn_kd kd) pa (pe_glob (v := .ref d) hg hx rfl hd) hm, sndT_of (tabIn_sound (neg := true) hv sa)⟩
theorem pd_tabGet {p : Pos} (hg : Gl X x) (h : KTab X.K T X.w X.mg x tb) (hb : PDE T X W b rb) (hs : PlainIx b) (hd : (x == ("__debug__" : Str)) = false := by decide) : PDE T X W (.Subscript (.Name x p) b pos) (rUn (dTabGet tb) rb) := by
  obtain ⟨d, hx, ⟨es, n, kd⟩, hv⟩ := h
  obtain ⟨tb', pb, sb⟩ := hb
  refine ⟨_, pe_ix ix_kdict (pe_glob (v := .ref d) hg hx rfl hd) pb hs, ?_⟩
  refine snd_one (R := fun y H Q => ∃ p z v, V.ref d = .ref p ∧ y = .str z ∧ KDct X.K X.w p z v ∧ Q v H) (g := fun x => ofO (dTabGet tb x)) sb fun C Hd H ρw ρs σ vy y Q R hP => ?_
  cases y with
  | str z =>
    have m := R.headv
    cases m
    simp only [dTabGet] at hP
    cases e : tb.lookup z with
    | none => rw [e] at hP; exact (show False from hP).elim
    | some y =>
      rw [e] at hP
      obtain ⟨u, v, h1, h2, h3⟩ := (hv z).2 y e
      exact ⟨d, mkS z, v, rfl, rfl, ⟨es, n, u, kd.at_, kd.lit, h1, h2⟩, hP v Hd H (R.drop.push (h3 Hd)) (.refl _)⟩
  | _ => exact (show False from hP).elim
/-! ### raise X('..') -/
def sRaise (c : Nat) : DS := fun δ => .ex ⟨c, none⟩ δ
theorem pds_raise {cx : Expr} {k : Nat} (hc : X.calm = true) (tk : Takes X W) (h : PMk X cx fun _ H Q => Q (.ref (T.cl k)) none H) : PDS T X W (.Raise (some cx) none pos) (sRaise k) :=
  ⟨_, ps_raise hc tk h, fun C Hd H ws ss σ δ D hl hR hP => hP _ _ Hd H σ hR ⟨rfl, rfl⟩⟩
/-! ### try: .. except C as e: .. -/
def sTry (nE : Nat) (ex : Nat → Bool) (i : Nat) (body : DS) (su : XD → DS) : DS := fun δ => match body δ with
  | .ex x δ' => if x.c < nE then (if ex x.c = true then (match su x (δ'.set i .exc) with
      | .nx δ2 => .nx ((noX δ2).set i .un)
      | .bk δ2 => .bk ((noX δ2).set i .un)
      | .ct δ2 => .ct ((noX δ2).set i .un)
      | .rt d δ2 => .rt d (noX δ2)
      | .ro t δ2 => .ro t (noX δ2)
      | .ex _ _ => .stuck
      | .stuck => .stuck) else .ex x δ') else .stuck
  | o => o
/-- the exception's object fits its datum -/
def Fits (T : Tab) (x : XD) (cls : Value) (d : Option Addr) : Prop := cls = .ref (T.cl x.c) ∧ (x.line = none → d = none)
theorem noX_append (a b : Env) : noX (a ++ b) = noX a ++ noX b := List.map_append
theorem pds_try {n xc : Str} {cv : Value} {i nE : Nat} {ex : Nat → Bool} {b₀ : Stmt} {np pos' : Pos} {su : XD → DS} (hcur : T.cur = none) (hs : X.stack = X.env :: X.outer) (hf : X.env.frame = some X.env.locals) (hN : X.N.Nodup) (hi : X.N[i]? = some n) (hln : X.env.kindOf n = some .local) (hc : Names X xc cv) (tk : Takes X W)
    (hex : ∀ c, c < nE → PySem.W.exmOne X.K (.ref (T.cl c)) cv = some (ex c))
    (hb : ∀ (W : WX) (pn : List (Addr × Obj)) (xe : Value → Shared → Prop), Takes (X.tr pn xe) W → PassesOwn (model X.prog X.w) X.A X.env xe → PDSs T (X.tr pn xe) W body s)
    (hsu : ∀ (x : XD) (a : Addr) (oe : Obj) (cls : Value) (d : Option Addr) (pn : List (Addr × Obj)), x.c < nE → Fits T x cls d → Zc cls d oe → (∃ vs, oe.data = .fields vs) → PDSs (T.at a) (X.suite a ((a, oe) :: pn)) WF (b₀ :: suite) (su x)) :
    PDS T X W (.Try body [.ExceptHandler (some (.Name xc np)) (some n) (b₀ :: suite) pos'] [] [] pos) (sTry nE ex i s su) := by
  refine ⟨_, ps_try_as (Wout := W) (tb := fun W' D σ H => ∀ pn xe (tk : Takes (X.tr pn xe) W') (hp : PassesOwn (model X.prog X.w) X.A X.env xe), (hb W' pn xe tk hp).ex.choose D σ H)
    (ts := fun a cls d D σ H => ∃ x : XD, ∃ (hx : x.c < nE) (hft : Fits T x cls d), ∀ (oe : Obj) (pn : List (Addr × Obj)) (hz : Zc cls d oe) (hv : ∃ vs, oe.data = .fields vs), (hsu x a oe cls d pn hx hft hz hv).ex.choose D σ H)
    hs hf hN hi hln hc tk (fun W' pn xe tk hp => ⟨fun pins s' σ H D I h => (hb W' pn xe tk hp).ex.choose_spec.1.run pins s' σ H D I (h pn xe tk hp)⟩)
    (fun a oe cls d pn hz hv => ⟨fun pins s' σ H D I ⟨x, hx, hft, h⟩ => (hsu x a oe cls d pn hx hft hz hv).ex.choose_spec.1.run pins s' σ H D I (h oe pn hz hv)⟩), ?_⟩
  intro C Hd H ws ss σ δ D hl hR hP pn xe tk' hp
  refine (hb _ pn xe tk' hp).ex.choose_spec.2 C Hd H ws ss σ δ D hl hR ?_
  have hss : noX ss = ss := by
    obtain ⟨f, h, _⟩ := hR.env
    obtain ⟨g, k, _, h1, _⟩ := EAt.split hl h
    exact EAt.noX_id hcur h1
  have bk : ∀ {a : Addr} {Hd3 H3 : Hp} {σ3 : L2.St} {δ3 : Env}, Rel X.K (T.at a) C Hd3 H3 (ws ++ σ3) (ss ++ δ3) → Rel X.K T C Hd3 H3 (ws ++ σ3) (ss ++ noX δ3) := fun R3 => by
    have h := R3.noX hcur
    rw [noX_append, hss] at h
    exact h
  unfold sTry at hP
  cases e1 : s δ with
  | nx δ' => rw [e1] at hP; exact hP
  | bk δ' => rw [e1] at hP; exact hP
  | ct δ' => rw [e1] at hP; exact hP
  | rt d δ' => rw [e1] at hP; exact hP
  | ro d δ' => rw [e1] at hP; exact hP
  | stuck => rw [e1] at hP; exact hP
  | ex x δ' =>
    rw [e1] at hP
    intro cls dx Hd' H' σ' R' xa
    simp only at hP
    by_cases hx : x.c < nE
    · rw [if_pos hx] at hP
      obtain ⟨rfl, hl2⟩ := xa
      refine ⟨ex x.c, hex _ hx, fun ht a ha => ?_, fun hfa => ?_⟩
      · rw [if_pos ht] at hP
        have hft : Fits T x (.ref (T.cl x.c)) dx := ⟨rfl, fun z => by rw [z] at hl2; exact hl2⟩
        refine ⟨x, hx, hft, fun oe pn2 hz hv => ?_⟩
        have R2 : Rel X.K (T.at a) C Hd' H' (ws ++ σ'.set i (some (.ref a))) (ss ++ δ'.set i .exc) := by
          have h := (R'.tabIn hcur a).sub fun f e => e.set0 (w := some (.ref a)) (s := .exc) (.exc rfl) (ws.length + i)
          rw [List.set_append_right _ _ (by omega), List.set_append_right _ _ (by omega)] at h
          simpa [hl] using h
        refine (hsu x a oe _ dx pn2 hx hft hz hv).ex.choose_spec.2 C Hd' H' ws ss _ (δ'.set i .exc) _ hl R2 ?_
        cases e2 : su x (δ'.set i .exc) with
        | nx δ2 => rw [e2] at hP; exact fun Hd3 H3 σ3 R3 => hP Hd3 H3 _ ((bk R3).fgt1 i _ hl)
        | bk δ2 => rw [e2] at hP; exact fun Hd3 H3 σ3 R3 => hP Hd3 H3 _ ((bk R3).fgt1 i _ hl)
        | ct δ2 => rw [e2] at hP; exact fun Hd3 H3 σ3 R3 => hP Hd3 H3 _ ((bk R3).fgt1 i _ hl)
        | rt d δ2 =>
          rw [e2] at hP
          intro v Hd3 H3 σ3 R3
          refine hP v Hd3 H3 σ3 ?_
          have h := R3.noX hcur
          have e3 : noX (.d d :: (ss ++ δ2)) = .d d :: (ss ++ noX δ2) := by
            show Sl.d d :: noX (ss ++ δ2) = _
            rw [noX_append, hss]
          rw [e3] at h
          exact h
        | ro t δ2 =>
          rw [e2] at hP
          intro v Hd3 H3 σ3 R3
          refine hP v Hd3 H3 σ3 ?_
          have h := R3.noX hcur
          have e3 : noX (.own none t :: (ss ++ δ2)) = .own none t :: (ss ++ noX δ2) := by
            show Sl.own none t :: noX (ss ++ δ2) = _
            rw [noX_append, hss]
          rw [e3] at h
          exact h
        | ex x2 δ2 => rw [e2] at hP; exact hP.elim
        | stuck => rw [e2] at hP; exact hP
      · rw [if_neg (by rw [hfa]; exact Bool.false_ne_true)] at hP
        exact hP _ _ _ _ _ R' ⟨rfl, hl2⟩
    · rw [if_neg hx] at hP; exact hP.elim
/-- isinstance(e, C), e the caught error -/
def rIsX (i : Nat) (b : Bool) : DE := fun δ => match δ[i]? with
  | some .exc => .ok (.bl b)
  | _ => .stuck
theorem Rel.excAt {K : PySem.W.Frag} {C : Ctx} {Hd H : Hp} {ws : L2.St} {ss : Env} {σ : L2.St} {δ : Env} {i : Nat} (hl : ws.length = ss.length) (R : Rel K T C Hd H (ws ++ σ) (ss ++ δ)) (e : δ[i]? = some .exc) : ∃ a, T.cur = some a ∧ σ[i]? = some (some (.ref a)) := by
  obtain ⟨f, h, nd, _⟩ := R.env
  have e' : (ss ++ δ)[ss.length + i]? = some .exc := by rw [List.getElem?_append_right (by omega)]; simpa using e
  obtain ⟨w, g, h1, h2, _⟩ := h.slot nd e'
  cases h2 with
  | exc hc =>
    rw [← hl, List.getElem?_append_right (by omega)] at h1
    exact ⟨_, hc, by simpa using h1⟩
theorem pd_isX {p : Pos} {e c : Expr} {i : Nat} {a : Addr} {oe : Obj} {pn : List (Addr × Obj)} {D0 : Addr} {b : Bool} {cv : V} {cu : Value} (C0 : ExcC X.K D0) (hz : Zc (.ref D0) none oe) (hv : ∃ vs, oe.data = .fields vs) (hcv : ∀ u, RelV cv u → u = cu) (hk : PySem.W.kitOne X.K (.ref D0) cu = some b)
    (hg : Gl (X.suite a ((a, oe) :: pn)) "isinstance") (hm : X.mg "isinstance" = none) (he : PE (X.suite a ((a, oe) :: pn)) e (tVar i)) (hc : PE (X.suite a ((a, oe) :: pn)) c (tC cv)) (h1 : starEach [e, c] X.env = (false, eval e X.env) :: starEach [c] X.env := by rfl) (h2 : starEach [c] X.env = (false, eval c X.env) :: starEach [] X.env := by rfl)
    (hpl : (backTo pos (starEach [c] X.env)).any (·.1) = false := by rfl) : PDE (T.at a) (X.suite a ((a, oe) :: pn)) W (.Call (.Name "isinstance" p) [e, c] [] pos) (rIsX i b) := by
  refine ⟨_, pe_callB (call_isE C0 hz hv) hg hm (by decide +kernel) (pa_cons he (pa_cons hc pa_nil h2) h1) (by decide) (by decide) h1 hpl, ?_⟩
  intro C Hd H ws ss σ δ Q hl hR hP
  unfold rIsX at hP
  cases e1 : δ[i]? with
  | none => rw [e1] at hP; exact hP.elim
  | some sl =>
    rw [e1] at hP
    cases sl with
    | exc =>
      obtain ⟨a', ha, hs⟩ := hR.excAt hl e1
      have ea : a = a' := Option.some.inj ha
      subst ea
      exact ⟨_, hs, cv, cu, b, rfl, hcv, hk, hP _ _ _ (hR.push (.bl b)) (.refl _)⟩
    | _ => exact hP.elim
end
end L2.DL

/-! ## DL11 -/
set_option linter.all false
set_option maxRecDepth 100000
set_option maxHeartbeats 4000000
/-! DL11: defs, calls of defs that change their first argument, the law's end. -/
namespace L2.DL
open PySem PySem.Spec PyProof.Rows L2
/-! ### a def that changes nothing -/
def startD (N : Nat) (ds : List D) : Env := ds.map Sl.d ++ List.replicate (N - ds.length) .un
def fnD (N : Nat) (r : DS) (ds : List D) : Out D := match r (startD N ds) with
  | .nx _ => .ok .non
  | .rt d _ => .ok d
  | .ro t _ => .ok t.toD
  | .ex x _ => .ex x
  | _ => .stuck
section
variable {K : PySem.W.Frag} {T : Tab} {pv : List V} {Hd H : Hp}
theorem EAt.un : ∀ n : Nat, EAt K T pv Hd H (List.replicate n none) (List.replicate n .un) []
  | 0 => .nil
  | n + 1 => by rw [List.replicate_succ, List.replicate_succ]; exact .cons .un (EAt.un n)
theorem EAt.im : ∀ {vs : List V} {ds : List D}, ImL K T Hd vs ds → EAt K T pv Hd H (vs.map some) (ds.map Sl.d) []
  | _, _, .nil => .nil
  | _, _, .cons m l => .cons (.d m) (EAt.im l)
theorem start_eat {N : List Str} {vs : List V} {ds : List D} (l : ImL K T Hd vs ds) : EAt K T pv Hd H (start N vs) (startD N.length ds) [] := by
  unfold start startD
  rw [← l.length]
  exact (EAt.im l).append (EAt.un _)
end
section
variable {P : Program} {w : World} {K : PySem.W.Frag} {T : Tab} {mg : Str → Option Value} {base : Heap} {x qual : Str} {params : Arguments} {body : List Stmt} {scope : Scope} {dvs : List V} {kws : List (Str × V)} {f : Addr} {fd : FuncData} {N ps : List Str} {k : Nat} {r : DS}
theorem fn_pure {n : Nat} (F : FunD K x qual params body scope dvs kws f fd) (S : FnScope N ps scope) (hn : ps.length = n)
    (hbody : ∀ (cdv : Value) (A : Around) (outer : List PySem.Env) (s : Shared) (H : Hp) (E : XK), Room k (A.deeper (envOfC qual scope s.heap.objs.size f cdv)) →
      PDSs T (cxOf (L2.CX P w) P w K mg base N qual scope f cdv A outer s H E) (fun cls d _ H => E cls d H) body r) :
    FnOk P w K mg base (L2.CX P w) (k + 1) f fd ps (spP K T n (fnD N.length r)) := by
  refine F.ok S (fun vs H Q E h => by rw [hn]; exact spP_len h) fun cdv A outer s H vs Q E hr h => ?_
  obtain ⟨t, p, q⟩ := hbody cdv A outer s H E hr
  refine ⟨t, p, ?_⟩
  obtain ⟨Hd, ds, b, l, hl, m⟩ := h
  refine q ⟨Hd, H, [], []⟩ Hd H [] [] (start N vs) (startD N.length ds) _ rfl ⟨b, .refl, [], start_eat l, .nil, by simp⟩ ?_
  unfold fnD at m
  cases e : r (startD N.length ds) with
  | nx δ' => rw [e] at m; exact fun Hd' H' σ' R => m .non Hd' H' R.bas R.keep .non
  | rt d δ' => rw [e] at m; exact fun v Hd' H' σ' R => m v Hd' H' R.bas R.keep R.headv
  | ro t δ' =>
    rw [e] at m
    intro v Hd' H' σ' R
    obtain ⟨Hd2, R2⟩ := R.frz (j := 0) rfl
    exact m v Hd2 H' R2.bas R2.keep R2.headv
  | ex x δ' => rw [e] at m; exact fun cls dx Hd' H' σ' R xa => m cls dx Hd' H' R.bas R.keep xa
  | bk δ' => rw [e] at m; exact m.elim
  | ct δ' => rw [e] at m; exact m.elim
  | stuck => rw [e] at m; exact m.elim
end
/-! ### a def that changes what its caller alone holds -/
inductive IOut where
  | ok (r : Sl) (ps : Env) | ex (x : XD) (ps : Env) | stuck
def spI (K : PySem.W.Frag) (T : Tab) (n : Nat) (G : Env → IOut) : Sp := fun vs H Q E => ∃ Hd ss f, Bas Hd H ∧ EAt K T [] Hd H (vs.map some) ss f ∧ f.Nodup ∧ (∀ a ∈ f, Hd a = none) ∧ ss.length = n ∧ (match G ss with
  | .ok r ps => ∀ v Hd' H' f', Bas Hd' H' → Keep f Hd H Hd' H' → EAt K T [] Hd' H' (some v :: vs.map some) (r :: ps) f' → f'.Nodup → (∀ a ∈ f', Hd' a = none ∧ (a ∈ f ∨ H a = none)) → Q v H'
  | .ex x ps => ∀ cls dx Hd' H' f', Bas Hd' H' → Keep f Hd H Hd' H' → EAt K T [] Hd' H' (vs.map some) ps f' → f'.Nodup → (∀ a ∈ f', Hd' a = none ∧ (a ∈ f ∨ H a = none)) → XAt T H' cls dx x → E cls dx H'
  | .stuck => False)
theorem spI_len {K : PySem.W.Frag} {T : Tab} {n : Nat} {G : Env → IOut} {vs : List V} {H : Hp} {Q : VK} {E : XK} (h : spI K T n G vs H Q E) : vs.length = n := by
  obtain ⟨Hd, ss, f, _, l, _, _, e, _⟩ := h
  have := l.length
  rw [List.length_map] at this
  rw [this, e]
def tagE : Nat → Env → Env
  | _, [] => []
  | j, .own _ t :: ss => .own (some j) t :: tagE (j + 1) ss
  | j, s :: ss => s :: tagE (j + 1) ss
/-- what the arguments are at the end; others are forgotten -/
def unE : Nat → Nat → Env → Env
  | _, 0, _ => []
  | j, n + 1, .own (some k) t :: ss => (if k = j then .own none t else .un) :: unE (j + 1) n ss
  | j, n + 1, _ :: ss => .un :: unE (j + 1) n ss
  | j, n + 1, [] => .un :: unE (j + 1) n []
def fnI (N n : Nat) (r : DS) (ss : Env) : IOut := match r (tagE 0 ss ++ List.replicate (N - n) .un) with
  | .nx δ => if n ≤ δ.length then .ok (.d .non) (unE 0 n δ) else .stuck
  | .rt d δ => if n ≤ δ.length then .ok (.d d) (unE 0 n δ) else .stuck
  | .ro t δ => if n ≤ δ.length then .ok (.own none t) (unE 0 n δ) else .stuck
  | .ex x δ => if n ≤ δ.length then .ex x (unE 0 n δ) else .stuck
  | _ => .stuck
section
variable {K : PySem.W.Frag} {T : Tab} {Hd H : Hp}
theorem EAt.tag {pv : List V} : ∀ {vs : List V} {ss : Env} {f : List Addr} (j : Nat), pv.drop j = vs → EAt K T [] Hd H (vs.map some) ss f → EAt K T pv Hd H (vs.map some) (tagE j ss) f
  | [], _, _, j, _, h => by cases h; exact .nil
  | v :: vs, _, _, j, e, h => by
    have hj : pv[j]? = some v := by
      have : (pv.drop j)[0]? = some v := by rw [e]; rfl
      simpa using this
    have e' : pv.drop (j + 1) = vs := by
      have := congrArg (List.drop 1) e
      simpa using this
    rw [List.map_cons] at h ⊢
    cases h with
    | cons m h =>
      have ih := EAt.tag (j + 1) e' h
      cases m with
      | un => exact .cons .un ih
      | exc z => exact .cons (.exc z) ih
      | d m => exact .cons (.d m) ih
      | own m _ => exact .cons (.own m fun k hk => by cases hk; exact hj) ih
theorem EAt.untag {pv : List V} : ∀ (vs : List V) {σ : L2.St} {δ : Env} {f : List Addr} (j : Nat), pv.drop j = vs → vs.length ≤ δ.length → EAt K T pv Hd H σ δ f → ∃ g, g.Sublist f ∧ EAt K T [] Hd H (vs.map some) (unE j vs.length δ) g
  | [], _, _, f, j, _, _, _ => ⟨[], List.nil_sublist _, .nil⟩
  | v :: vs, σ, δ, f, j, e, hl, h => by
   cases h with
   | nil => simp at hl
   | @cons w s ws ss f0 g0 m h =>
    have hj : pv[j]? = some v := by
      have : (pv.drop j)[0]? = some v := by rw [e]; rfl
      simpa using this
    have e' : pv.drop (j + 1) = vs := by
      have := congrArg (List.drop 1) e
      simpa using this
    obtain ⟨g, sg, ih⟩ := EAt.untag vs (j + 1) e' (by simpa using hl) h
    have un : ∃ g, g.Sublist (g0 ++ f0) ∧ EAt K T [] Hd H ((v :: vs).map some) (.un :: unE (j + 1) vs.length ss) g := ⟨g, sg.trans (List.sublist_append_right _ _), .cons .un ih⟩
    cases m with
    | un => exact un
    | exc z => exact un
    | d m => exact un
    | own m k =>
      rename_i v' o t
      cases o with
      | none => exact un
      | some i =>
        by_cases hi : i = j
        · subst hi
          have hv := k i rfl
          rw [hj] at hv
          cases hv
          refine ⟨g0 ++ g, (List.Sublist.refl _).append sg, ?_⟩
          show EAt K T [] Hd H (some v :: vs.map some) ((if i = i then Sl.own none t else .un) :: _) _
          rw [if_pos rfl]
          exact .cons (.own m (by simp)) ih
        · obtain ⟨g', s', h'⟩ := un
          refine ⟨g', s', ?_⟩
          show EAt K T [] Hd H _ ((if i = j then Sl.own none t else .un) :: _) _
          rw [if_neg hi]
          exact h'
end
section
variable {P : Program} {w : World} {K : PySem.W.Frag} {T : Tab} {mg : Str → Option Value} {base : Heap} {x qual : Str} {params : Arguments} {body : List Stmt} {scope : Scope} {dvs : List V} {kws : List (Str × V)} {f : Addr} {fd : FuncData} {N ps : List Str} {k : Nat} {r : DS}
theorem fn_io {n : Nat} (F : FunD K x qual params body scope dvs kws f fd) (S : FnScope N ps scope) (hn : ps.length = n)
    (hbody : ∀ (cdv : Value) (A : Around) (outer : List PySem.Env) (s : Shared) (H : Hp) (E : XK), Room k (A.deeper (envOfC qual scope s.heap.objs.size f cdv)) →
      PDSs T (cxOf (L2.CX P w) P w K mg base N qual scope f cdv A outer s H E) (fun cls d _ H => E cls d H) body r) :
    FnOk P w K mg base (L2.CX P w) (k + 1) f fd ps (spI K T n (fnI N.length n r)) := by
  refine F.ok S (fun vs H Q E h => by rw [hn]; exact spI_len h) fun cdv A outer s H vs Q E hr h => ?_
  obtain ⟨t, p, q⟩ := hbody cdv A outer s H E hr
  refine ⟨t, p, ?_⟩
  have hvl := spI_len h
  obtain ⟨Hd, ss, f, b, l, nd, hd, hl, m⟩ := h
  have e0 : start N vs = vs.map some ++ List.replicate (N.length - n) none := by unfold start; rw [hvl]
  refine q ⟨Hd, H, f, vs⟩ Hd H [] [] (start N vs) (tagE 0 ss ++ List.replicate (N.length - n) .un) _ rfl ⟨b, .refl, f, ?_, nd, fun a ha => ⟨hd a ha, .inr ha⟩⟩ ?_
  · rw [e0]
    have h1 := (EAt.tag (pv := vs) 0 rfl l).append (EAt.un (K := K) (T := T) (pv := vs) (Hd := Hd) (H := H) (N.length - n))
    rw [List.append_nil] at h1
    exact h1
  · have fin : ∀ {Hd' H' : Hp} {σ' : L2.St} {δ' : Env}, n ≤ δ'.length → Rel K T ⟨Hd, H, f, vs⟩ Hd' H' σ' δ' → ∃ g, EAt K T [] Hd' H' (vs.map some) (unE 0 n δ') g ∧ g.Nodup ∧ ∀ a ∈ g, Hd' a = none ∧ (a ∈ f ∨ H a = none) := fun hn2 R => by
      obtain ⟨f1, h1, nd1, hf1⟩ := R.env
      obtain ⟨g, sg, h2⟩ := EAt.untag vs 0 rfl (by rw [hvl]; exact hn2) h1
      rw [hvl] at h2
      exact ⟨g, h2, nd1.sublist sg, fun a ha => ⟨(hf1 a (sg.subset ha)).1, (hf1 a (sg.subset ha)).2.symm⟩⟩
    have fin2 : ∀ {Hd' H' : Hp} {v : V} {sr : Sl} {σ' : L2.St} {δ' : Env}, (∀ j t, sr ≠ .own (some j) t) → n ≤ δ'.length → Rel K T ⟨Hd, H, f, vs⟩ Hd' H' (some v :: σ') (sr :: δ') → ∃ g, EAt K T [] Hd' H' (some v :: vs.map some) (sr :: unE 0 n δ') g ∧ g.Nodup ∧ ∀ a ∈ g, Hd' a = none ∧ (a ∈ f ∨ H a = none) := fun hs hn2 R => by
      obtain ⟨f1, h1, nd1, hf1⟩ := R.env
      cases h1 with
      | cons m1 h1 =>
        rename_i f2 g2
        obtain ⟨g, sg, h2⟩ := EAt.untag vs 0 rfl (by rw [hvl]; exact hn2) h1
        rw [hvl] at h2
        have sub : (g2 ++ g).Sublist (g2 ++ f2) := (List.Sublist.refl _).append sg
        refine ⟨g2 ++ g, .cons ?_ h2, nd1.sublist sub, fun a ha => ⟨(hf1 a (sub.subset ha)).1, (hf1 a (sub.subset ha)).2.symm⟩⟩
        cases m1 with
        | un => exact .un
        | exc z => exact .exc z
        | d z => exact .d z
        | own z k =>
          rename_i o t
          cases o with
          | none => exact .own z (by simp)
          | some j => exact absurd rfl (hs j t)
    unfold fnI at m
    cases e : r (tagE 0 ss ++ List.replicate (N.length - n) .un) with
    | nx δ' =>
      rw [e] at m
      by_cases hn2 : n ≤ δ'.length
      · simp only [if_pos hn2] at m
        intro Hd' H' σ' R
        obtain ⟨g, h1, h2, h3⟩ := fin2 (sr := .d .non) (by intro _ _ z; cases z) hn2 (R.push .non)
        exact m .non Hd' H' g R.bas R.keep h1 h2 h3
      · simp only [if_neg hn2] at m
    | rt d δ' =>
      rw [e] at m
      by_cases hn2 : n ≤ δ'.length
      · simp only [if_pos hn2] at m
        intro v Hd' H' σ' R
        obtain ⟨g, h1, h2, h3⟩ := fin2 (by intro _ _ z; cases z) hn2 R
        exact m v Hd' H' g R.bas R.keep h1 h2 h3
      · simp only [if_neg hn2] at m
    | ro t δ' =>
      rw [e] at m
      by_cases hn2 : n ≤ δ'.length
      · simp only [if_pos hn2] at m
        intro v Hd' H' σ' R
        obtain ⟨g, h1, h2, h3⟩ := fin2 (by intro _ _ z; cases z) hn2 R
        exact m v Hd' H' g R.bas R.keep h1 h2 h3
      · simp only [if_neg hn2] at m
    | ex x δ' =>
      rw [e] at m
      by_cases hn2 : n ≤ δ'.length
      · simp only [if_pos hn2] at m
        intro cls dx Hd' H' σ' R xa
        obtain ⟨g, h1, h2, h3⟩ := fin hn2 R
        exact m cls dx Hd' H' g R.bas R.keep h1 h2 h3 xa
      · simp only [if_neg hn2] at m
    | bk δ' => rw [e] at m; exact m.elim
    | ct δ' => rw [e] at m; exact m.elim
    | stuck => rw [e] at m; exact m.elim
end
/-! ### such calls -/
inductive COut where
  | ok (r : Sl) (δ : Env) | ex (x : XD) (δ : Env) | stuck
abbrev DC := Env → COut
def CPost (K : PySem.W.Frag) (T : Tab) (C : Ctx) (σ : L2.St) (W : WX) (ws : L2.St) (ss : Env) (o : COut) (Q : VK) : Prop := match o with
  | .ok r δ' => ∀ v Hd' H', Rel K T C Hd' H' (some v :: (ws ++ σ)) (r :: (ss ++ δ')) → Q v H'
  | .ex x δ' => ∀ cls dx Hd' H', Rel K T C Hd' H' (ws ++ σ) (ss ++ δ') → XAt T H' cls dx x → W cls dx σ H'
  | .stuck => False
def SndC (T : Tab) (X : Cx) (W : WX) (te : TE) (r : DC) : Prop := ∀ (C : Ctx) (Hd H : Hp) (ws : L2.St) (ss : Env) (σ : L2.St) (δ : Env) (Q : VK), ws.length = ss.length → Rel X.K T C Hd H (ws ++ σ) (ss ++ δ) →
  CPost X.K T C σ W ws ss (r δ) Q → te σ H Q
structure PDC (T : Tab) (X : Cx) (W : WX) (e : Expr) (r : DC) : Prop where
  ex : ∃ te, PE X e te ∧ SndC T X W te r
def getP (j : Nat) (pt : Path) (δ : Env) : Option OT := match δ[j]? with
  | some (.own _ t) => t.atC pt
  | _ => none
def putP (j : Nat) (pt : Path) (u : OT) (δ : Env) : Env := match δ[j]? with
  | some (.own oo t) => δ.set j (.own oo (t.put (ix pt) u))
  | _ => δ
def rCI (n : Nat) (G : Env → IOut) (dds : List D) (j : Nat) (pt : Path) (rl : DA) : DC := fun δ => match getP j pt δ with
  | some u => (match rl δ with
    | .ok xs => if 1 + (xs ++ dds).length = n then (match G (.own none u :: (xs ++ dds).map Sl.d) with
      | .ok r (.own none u' :: _) => .ok r (putP j pt u' δ)
      | .ex x (.own none u' :: _) => .ex x (putP j pt u' δ)
      | _ => .stuck) else .stuck
    | .ex x => .ex x δ
    | .stuck => .stuck)
  | none => .stuck
def kS (o : COut) (k : Sl → Env → SO) : SO := match o with
  | .ok r δ => k r δ
  | .ex x δ => .ex x δ
  | .stuck => .stuck
def sDropC (r : DC) : DS := fun δ => kS (r δ) fun _ δ' => .nx δ'
def sSetC (i : Nat) (r : DC) : DS := fun δ => kS (r δ) fun s δ' => .nx (δ'.set i s)
def sRetC (r : DC) : DS := fun δ => kS (r δ) fun s δ' => match s with
  | .d d => .rt d δ'
  | .own none t => .ro t δ'
  | _ => .stuck
section
variable {T : Tab} {X : Cx} {W : WX} {a b c e o i f : Expr} {es : List Expr} {st : Stmt} {rest body suite : List Stmt} {ra rb rc re ri rf : DE} {rl : DA} {ro : DO} {qa qb : DT} {s u : DS} {r : DC} {ta tb' tc te : TE} {pos : Pos} {x : Str}
theorem sndS_c {k : Sl → Env → SO} {g : V → TS} (sa : SndC T X W te r) (h : ∀ (C : Ctx) (Hd H : Hp) (ws : L2.St) (ss : Env) (σ : L2.St) (δ : Env) (D : Ends) (v : V) (t : Sl), ws.length = ss.length → Rel X.K T C Hd H (some v :: (ws ++ σ)) (t :: (ss ++ δ)) → SPost X.K T C W ws ss (k t δ) D → g v D σ H) :
    SndS T X W (fun D σ H => te σ H fun v H1 => g v D σ H1) (fun δ => kS (r δ) k) := by
  intro C Hd H ws ss σ δ D hl hR hP
  refine sa C Hd H ws ss σ δ _ hl hR ?_
  cases e : r δ with
  | stuck => simp only [e, kS] at hP; exact hP
  | ex x δ' => simp only [e, kS] at hP; exact fun cls dx Hd' H' R' xa => hP cls dx Hd' H' σ R' xa
  | ok d δ' => simp only [e, kS] at hP; exact fun v Hd' H' R' => h C Hd' H' ws ss σ δ' D v d hl R' hP
theorem pds_dropC (ha : PDC T X W e r) (hs : swapsWith e none pos.line X.env = pure false := by rfl) : PDS T X W (.Expr e pos) (sDropC r) := by
  obtain ⟨te, p, q⟩ := ha
  exact ⟨_, ps_expr p hs, sndS_c (g := fun v D σ H => D.nx σ H) (k := fun _ δ => .nx δ) q fun C Hd H ws ss σ δ D v t hl R hP => hP Hd H _ R.drop⟩
theorem pds_setC' {i : Nat} {x : Str} {pos' : Pos} (hN : X.N.Nodup) (hi : X.N[i]? = some x) (hx : Loc X.env.scope x) (ha : PDC T X W e r) (hs : swapsWith e (some (.Name x pos')) pos.line X.env = pure false) (hf : X.fn x = true ∨ X.env.scope.names.lookup x = some .local := by first | exact .inl rfl | exact .inr rfl | assumption) :
    PDS T X W (.Assign [.Name x pos'] e pos) (sSetC i r) := by
  obtain ⟨te, p, q⟩ := ha
  exact ⟨_, ps_set hN hi hx p hs hf, sndS_c (g := fun v D σ H => D.nx (σ.set i (some v)) H) (k := fun t δ => .nx (δ.set i t)) q fun C Hd H ws ss σ δ D v t hl R hP => hP Hd H _ (R.storeS i hl)⟩
theorem pds_retC (ha : PDC T X W e r) : PDS T X W (.Return (some e) pos) (sRetC r) := by
  obtain ⟨te, p, q⟩ := ha
  refine ⟨_, ps_ret p, sndS_c (g := fun v D σ H => D.rt v H) (k := fun s δ' => match s with | .d d => .rt d δ' | .own none t => .ro t δ' | _ => .stuck) q fun C Hd H ws ss σ δ D v t hl R hP => ?_⟩
  cases t with
  | d x => exact hP v Hd H σ R
  | own oo t =>
    cases oo with
    | none => exact hP v Hd H σ R
    | some j => exact hP.elim
  | _ => exact hP.elim
theorem snd_callI {n : Nat} {G : Env → IOut} {dds : List D} {dvs : List V} {j : Nat} {pt : Path} {t0 : TE} {t1 : TA} (hd : ∀ H, ImL X.K T H dvs dds)
    (q0 : ∀ (C : Ctx) (Hd H : Hp) (ws : L2.St) (ss : Env) (σ : L2.St) (δ : Env) (oo : Option Nat) (t u : OT) (Q : VK), ws.length = ss.length → Rel X.K T C Hd H (ws ++ σ) (ss ++ δ) → δ[j]? = some (.own oo t) → t.atC pt = some u → (∀ v w, σ[j]? = some (some v) → rdP H v (ix pt) = some w → Q w H) → t0 σ H Q)
    (q1 : ∀ (C : Ctx) (Hd H : Hp) (ws : L2.St) (ss : Env) (σ : L2.St) (δ : Env) (Q : List V → Hp → Prop), ws.length = ss.length → Rel X.K T C Hd H (ws ++ σ) (ss ++ δ) → APost X.K T C σ W (ws ++ σ) (ss ++ δ) H (rl δ) Q → t1 σ H Q) :
    SndC T X W (fun σ H Q => t0 σ H fun w H1 => t1 σ H1 fun vs H2 => spI X.K T n G (w :: vs ++ dvs) H2 Q (WE W σ)) (rCI n G dds j pt rl) := by
  intro C Hd H ws ss σ δ Q hl hR hP
  unfold rCI at hP
  cases e0 : getP j pt δ with
  | none => rw [e0] at hP; exact hP.elim
  | some u =>
    simp only [e0] at hP
    have eg : ∃ oo t, δ[j]? = some (.own oo t) ∧ t.atC pt = some u := by
      unfold getP at e0
      split at e0
      · exact ⟨_, _, by assumption, e0⟩
      · cases e0
    obtain ⟨oo, t, d1, d2⟩ := eg
    refine q0 C Hd H ws ss σ δ oo t u _ hl hR d1 d2 fun v w hv hw => ?_
    refine q1 C Hd H ws ss σ δ _ hl hR ?_
    cases e1 : rl δ with
    | stuck => simp only [e1] at hP; exact hP
    | ex x => simp only [e1] at hP; exact fun cls dx Hd' H' R' s' xa => hP cls dx Hd' H' R' xa
    | ok xs =>
      simp only [e1] at hP
      intro vs Hd1 H1 R1 l1 s1
      by_cases hn : 1 + (xs ++ dds).length = n
      · rw [if_pos hn] at hP
        have d1' : (ss ++ δ)[ss.length + j]? = some (.own oo t) := by rw [List.getElem?_append_right (by omega)]; simpa using d1
        obtain ⟨v', w', g, a1, a2, a3, a4, a5, a6, a7, a8⟩ := R1.path2 d1' (atC_at d2)
        have ev : v' = v := by
          rw [← hl, List.getElem?_append_right (by omega)] at a1
          have : σ[j]? = some (some v') := by simpa using a1
          rw [hv] at this
          exact (Option.some.inj (Option.some.inj this)).symm
        subst ev
        have ew : w' = w := by
          rw [rdP_same s1 _ _ _ hw] at a2
          exact (Option.some.inj a2).symm
        subst ew
        have back : ∀ {Hd' H' : Hp} {u' : OT} {g' gr : List Addr} {vr : Option V} {sr : Sl}, Bas Hd' H' → Keep g Hd1 H1 Hd' H' → SlA X.K T C.pv Hd' H' vr sr gr → OAt X.K T Hd' H' w' u' g' → (gr ++ g').Nodup → (∀ a ∈ gr ++ g', Hd' a = none ∧ (a ∈ g ∨ H1 a = none)) → Rel X.K T C Hd' H' (vr :: (ws ++ σ)) (sr :: (ss ++ putP j pt u' δ)) := fun b k hr h' nd hh => by
          have h := a8 _ _ _ _ _ _ _ b k hr h' nd (fun a ha => (hh a ha).1) fun a ha => (hh a ha).2
          rw [List.set_append_right _ _ (by omega)] at h
          unfold putP
          rw [d1]
          simpa using h
        have up : ∀ {Hd' H' : Hp} {vr : Option V} {sr : Sl} {gr : List Addr}, SlA X.K T [] Hd' H' vr sr gr → SlA X.K T C.pv Hd' H' vr sr gr := fun h => by
          cases h with
          | un => exact .un
          | exc z => exact .exc z
          | d z => exact .d z
          | own z k => exact .own z fun i hi => by have := k i hi; simp at this
        refine ⟨Hd1, .own none u :: (xs ++ dds).map Sl.d, g, R1.bas, ?_, a4, a5, by simp at hn ⊢; omega, ?_⟩
        · have h1 := EAt.im (pv := []) (H := H1) (l1.append (hd Hd1))
          have h2 := EAt.cons (.own a3 (by simp)) h1 (w := some w') (s := .own none u)
          rw [List.append_nil] at h2
          exact h2
        · cases e2 : G (.own none u :: (xs ++ dds).map Sl.d) with
          | stuck => rw [e2] at hP; exact hP
          | ok r ps =>
            rw [e2] at hP
            cases ps with
            | nil => exact hP.elim
            | cons s0 ps =>
              cases s0 with
              | own o2 u' =>
                cases o2 with
                | none =>
                  intro v2 Hd' H' f' b k h nd hf
                  cases h with
                  | cons hr h =>
                    rename_i f1 gr
                    cases h with
                    | cons ho h =>
                      rename_i f2 gu
                      cases ho with
                      | own ho _ =>
                        have sub : (gr ++ gu).Sublist (gr ++ (gu ++ f2)) := (List.Sublist.refl _).append (List.sublist_append_left _ _)
                        exact hP v2 Hd' H' (back b k (up hr) ho (nd.sublist sub) fun a ha => hf a (sub.subset ha))
                | some k => exact hP.elim
              | _ => exact hP.elim
          | ex x ps =>
            rw [e2] at hP
            cases ps with
            | nil => exact hP.elim
            | cons s0 ps =>
              cases s0 with
              | own o2 u' =>
                cases o2 with
                | none =>
                  intro cls dx Hd' H' f' b k h nd hf xa
                  cases h with
                  | cons ho h =>
                    rename_i f2 gu
                    cases ho with
                    | own ho _ =>
                      have sub : gu.Sublist (gu ++ f2) := List.sublist_append_left _ _
                      exact hP cls dx Hd' H' (Rel.drop (back b k .un ho (gr := []) (vr := none) (nd.sublist sub) fun a ha => hf a (sub.subset ha))) xa
                | some k => exact hP.elim
              | _ => exact hP.elim
      · rw [if_neg hn] at hP; exact hP.elim
theorem pdc_call {k n : Nat} {f : Addr} {fd : FuncData} {ps : List Str} {G : Env → IOut} {dds : List D} {dvs : List V} {dws : List Value} {p : Pos} {j : Nat} {pt : Path} (tk : Takes X W) (F : FnOk X.prog X.w X.K X.mg X.base (L2.CX X.prog X.w) k f fd ps (spI X.K T n G)) (hr : Room k X.A) (hg : Gl X x) (hm : X.mg x = some (.ref f))
    (hk : PySem.W.keepIn X.K (.ref f) = true) (hb : Binds X.K fd ps dws) (hdv : Vals dvs dws) (hd : ∀ H, ImL X.K T H dvs dds) (ho : PDP T X e j pt) (ha : PDA T X W es rl) (hdb : (x == ("__debug__" : Str)) = false := by decide)
    (he : starEach (e :: es) X.env = (false, eval e X.env) :: starEach es X.env := by rfl) (hpl : (backTo pos (starEach es X.env)).any (·.1) = false := by rfl) : PDC T X W (.Call (.Name x p) (e :: es) [] pos) (rCI n G dds j pt rl) := by
  obtain ⟨t0, p0, q0⟩ := ho
  obtain ⟨t1, p1, q1⟩ := ha
  refine ⟨_, pe_callSD F hr hg hm hk hb hdv (fun σ => passAt tk σ) (pa_cons p0 p1 he) hdb he hpl, ?_⟩
  exact snd_callI hd q0 q1
end
/-! ### the law's end -/
def noLst (K : PySem.W.Frag) : Bool := K.all fun p => decide (p.2.cls ≠ .type "list")
theorem sqL_only {K : PySem.W.Frag} {H : Hp} {a : Addr} {vs : List V} (h : noLst K = true) (s : SqL K H a vs) : Rd H a (.lst vs) := by
  rcases s with s | ⟨o, its, n, h1, h2, _⟩
  · exact s
  · have hm := He.lookup_mem h1
    have := List.all_eq_true.mp h _ hm
    simp [h2] at this
theorem law_sp {K : PySem.W.Frag} {T : Tab} {n : Nat} {G : List D → Out D} (hK : noLst K = true) (hG : ∀ ns : List Int, ns.length ≤ n → G [.lst (ns.map D.int)] = .ok (.bl true)) (H : Hp) (a : Addr) (ns : List Int) (hn : ns.length ≤ n) (hO : Only H) (s : SqL K H a (ns.map V.int)) :
    spP K T 1 G [.ref a] H (fun v _ => v = .bl true) fun _ _ _ => False := by
  refine ⟨H, [.lst (ns.map D.int)], ⟨.refl _, fun _ _ h _ => h⟩, .cons (.lst (sqL_only hK s) (ImL.of_ints ns)) .nil, rfl, ?_⟩
  rw [hG ns hn]
  intro v Hd' H' _ _ m
  cases m
  rfl
theorem fn_tab {P : Program} {w : World} {K : PySem.W.Frag} {T : Tab} {mg : Str → Option Value} {base : Heap} {CX : CXT} {k : Nat} {f : Addr} {fd : FuncData} {ps : List Str} {n : Nat} {G : List D → Out D} (F : FnOk P w K mg base CX k f fd ps (spP K T n G)) (a : Addr) : FnOk P w K mg base CX k f fd ps (spP K (T.at a) n G) :=
  F.imp fun vs H Q E ⟨Hd, ds, b, l, hl, m⟩ => ⟨Hd, ds, b, ImL.tab (T := T.at a) (T' := T) rfl rfl _ _ l, hl, by
    cases e : G ds with
    | ok d => rw [e] at m; exact fun v Hd' H' b' k' im => m v Hd' H' b' k' (Im.tab (T := T) (T' := T.at a) rfl rfl _ _ im)
    | ex x => rw [e] at m; exact m
    | stuck => rw [e] at m; exact m⟩
end L2.DL

/-! ## DL12 -/
set_option linter.all false
set_option maxRecDepth 100000
set_option maxHeartbeats 4000000
/-! DL12: what is said of a program; one rule for several kinds. -/
namespace L2.DL
open PySem PySem.Spec PyProof.Rows L2
structure Facts where
  fn : List He.DefD
  fa : List He.Fa
  ts : List (Str × TB)
  cs : List (Str × D)
  xs : List Str
  cl : List Str
  lay : List (List Str)
  kt : List (Str × Value × Bool)
  ko : List (Str × Str × Bool)
def Facts.T (F : Facts) (K : PySem.W.Frag) : Tab := { cl := fun c => He.ga K ((F.xs ++ F.cl).getD c ""), lay := fun c => F.lay.getD c [] }
def excCB (K : PySem.W.Frag) (D : Addr) : Bool := decide (PySem.W.findIn K (.ref D) "__getattribute__" = some (some (.builtin "BaseException.__getattribute__"))) && (decide (PySem.W.findIn K (.ref D) "__getattr__" = some none) && (decide (PySem.W.subIn K (.ref D) (.type "BaseException") = some true) && (PySem.W.hasDictIn K D && (decide (PySem.W.findIn K (.ref D) "__class__" = some (some (.builtin "object.__class__"))) &&
  (decide (PySem.W.specialIn K (.builtin "object.__class__") "__get__" = some (some (.builtin "getset_descriptor.__get__"))) && (decide (PySem.W.takesIn K (.builtin "object.__class__") = some true) && decide (PySem.W.mroIn K D (.type "object") = some true)))))))
theorem excC_of {K : PySem.W.Frag} {D : Addr} (h : excCB K D = true) : ExcC K D := by
  unfold excCB at h
  simp only [Bool.and_eq_true, decide_eq_true_eq] at h
  obtain ⟨h1, h2, h3, h4, h5, h6, h7, h8⟩ := h
  exact ⟨h1, h2, h3, h4, h5, h6, h7, h8⟩
def Facts.chk (F : Facts) (K : PySem.W.Frag) : Bool := (F.fa.all fun f => f.ok K) && ((F.fn.all fun d => d.ok K) && ((F.ts.all fun q => tabD K q.1 q.2) && ((F.cs.all fun q => conD K q.1 q.2) && ((F.xs.all fun x => excCB K (He.ga K x)) &&
  ((F.kt.all fun q => decide (PySem.W.kitOne K (.ref (He.ga K q.1)) q.2.1 = some q.2.2)) && ((F.ko.all fun q => decide (PySem.W.kitOne K (.ref (He.ga K q.1)) (.ref (He.ga K q.2.1)) = some q.2.2)) && noLst K))))))
structure Says (F : Facts) (K : PySem.W.Frag) (mg : Str → Option Value) (w : World) (h : Heap) : Prop where
  X : K.In h
  G : h.Ns mainGlobals mg
  chk : F.chk K = true
  fns : F.fn.map (fun d => He.fnW K d.at_) = F.fn.map He.DefD.val
  tbs : F.ts.map (fun q => He.dicW K (He.ga K q.1)) = F.ts.map fun q => some (He.keysIn w.params (q.2.map fun p => mkS p.1))
section
variable {F : Facts} {K : PySem.W.Frag} {mg : Str → Option Value} {w : World} {h : Heap} (S : Says F K mg w h)
include S
theorem Says.parts : (F.fa.all fun f => f.ok K) = true ∧ (F.fn.all fun d => d.ok K) = true ∧ (F.ts.all fun q => tabD K q.1 q.2) = true ∧ (F.cs.all fun q => conD K q.1 q.2) = true ∧ (F.xs.all fun x => excCB K (He.ga K x)) = true ∧
    (F.kt.all fun q => decide (PySem.W.kitOne K (.ref (He.ga K q.1)) q.2.1 = some q.2.2)) = true ∧ (F.ko.all fun q => decide (PySem.W.kitOne K (.ref (He.ga K q.1)) (.ref (He.ga K q.2.1)) = some q.2.2)) = true ∧ noLst K = true := by
  have c := S.chk
  unfold Facts.chk at c
  simp only [Bool.and_eq_true] at c
  exact c
theorem Says.fact (i : Nat) {f : He.Fa} (e : F.fa[i]? = some f := by rfl) : f.ok K = true := List.all_eq_true.mp S.parts.1 f (List.mem_of_getElem? e)
theorem Says.glo (i : Nat) {x : Str} (e : F.fa[i]? = some (.glo x) := by rfl) : mg x = some (.ref (He.ga K x)) := He.glo_ok S.X S.G (S.fact i e)
theorem Says.free (i : Nat) {x : Str} (e : F.fa[i]? = some (.free x) := by rfl) : mg x = none := He.free_ok S.X S.G (S.fact i e)
theorem Says.keep (i : Nat) {x : Str} (e : F.fa[i]? = some (.keep x) := by rfl) : PySem.W.keepIn K (.ref (He.ga K x)) = true := He.keep_ok (S.fact i e)
theorem Says.exm (i : Nat) {x y : Str} {b : Bool} (e : F.fa[i]? = some (.exm x y b) := by rfl) : PySem.W.exmOne K (.ref (He.ga K x)) (.ref (He.ga K y)) = some b := He.exm_ok (S.fact i e)
theorem Says.def_ (i : Nat) {d : He.DefD} (e : F.fn[i]? = some d := by rfl) : ∃ fd, FunD K d.name d.qual d.params d.body d.scope (d.dvs K) (d.kws K) (He.fAd K d.at_) fd := by
  refine He.DefD.funD ?_ (List.all_eq_true.mp S.parts.2.1 d (List.mem_of_getElem? e))
  have e2 := congrArg (fun l => l[i]?) S.fns
  simp only [List.getElem?_map, e, Option.map_some, Option.some.injEq] at e2
  exact e2
theorem Says.con (i : Nat) {x : Str} {d : D} {T : Tab} (e : F.cs[i]? = some (x, d) := by rfl) : ∃ u v, mg x = some u ∧ RelV v u ∧ ∀ H, Im K T H v d :=
  conD_ok S.X S.G (List.all_eq_true.mp S.parts.2.2.2.1 (x, d) (List.mem_of_getElem? e))
theorem Says.tab (i : Nat) {x : Str} {tb : TB} {T : Tab} (e : F.ts[i]? = some (x, tb) := by rfl) : KTab K T w mg x tb := by
  refine ktab_of S.X S.G (List.all_eq_true.mp S.parts.2.2.1 (x, tb) (List.mem_of_getElem? e)) ⟨tb.map fun p => mkS p.1, ?_⟩
  have e2 := congrArg (fun l => l[i]?) S.tbs
  simp only [List.getElem?_map, e, Option.map_some, Option.some.injEq] at e2
  exact e2
theorem Says.exc (i : Nat) {x : Str} (e : F.xs[i]? = some x := by rfl) : ExcC K (He.ga K x) := excC_of (List.all_eq_true.mp S.parts.2.2.2.2.1 x (List.mem_of_getElem? e))
theorem Says.kit (i : Nat) {x : Str} {v : Value} {b : Bool} (e : F.kt[i]? = some (x, v, b) := by rfl) : PySem.W.kitOne K (.ref (He.ga K x)) v = some b := of_decide_eq_true (List.all_eq_true.mp S.parts.2.2.2.2.2.1 (x, v, b) (List.mem_of_getElem? e))
theorem Says.kio (i : Nat) {x y : Str} {b : Bool} (e : F.ko[i]? = some (x, y, b) := by rfl) : PySem.W.kitOne K (.ref (He.ga K x)) (.ref (He.ga K y)) = some b := of_decide_eq_true (List.all_eq_true.mp S.parts.2.2.2.2.2.2.1 (x, y, b) (List.mem_of_getElem? e))
theorem Says.nol : noLst K = true := S.parts.2.2.2.2.2.2.2
theorem Says.raise {X : Cx} {x : Str} {j : Nat} {m : Str} {p p2 pos : Pos} (hK : X.K = K) (hmg : X.mg = mg) (i i2 : Nat) (hg : Gl X x) (e : F.fa[i]? = some (.exc x) := by rfl) (e2 : F.fa[i2]? = some (.glo x) := by rfl) (hdb : (x == ("__debug__" : Str)) = false := by decide) :
    PMk X (.Call (.Name x p) [.Constant (.str m) j p2] [] pos) (fun _ H Q => Q (.ref (He.ga K x)) none H) := by
  obtain ⟨a1, a2, a3, a4⟩ := He.exc_ok (S.fact i e)
  subst hK hmg
  exact pmk_own PySem.F.excBase_ValueError a1 (S.glo i2 e2) a2 (raises_own a3 a4) hg hdb
end
/-! ### small things -/
theorem takes_WF {X : Cx} : Takes X WF := fun u s' ⟨_, _, _, _, _, _, _, _, _, _, _, _, _, _, _, _, w⟩ => w.elim
def sGuard (b : Bool) (s : DS) : DS := fun δ => if b = true then s δ else .stuck
section
variable {T : Tab} {X : Cx} {W : WX} {a b c e o i f : Expr} {es : List Expr} {st : Stmt} {rest body suite sts : List Stmt} {ra rb rc re ri rf : DE} {rl : DA} {ro : DO} {qa qb : DT} {s u : DS} {ta tb tc te : TE} {pos : Pos}
theorem pdss_guard {g : Bool} (h : g = true → PDSs T X W sts s) : PDSs T X W sts (sGuard g s) := by
  cases g with
  | true =>
    obtain ⟨t, p, q⟩ := h rfl
    exact ⟨t, p, fun C Hd H ws ss σ δ D hl hR hP => q C Hd H ws ss σ δ D hl hR hP⟩
  | false => exact ⟨_, pss_never, fun C Hd H ws ss σ δ D hl hR hP => (show False from hP).elim⟩
/-- list(x) of lists, tuples, dicts -/
def dListA : List D → Option D := fun xs => match dList xs with
  | some y => some y
  | none => dListD xs
theorem cg_listA (hc : X.calm = true) : CallR X (.type "list") (fun xs H Q => (∃ p ys, xs = [.ref p] ∧ (SqL X.K H p ys ∨ SqT X.K H p ys) ∧ ∀ l, H l = none → Q (.ref l) (upd H l (.lst ys))) ∨ ∃ (a : Addr) (kvs : List (Key × V)), xs = [.ref a] ∧ Rd H a (.dK kvs) ∧ ∀ p, H p = none → Q (.ref p) (upd H p (.lst (kvs.map fun kv => kV kv.1)))) ∧
    CallG T X (fun xs H Q => (∃ p ys, xs = [.ref p] ∧ (SqL X.K H p ys ∨ SqT X.K H p ys) ∧ ∀ l, H l = none → Q (.ref l) (upd H l (.lst ys))) ∨ ∃ (a : Addr) (kvs : List (Key × V)), xs = [.ref a] ∧ Rd H a (.dK kvs) ∧ ∀ p, H p = none → Q (.ref p) (upd H p (.lst (kvs.map fun kv => kV kv.1)))) dListA := by
  refine ⟨(cg_list (T := T)).1.or (cg_listD (T := T) hc).1, ?_⟩
  intro C Hd H ρw ρs vs ds z Q R l hz k
  unfold dListA at hz
  cases e : dList ds with
  | some y =>
    rw [e] at hz
    cases hz
    exact .inl (cg_list.2 C Hd H ρw ρs vs ds _ Q R l e k)
  | none =>
    rw [e] at hz
    exact .inr ((cg_listD hc).2 C Hd H ρw ρs vs ds z Q R l hz k)
/-- x[i] of lists, tuples, texts, dicts -/
def dIxA (x y : D) : Option D := match dIx x y with
  | some z => some z
  | none => dGet x y
def rIxDd : R2 := fun x y H2 Q => ∃ a v, x = .ref a ∧ DGet H2 a y (some v) ∧ Q v H2
theorem ix_dd (hu : X.A.units + 1 < cLine) : IxR X rIxDd := by
  intro value slice pins s σ H x y v u Q I rx ry h hs
  obtain ⟨a, r, rfl, g, q⟩ := h
  obtain rfl : v = Value.ref a := rx
  exact tail_any (dict_typeIs I g) PySem.F.slot_dict_getitem.lookup (d_getItem hu I g ry fun w' s3 I3 rw' => ⟨r, H, I3, rw', q⟩) hs
theorem ig_ixA (hu : X.A.units + 1 < cLine) : IxR X (fun x y H Q => rIx X.K x y H Q ∨ rIxDd x y H Q) ∧ OpG T X (fun x y H Q => rIx X.K x y H Q ∨ rIxDd x y H Q) dIxA := by
  refine ⟨ix_seq.or (ix_dd hu), ?_⟩
  intro Cx Hd H ρw ρs vx vy x y z Q R hz k
  unfold dIxA at hz
  cases e : dIx x y with
  | some y' =>
    rw [e] at hz
    cases hz
    exact .inl (ig_ix.2 Cx Hd H ρw ρs vx vy x y _ Q R e k)
  | none =>
    rw [e] at hz
    refine .inr ?_
    cases x with
    | dic es =>
      have my := R.headv
      have mx := R.second
      cases mx with
      | dic h1 h2 h3 =>
        obtain ⟨kk, e1, e2⟩ := Option.bind_eq_some_iff.mp hz
        obtain rfl := key_im my e1
        rcases dlook_im (k := kk) h2 h3 with ⟨l1, _⟩ | ⟨d, v, l1, l2, m⟩
        · rw [l1] at e2; cases e2
        · rw [l1] at e2
          cases e2
          exact ⟨_, v, rfl, .inl ⟨_, kk.k, same_rd R.bas.sub h1, rfl, l2.symm⟩, k v Hd H (R.drop.drop.push m) (.refl _)⟩
    | _ => cases hz
/-- in, not in: lists, tuples, dicts -/
def dInAB (x y : D) : Option Bool := match dInB x y with
  | some b => some b
  | none => dHas x y
def rHasD (neg : Bool) : R2 := fun y x H2 Q => ∃ a o, x = .ref a ∧ DGet H2 a y o ∧ Q (.bl (if neg then !o.isSome else o.isSome)) H2
theorem op_inD (hu : X.A.units + 1 < cLine) : OpR X (compareOp .In) (rHasD false) := by
  intro pins s σ H y x iv u Q I ry rx h
  obtain ⟨a, o, rfl, g, q⟩ := h
  obtain rfl : u = Value.ref a := rx
  exact d_in hu I g ry fun s3 I3 => ⟨.bl o.isSome, H, I3, rfl, q⟩
theorem op_notInD (hu : X.A.units + 1 < cLine) : OpR X (compareOp .NotIn) (rHasD true) := by
  intro pins s σ H y x iv u Q I ry rx h
  obtain ⟨a, o, rfl, g, q⟩ := h
  obtain rfl : u = Value.ref a := rx
  exact d_notIn hu I g ry fun s3 I3 => ⟨.bl (!o.isSome), H, I3, rfl, q⟩
theorem inA_sound {neg : Bool} : OpG T X (fun x y H Q => rIn X.K neg x y H Q ∨ rHasD neg x y H Q) (fun x y => (dInAB x y).map fun b => D.bl (if neg then !b else b)) := by
  intro Cx Hd H ρw ρs vx vy x y z Q R hz k
  have hz : (dInAB x y).map (fun b => D.bl (if neg = true then !b else b)) = some z := hz
  unfold dInAB at hz
  cases e : dInB x y with
  | some b =>
    rw [e] at hz
    exact .inl (in_sound (neg := neg) Cx Hd H ρw ρs vx vy x y z Q R (by show (dInB x y).map _ = _; rw [e]; exact hz) k)
  | none =>
    rw [e] at hz
    exact .inr (has_sound (neg := neg) Cx Hd H ρw ρs vx vy x y z Q R hz k)
def dInA (x y : D) : Option D := (dInAB x y).map fun b => D.bl (if false then !b else b)
def dNotInA (x y : D) : Option D := (dInAB x y).map fun b => D.bl (if true then !b else b)
theorem og_inA (hu : X.A.units + 1 < cLine) : OpR X (compareOp .In) (fun x y H Q => rIn X.K false x y H Q ∨ rHasD false x y H Q) ∧ OpG T X (fun x y H Q => rIn X.K false x y H Q ∨ rHasD false x y H Q) dInA := ⟨op_in_seq.or (op_inD hu), inA_sound⟩
theorem og_notInA (hu : X.A.units + 1 < cLine) : OpR X (compareOp .NotIn) (fun x y H Q => rIn X.K true x y H Q ∨ rHasD true x y H Q) ∧ OpG T X (fun x y H Q => rIn X.K true x y H Q ∨ rHasD true x y H Q) dNotInA := ⟨op_notIn_seq.or (op_notInD hu), inA_sound⟩
/-- {k: v, ..} -/
def rDisp : List (DE × DE) → Env → Out (List (D × D))
  | [], _ => .ok []
  | (rk, rv) :: r, δ => (rk δ).bind fun k => (rv δ).bind fun v => (rDisp r δ).bind fun ps => .ok ((k, v) :: ps)
def keysD : List (D × D) → Option (List (DKey × D))
  | [] => some []
  | (k, v) :: ps => (dkey k).bind fun kk => (keysD ps).map fun r => (kk, v) :: r
def mergeD (es : List (DKey × D)) (ps : List (DKey × D)) : List (DKey × D) := ps.foldl (fun acc e => dput acc e.1 e.2) es
def oDisp (l : List (DE × DE)) : DO := fun δ => (rDisp l δ).bind fun ps => match keysD ps with
  | some es => if es.length ≤ 15 then .ok (.dd (mergeD [] es)) else .stuck
  | none => .stuck
structure PDPs (T : Tab) (X : Cx) (W : WX) (pos : Pos) (keys : List (Option Expr)) (vals : List Expr) (l : List (DE × DE)) : Prop where
  ex : ∃ trs : List (TE × TE), PPs X pos keys vals trs ∧ Paired (fun (p : TE × TE) (q : DE × DE) => Snd T X W p.1 q.1 ∧ Snd T X W p.2 q.2) trs l
theorem pdps_nil : PDPs T X W pos [] [] [] := ⟨[], pps_nil, .nil⟩
theorem pdps_cons {k v : Expr} {ks : List (Option Expr)} {vs : List Expr} {rk rv : DE} {l : List (DE × DE)} (hk : PDE T X W k rk) (hv : PDE T X W v rv) (hr : PDPs T X W pos ks vs l) : PDPs T X W pos (some k :: ks) (v :: vs) ((rk, rv) :: l) := by
  obtain ⟨tk, pk, qk⟩ := hk
  obtain ⟨tv, pv, qv⟩ := hv
  obtain ⟨trs, p, q⟩ := hr
  exact ⟨_, pps_cons pk pv p, .cons ⟨qk, qv⟩ q⟩
def DPost (K : PySem.W.Frag) (T : Tab) (C : Ctx) (σ : L2.St) (W : WX) (ρw : L2.St) (ρs : Env) (H : Hp) (o : Out (List (D × D))) (Q : List (V × V) → Hp → Prop) : Prop := match o with
  | .ok ps => ∀ pv Hd' H', Rel K T C Hd' H' ρw ρs → ImL K T Hd' (pv.map (·.1)) (ps.map (·.1)) → ImL K T Hd' (pv.map (·.2)) (ps.map (·.2)) → Same H H' → Q pv H'
  | .ex x => ∀ cls dx Hd' H', Rel K T C Hd' H' ρw ρs → Same H H' → XAt T H' cls dx x → W cls dx σ H'
  | .stuck => False
theorem disp_sound : ∀ {trs : List (TE × TE)} {l : List (DE × DE)}, Paired (fun (p : TE × TE) (q : DE × DE) => Snd T X W p.1 q.1 ∧ Snd T X W p.2 q.2) trs l → ∀ (C : Ctx) (Hd H : Hp) (ws : L2.St) (ss : Env) (σ : L2.St) (δ : Env) (Q : List (V × V) → Hp → Prop), ws.length = ss.length → Rel X.K T C Hd H (ws ++ σ) (ss ++ δ) →
    DPost X.K T C σ W (ws ++ σ) (ss ++ δ) H (rDisp l δ) Q → tPairs trs σ H Q
  | _, _, .nil, C, Hd, H, ws, ss, σ, δ, Q, hl, hR, hP => hP [] Hd H hR .nil .nil (.refl _)
  | (tk, tv) :: trs, (rk, rv) :: l, .cons h t, C, Hd, H, ws, ss, σ, δ, Q, hl, hR, hP => by
    unfold rDisp at hP
    unfold tPairs
    have ha : Snd T X W tk rk := h.1
    have hb : Snd T X W tv rv := h.2
    refine ha C Hd H ws ss σ δ _ hl hR ?_
    cases e1 : rk δ with
    | stuck => simp only [e1, Out.bind] at hP; exact hP
    | ex x => simp only [e1, Out.bind] at hP; exact hP
    | ok k =>
      simp only [e1, Out.bind] at hP
      intro vk Hd1 H1 R1 s1
      refine hb C Hd1 H1 (some vk :: ws) (.d k :: ss) σ δ _ (by simp [hl]) R1 ?_
      cases e2 : rv δ with
      | stuck => simp only [e2] at hP; exact hP
      | ex x => simp only [e2] at hP; exact fun c d Hd' H' R' s' xa => hP c d Hd' H' R'.drop (s1.trans s') xa
      | ok v =>
        simp only [e2] at hP
        intro vv Hd2 H2 R2 s2
        refine disp_sound t C Hd2 H2 (some vv :: some vk :: ws) (.d v :: .d k :: ss) σ δ _ (by simp [hl]) R2 ?_
        cases e3 : rDisp l δ with
        | stuck => simp only [e3] at hP; exact hP
        | ex x => simp only [e3] at hP; exact fun c d Hd' H' R' s' xa => hP c d Hd' H' R'.drop.drop ((s1.trans s2).trans s') xa
        | ok ps =>
          simp only [e3] at hP
          intro pv Hd3 H3 R3 l1 l2 s3
          exact hP ((vk, vv) :: pv) Hd3 H3 R3.drop.drop (.cons R3.second l1) (.cons R3.headv l2) ((s1.trans s2).trans s3)
theorem keysD_im {K : PySem.W.Frag} {H : Hp} : ∀ {ps : List (D × D)} {es : List (DKey × D)} {pv : List (V × V)}, keysD ps = some es → ImL K T H (pv.map (·.1)) (ps.map (·.1)) → ImL K T H (pv.map (·.2)) (ps.map (·.2)) →
    ∃ kvs : List (Key × V), pv = kvs.map (fun kv => (kV kv.1, kv.2)) ∧ kvs.map (·.1) = es.map (fun e => e.1.k) ∧ ImL K T H (kvs.map (·.2)) (es.map (·.2))
  | [], es, pv, h, l1, l2 => by
    simp [keysD] at h
    subst h
    cases pv with
    | nil => exact ⟨[], rfl, rfl, .nil⟩
    | cons _ _ => cases l1
  | (k, v) :: ps, es, pv, h, l1, l2 => by
    simp only [keysD] at h
    obtain ⟨kk, h1, h2⟩ := Option.bind_eq_some_iff.mp h
    obtain ⟨r, h3, rfl⟩ := Option.map_eq_some_iff.mp h2
    cases pv with
    | nil => cases l1
    | cons p pv =>
      obtain ⟨vk, vv⟩ := p
      cases l1 with
      | cons m1 l1 =>
        cases l2 with
        | cons m2 l2 =>
          obtain ⟨kvs, q1, q2, q3⟩ := keysD_im h3 l1 l2
          have ek := key_im m1 h1
          have ek2 : vk = kV kk.k := ek
          subst ek2
          exact ⟨(kk.k, vv) :: kvs, by rw [q1]; rfl, by rw [List.map_cons, List.map_cons, q2], .cons m2 q3⟩
theorem merge_im {K : PySem.W.Frag} {H : Hp} : ∀ {more : List (Key × V)} {ms : List (DKey × D)} {kvs : List (Key × V)} {es : List (DKey × D)}, more.map (·.1) = ms.map (fun e => e.1.k) → ImL K T H (more.map (·.2)) (ms.map (·.2)) → kvs.map (·.1) = es.map (fun e => e.1.k) → ImL K T H (kvs.map (·.2)) (es.map (·.2)) →
    (mergeK kvs more).map (·.1) = (mergeD es ms).map (fun e => e.1.k) ∧ ImL K T H ((mergeK kvs more).map (·.2)) ((mergeD es ms).map (·.2))
  | [], [], _, _, _, _, h, l => ⟨h, l⟩
  | [], _ :: _, _, _, h, _, _, _ => by simp at h
  | _ :: _, [], _, _, h, _, _, _ => by simp at h
  | p :: more, m :: ms, kvs, es, h1, l1, h2, l2 => by
    simp only [List.map_cons, List.cons.injEq] at h1
    rw [List.map_cons, List.map_cons] at l1
    cases l1 with
    | cons mm l1 =>
      obtain ⟨z1, z2⟩ := dput_im (k := m.1) h2 l2 mm
      have := merge_im (more := more) (ms := ms) h1.2 l1 z1 z2
      unfold mergeK mergeD at this ⊢
      rw [List.foldl_cons, List.foldl_cons, h1.1]
      exact this
theorem pdo_disp {keys : List (Option Expr)} {vals : List Expr} {l : List (DE × DE)} (h : PDPs T X W pos keys vals l) (hall : keys.all (·.isSome) = true := by rfl) (hl0 : keys.length = vals.length := by rfl) (h0 : keys ≠ [] := by exact List.cons_ne_nil _ _) (h15 : keys.length ≤ 15 := by decide) : PDO T X W (.Dict keys vals pos) (oDisp l) := by
  obtain ⟨trs, p, q⟩ := h
  refine ⟨_, pe_disp p hall hl0 h0 h15, ?_⟩
  intro C Hd H ws ss σ δ Q hl hR hP a ha
  unfold oDisp at hP
  have R0 := hR.newW (o := .dK []) (t := .dd []) ha rfl (.dd upd_same rfl .nil)
  refine disp_sound q C Hd _ (some (.ref a) :: ws) (.own none (.dd []) :: ss) σ δ _ (by simp [hl]) R0 ?_
  cases e1 : rDisp l δ with
  | stuck => simp only [e1, Out.bind] at hP; exact hP
  | ex x => simp only [e1, Out.bind] at hP; exact fun c d Hd' H' R' s' xa => hP c d Hd' H' R'.drop ((same_new ha).trans s') xa
  | ok ps =>
    simp only [e1, Out.bind] at hP
    intro pv Hd1 H1 R1 l1 l2 s1
    cases e2 : keysD ps with
    | none => rw [e2] at hP; exact (show False from hP).elim
    | some es =>
      simp only [e2] at hP
      by_cases hz : es.length ≤ 15
      · rw [if_pos hz] at hP
        obtain ⟨kvs, q1, q2, q3⟩ := keysD_im e2 l1 l2
        obtain ⟨v, p, kv0, a1, a2, a3, a4, a5, a6⟩ := R1.atDd (j := 0) (pt := []) rfl rfl
        simp at a1
        subst a1
        simp only [rdP, Option.some.injEq, V.ref.injEq] at a2
        subst a2
        have e0 : kv0 = [] := by simpa using a4
        subst e0
        obtain ⟨z1, z2⟩ := merge_im q2 q3 (kvs := []) (es := []) rfl .nil
        have hlen : kvs.length = es.length := by simpa using congrArg List.length q2
        refine ⟨a3, kvs, q1, by omega, hP _ _ _ (a6 _ _ z1 z2) ?_⟩
        exact same_updN ha ((same_new ha).trans s1)
      · rw [if_neg hz] at hP; exact (show False from hP).elim
end
section
variable {P : Program} {w : World} {K : PySem.W.Frag} {T : Tab} {mg : Str → Option Value} {base : Heap} {x qual : Str} {params : Arguments} {body : List Stmt} {scope : Scope} {dvs : List V} {kws : List (Str × V)} {f : Addr} {fd : FuncData} {N ps : List Str} {k : Nat} {r : DS}
/-- what a def's body may use -/
structure Body (k : Nat) (X : Cx) (W : WX) : Prop where
  room : Room k X.A
  tk : Takes X W
  hp : PassesOwn (model X.prog X.w) X.A X.env X.xe
  hu : X.A.units + 64 < cLine
  hu1 : X.A.units + 1 < cLine
theorem body_of {CX0 : CXT} {cdv : Value} {A : Around} {outer : List PySem.Env} {s : Shared} {H : Hp} {E : XK} (hr : Room k (A.deeper (envOfC qual scope s.heap.objs.size f cdv))) : Body k (cxOf (L2.CX P w) P w K mg base N qual scope f cdv A outer s H E) (fun cls d _ H => E cls d H) := by
  refine ⟨hr, takes_of (X := cxOf (L2.CX P w) P w K mg base N qual scope f cdv A outer s H E) (E := E) rfl rfl rfl rfl, passes_of (X := cxOf (L2.CX P w) P w K mg base N qual scope f cdv A outer s H E) rfl, ?_, ?_⟩
  · have := hr.un
    show (A.deeper (envOfC qual scope s.heap.objs.size f cdv)).units + 64 < cLine
    omega
  · have := hr.un
    show (A.deeper (envOfC qual scope s.heap.objs.size f cdv)).units + 1 < cLine
    omega
theorem fn_pureB {n : Nat} (F : FunD K x qual params body scope dvs kws f fd) (S : FnScope N ps scope) (hn : ps.length = n)
    (hbody : ∀ (cdv : Value) (A : Around) (outer : List PySem.Env) (s : Shared) (H : Hp) (E : XK), Body k (cxOf (L2.CX P w) P w K mg base N qual scope f cdv A outer s H E) (fun cls d _ H => E cls d H) →
      PDSs T (cxOf (L2.CX P w) P w K mg base N qual scope f cdv A outer s H E) (fun cls d _ H => E cls d H) body r) :
    FnOk P w K mg base (L2.CX P w) (k + 1) f fd ps (spP K T n (fnD N.length r)) := fn_pure F S hn fun cdv A outer s H E hr => hbody cdv A outer s H E (body_of (CX0 := L2.CX P w) hr)
theorem fn_ioB {n : Nat} (F : FunD K x qual params body scope dvs kws f fd) (S : FnScope N ps scope) (hn : ps.length = n)
    (hbody : ∀ (cdv : Value) (A : Around) (outer : List PySem.Env) (s : Shared) (H : Hp) (E : XK), Body k (cxOf (L2.CX P w) P w K mg base N qual scope f cdv A outer s H E) (fun cls d _ H => E cls d H) →
      PDSs T (cxOf (L2.CX P w) P w K mg base N qual scope f cdv A outer s H E) (fun cls d _ H => E cls d H) body r) :
    FnOk P w K mg base (L2.CX P w) (k + 1) f fd ps (spI K T n (fnI N.length n r)) := fn_io F S hn fun cdv A outer s H E hr => hbody cdv A outer s H E (body_of (CX0 := L2.CX P w) hr)
end
/-- the law's end, over the written part that k_head leaves -/
theorem law_end {l : PySem.W.OpenLaw} {k : Nat} {q : Program} {loose : List Str} {XP : (Str → Option Value) → Heap → Prop} {YP : World → Heap → Prop} {d : DefRec} {K : Params → PySem.W.Frag} {F : Facts} {x : Str} {G : List D → Out D} (i : Nat)
    (hn : l.most = some 63) (hd : d.name = "law") (hi : F.fa[i]? = some (.glo "law")) (hdf : d.params.defaults = []) (hr : Room k callerA) (hY : ∀ (w : World) (h : Heap), YP w h → (K w.params).In h)
    (hF : ∀ (w : World) (K : PySem.W.Frag) (mg : Str → Option Value) (h : Heap), Says F K mg w h → ∃ fd : FuncData, (∀ (s : Shared) (u : Value), BindsTo s fd ⟨[u], []⟩ [(x, u)]) ∧ ∀ base : Heap, FnOk l.prog w K mg base (L2.CX l.prog w) k (He.ga K "law") fd [x] (spP K (F.T K) 1 G))
    (hG : ∀ ns : List Int, ns.length ≤ 63 → G [.lst (ns.map D.int)] = .ok (.bl true))
    (h1 : ∀ w : World, F.chk (K w.params) = true) (h2 : ∀ w : World, F.fn.map (fun d => He.fnW (K w.params) d.at_) = F.fn.map He.DefD.val)
    (h3 : ∀ w : World, F.ts.map (fun q => He.dicW (K w.params) (He.ga (K w.params) q.1)) = F.ts.map fun q => some (He.keysIn w.params (q.2.map fun p => mkS p.1))) :
    PySem.W.WalkO q loose XP YP l.row.toRowW d [] (fun f vs => PySem.call f vs) := by
  refine L2.walk_of (n := 63) (k := k) (x := x) (K := K) (CX := fun w => L2.CX l.prog w) (sp := fun w => spP (K w.params) (F.T (K w.params)) 1 G) hn (by rw [sizeLine_eq]; decide) hdf hr hY ?_ ?_ ?_
  · intro w mg fa h KX G' hmg
    have S : Says F (K w.params) mg w h := ⟨KX, G', h1 w, h2 w, h3 w⟩
    obtain ⟨fd, hb, hf⟩ := hF w (K w.params) mg h S
    have e : fa = He.ga (K w.params) "law" := by
      have := S.glo i hi
      rw [hd, this] at hmg
      cases hmg
      rfl
    subst e
    exact ⟨fd, hb, fun base _ _ => hf base⟩
  · intro w H a ns hn hO hs
    have hnl : noLst (K w.params) = true := by
      have c := h1 w
      unfold Facts.chk at c
      simp only [Bool.and_eq_true] at c
      exact c.2.2.2.2.2.2.2
    exact law_sp hnl hG H a ns hn hO hs
  · rintro w H s e s' ⟨a, B, H', cls, d, _, _, _, _, _, _, _, hf⟩
    exact hf
end L2.DL

/-! ## DS1 -/
set_option linter.all false
/-! DS1: readings made plain. -/
namespace L2.DL
open PySem PySem.Spec PyProof.Rows L2
/-- a for loop whose body gives one step of a function -/
theorem forL_fold {α : Type} {loc : List Nat} {g : DG} {body : DS} (e : α → Env) (f : α → D → α) (hb : ∀ a x, x ∈ xs → ∃ δ1 δ2, g x (e a) = some δ1 ∧ body δ1 = .nx δ2 ∧ fgt loc δ2 = e (f a x)) (a : α) : forL loc g body xs (e a) = .nx (e (xs.foldl f a)) := by
  induction xs generalizing a with
  | nil => rfl
  | cons x xs ih =>
    obtain ⟨δ1, δ2, h1, h2, h3⟩ := hb a x (by simp)
    unfold forL
    simp only [h1, h2, h3]
    exact ih (fun a x hx => hb a x (by simp [hx])) (f a x)
theorem forL_foldP {α : Type} {loc : List Nat} {g : DG} {body : DS} (Pv : α → Prop) (e : α → Env) (f : α → D → α) (hb : ∀ a x, x ∈ xs → Pv a → Pv (f a x) ∧ ∃ δ1 δ2, g x (e a) = some δ1 ∧ body δ1 = .nx δ2 ∧ fgt loc δ2 = e (f a x)) (a : α) (ha : Pv a) : forL loc g body xs (e a) = .nx (e (xs.foldl f a)) ∧ Pv (xs.foldl f a) := by
  induction xs generalizing a with
  | nil => exact ⟨rfl, ha⟩
  | cons x xs ih =>
    obtain ⟨hp, δ1, δ2, h1, h2, h3⟩ := hb a x (by simp) ha
    unfold forL
    simp only [h1, h2, h3]
    exact ih (fun a x hx => hb a x (by simp [hx])) (f a x) hp
/-! ### step by step -/
section
variable {r a b s : DS} {δ δ' δ'' : Env} {ds : List D} {d : D} {N : Nat} {q : DT} {re : DE} {x : XD}
theorem fnD_rt (h : r (startD N ds) = .rt d δ) : fnD N r ds = .ok d := by unfold fnD; rw [h]
theorem fnD_nx (h : r (startD N ds) = .nx δ) : fnD N r ds = .ok .non := by unfold fnD; rw [h]
theorem fnD_ex (h : r (startD N ds) = .ex x δ) : fnD N r ds = .ex x := by unfold fnD; rw [h]
theorem seq_nx (h : a δ = .nx δ') (h2 : b δ' = o) : sSeq a b δ = o := by unfold sSeq; rw [h]; exact h2
theorem seq_rt (h : a δ = .rt d δ') : sSeq a b δ = .rt d δ' := by unfold sSeq; rw [h]
theorem seq_ex (h : a δ = .ex x δ') : sSeq a b δ = .ex x δ' := by unfold sSeq; rw [h]
theorem set_ok {i : Nat} (h : re δ = .ok d) : sSet i re δ = .nx (δ.set i (.d d)) := by unfold sSet; rw [h]; rfl
theorem ret_ok (h : re δ = .ok d) : sRet re δ = .rt d δ := by unfold sRet; rw [h]; rfl
theorem if_t (h : q δ = .ok true) (h2 : a δ = o) : sIf q a b δ = o := by unfold sIf; rw [h]; exact h2
theorem if_f (h : q δ = .ok false) (h2 : b δ = o) : sIf q a b δ = o := by unfold sIf; rw [h]; exact h2
theorem if_b {c : Bool} (h : q δ = .ok c) (h1 : c = true → a δ = o) (h2 : c = false → b δ = o) : sIf q a b δ = o := by
  cases c with
  | true => exact if_t h (h1 rfl)
  | false => exact if_f h (h2 rfl)
theorem for_ok {loc : List Nat} {ri : DIt} {g : DG} {xs : List D} (h : ri δ = .ok xs) (h2 : forL loc g s xs (fgt loc δ) = o) : sFor loc ri g s δ = o := by unfold sFor; rw [h]; exact h2
theorem forK_ok {loc : List Nat} {i : Nat} {g : DG} {es : List (DKey × D)} (h : δ[i]? = some (.d (.dic es))) (h2 : forL loc g s (es.map fun e => dkD e.1) (fgt loc δ) = .nx δ') : forK loc i g s δ = .nx δ' := by unfold forK; rw [h]; simp only [h2]
theorem iR1_ok {j : Int} (h : re δ = .ok (.int j)) (h2 : -(2 ^ 62) ≤ j ∧ j < 2 ^ 62) : iR1 re δ = .ok (rangeD 0 j) := by unfold iR1; rw [h]; exact if_pos h2
theorem call_ok {n : Nat} {G : List D → Out D} {rl : DA} {xs : List D} (h : rl δ = .ok xs) (hn : xs.length = n) (h2 : G xs = o) : rCall n G [] rl δ = o := by
  unfold rCall
  rw [h]
  show (if (xs ++ []).length = n then G (xs ++ []) else .stuck) = o
  rw [List.append_nil, if_pos hn, h2]
end
section
variable {δ : Env} {ra rb rc re : DE} {x y z u v : D} {g : D → D → Option D} {qa qb : DT}
theorem op_ok (ha : ra δ = .ok x) (hb : rb δ = .ok y) (h : g x y = some z) : rOp g ra rb δ = .ok z := by
  unfold rOp
  rw [ha]
  show ((rb δ).bind fun y => ofO (g x y)) = _
  rw [hb]
  show ofO (g x y) = _
  rw [h]
  rfl
theorem opT_ok {b : Bool} (ha : ra δ = .ok x) (hb : rb δ = .ok y) (h : g x y = some (.bl b)) : rT (rOp g ra rb) δ = .ok b := by
  unfold rT
  rw [op_ok ha hb h]
  rfl
theorem T_ok {b : Bool} (h : re δ = .ok (.bl b)) : rT re δ = .ok b := by
  unfold rT
  rw [h]
  rfl
theorem un_ok {g : D → Option D} (ha : ra δ = .ok x) (h : g x = some z) : rUn g ra δ = .ok z := by
  unfold rUn
  rw [ha]
  show ofO (g x) = _
  rw [h]
  rfl
theorem nil_ok : rNil δ = .ok [] := rfl
theorem cons_ok {rl : DA} {xs : List D} (ha : ra δ = .ok x) (hb : rl δ = .ok xs) : rCons ra rl δ = .ok (x :: xs) := by
  unfold rCons
  rw [ha]
  show ((rl δ).bind fun xs => Out.ok (x :: xs)) = _
  rw [hb]
  rfl
theorem tup_ok {rl : DA} {xs : List D} (h : rl δ = .ok xs) (hn : xs.length ≤ 16777216) : rTup rl δ = .ok (.tup xs) := by
  unfold rTup
  rw [h]
  exact if_pos hn
theorem lst_ok {rl : DA} {xs : List D} (h : rl δ = .ok xs) (hn : xs.length ≤ 16777216) : rLst rl δ = .ok (.lst xs) := by
  unfold rLst
  rw [h]
  exact if_pos hn
theorem B_ok {g : List D → Option D} {rl : DA} {xs : List D} (h : rl δ = .ok xs) (h2 : g xs = some z) : rB g rl δ = .ok z := by
  unfold rB
  rw [h]
  show ofO (g xs) = _
  rw [h2]
  rfl
theorem thaw_ok (h : re (thaw δ) = .ok x) (hf : lfree x = true) : rThaw re δ = .ok x := by
  unfold rThaw
  rw [h]
  exact if_pos hf
theorem orT_t (h : qa δ = .ok true) : rOrT qa qb δ = .ok true := by unfold rOrT; rw [h]; rfl
theorem orT_f {o : Out Bool} (h : qa δ = .ok false) (h2 : qb δ = o) : rOrT qa qb δ = o := by unfold rOrT; rw [h, ← h2]; rfl
theorem andT_f (h : qa δ = .ok false) : rAndT qa qb δ = .ok false := by unfold rAndT; rw [h]; rfl
theorem andT_t {o : Out Bool} (h : qa δ = .ok true) (h2 : qb δ = o) : rAndT qa qb δ = o := by unfold rAndT; rw [h, ← h2]; rfl
theorem notT {b : Bool} (h : qa δ = .ok b) : rNotT qa δ = .ok (!b) := by unfold rNotT; rw [h]; rfl
theorem and_t {o : Out D} (h : ra δ = .ok (.bl true)) (h2 : rb δ = o) : rAnd ra rb δ = o := by unfold rAnd; rw [h, ← h2]; rfl
theorem and_f (h : ra δ = .ok (.bl false)) : rAnd ra rb δ = .ok (.bl false) := by unfold rAnd; rw [h]; rfl
theorem not_ok {b : Bool} (h : ra δ = .ok (.bl b)) : rNot ra δ = .ok (.bl (!b)) := by unfold rNot; rw [h]; rfl
theorem get2_ok {es : List (DKey × D)} (ha : ra δ = .ok (.dic es)) (hb : rb δ = .ok y) (hc : rc δ = .ok z) (h : dGet2 (.dic es) y z = some v) : rGet2 ra rb rc δ = .ok v := by
  unfold rGet2
  rw [ha]
  show (if isDic (.dic es) = true then (rb δ).bind fun y => (rc δ).bind fun z => ofO (dGet2 (.dic es) y z) else .stuck) = _
  rw [if_pos (show isDic (.dic es) = true from rfl), hb]
  show ((rc δ).bind fun z => ofO (dGet2 (.dic es) y z)) = _
  rw [hc]
  show ofO (dGet2 (.dic es) y z) = _
  rw [h]
  rfl
end
/-! ### evaluation by simp -/
def thenS (o : SO) (b : DS) : SO := match o with
  | .nx δ' => b δ'
  | o => o
def ifS (o : Out Bool) (δ : Env) (a b : DS) : SO := match o with
  | .ok true => a δ
  | .ok false => b δ
  | .ex x => .ex x δ
  | .stuck => .stuck
def finD (o : SO) : Out D := match o with
  | .nx _ => .ok .non
  | .rt d _ => .ok d
  | .ro t _ => .ok t.toD
  | .ex x _ => .ex x
  | _ => .stuck
section
variable {δ δ' : Env} {a b s : DS} {d x y : D} {xx : XD} {f : D → SO} {fb : Bool → SO} {α β : Type} {fo : α → Out β} {v : α} {q qa qb : DT} {ra rb rc : DE} {g : D → D → Option D} {g1 : D → Option D} {rl : DA} {xs : List D} {sl : Sl} {l : Env} {i : Nat} {t : OT}
@[simp] theorem ev_seq : sSeq a b δ = thenS (a δ) b := rfl
@[simp] theorem ev_then_nx : thenS (.nx δ) b = b δ := rfl
@[simp] theorem ev_then_rt : thenS (.rt d δ) b = .rt d δ := rfl
@[simp] theorem ev_then_ro : thenS (.ro t δ) b = .ro t δ := rfl
@[simp] theorem ev_then_ex : thenS (.ex xx δ) b = .ex xx δ := rfl
@[simp] theorem ev_then_bk : thenS (.bk δ) b = .bk δ := rfl
@[simp] theorem ev_then_ct : thenS (.ct δ) b = .ct δ := rfl
@[simp] theorem ev_if : sIf q a b δ = ifS (q δ) δ a b := by
  unfold sIf tS ifS
  cases q δ with
  | ok k => cases k <;> rfl
  | _ => rfl
@[simp] theorem ev_if_t : ifS (.ok true) δ a b = a δ := rfl
@[simp] theorem ev_if_f : ifS (.ok false) δ a b = b δ := rfl
@[simp] theorem ev_set {r : DE} : sSet i r δ = eS (r δ) δ fun d => .nx (δ.set i (.d d)) := rfl
@[simp] theorem ev_ret {r : DE} : sRet r δ = eS (r δ) δ fun d => .rt d δ := rfl
@[simp] theorem ev_eS : eS (.ok d) δ f = f d := rfl
@[simp] theorem ev_next : sNext δ = .nx δ := rfl
@[simp] theorem ev_bind : (Out.ok v).bind fo = fo v := rfl
@[simp] theorem ev_bind_ex : (Out.ex xx : Out α).bind fo = .ex xx := rfl
@[simp] theorem ev_ofO : ofO (some v) = .ok v := rfl
@[simp] theorem ev_var0 : rVar 0 (.d d :: l) = .ok d := rfl
@[simp] theorem ev_varS : rVar (i + 1) (sl :: l) = rVar i l := rfl
@[simp] theorem ev_c : rC d δ = .ok d := rfl
@[simp] theorem ev_op : rOp g ra rb δ = (ra δ).bind fun x => (rb δ).bind fun y => ofO (g x y) := rfl
@[simp] theorem ev_un : rUn g1 ra δ = (ra δ).bind fun x => ofO (g1 x) := rfl
@[simp] theorem ev_T : rT ra δ = (ra δ).bind dB := rfl
@[simp] theorem ev_dB {k : Bool} : dB (.bl k) = .ok k := rfl
@[simp] theorem ev_nil : rNil δ = .ok [] := rfl
@[simp] theorem ev_cons : rCons ra rl δ = (ra δ).bind fun x => (rl δ).bind fun xs => .ok (x :: xs) := rfl
@[simp] theorem ev_tup : rTup rl δ = (rl δ).bind fun xs => if xs.length ≤ 16777216 then .ok (.tup xs) else .stuck := rfl
@[simp] theorem ev_lst : rLst rl δ = (rl δ).bind fun xs => if xs.length ≤ 16777216 then .ok (.lst xs) else .stuck := rfl
@[simp] theorem ev_B {gl : List D → Option D} : rB gl rl δ = (rl δ).bind fun xs => ofO (gl xs) := rfl
@[simp] theorem ev_call {n : Nat} {G : List D → Out D} : rCall n G [] rl δ = (rl δ).bind fun xs => if xs.length = n then G xs else .stuck := by
  unfold rCall
  simp
@[simp] theorem ev_or : rOrT qa qb δ = (qa δ).bind fun k => if k = true then .ok true else qb δ := rfl
@[simp] theorem ev_and : rAndT qa qb δ = (qa δ).bind fun k => if k = true then qb δ else .ok false := rfl
@[simp] theorem ev_not : rNotT qa δ = (qa δ).bind fun k => .ok (!k) := rfl
@[simp] theorem ev_vand : rAnd ra rb δ = (ra δ).bind fun x => (dB x).bind fun k => if k = true then rb δ else .ok (.bl false) := rfl
@[simp] theorem ev_vor : rOr ra rb δ = (ra δ).bind fun x => (dB x).bind fun k => if k = true then .ok (.bl true) else rb δ := rfl
@[simp] theorem ev_vnot : rNot ra δ = (ra δ).bind fun x => (dB x).bind fun k => .ok (.bl (!k)) := rfl
@[simp] theorem ev_fnD {N : Nat} {r : DS} {ds : List D} : fnD N r ds = finD (r (startD N ds)) := rfl
@[simp] theorem ev_fin_rt : finD (.rt d δ) = .ok d := rfl
@[simp] theorem ev_fin_nx : finD (.nx δ) = .ok .non := rfl
@[simp] theorem ev_fin_ex : finD (.ex xx δ) = .ex xx := rfl
@[simp] theorem ev_start {N : Nat} {ds : List D} : startD N ds = ds.map Sl.d ++ List.replicate (N - ds.length) .un := rfl
@[simp] theorem ev_dI {i j : Int} {gg : Int → Int → Option D} : dI gg (.int i) (.int j) = gg i j := rfl
@[simp] theorem ev_eqS {u w : List Nat} : dEq (.str u) (.str w) = some (.bl (decide (u = w))) := rfl
@[simp] theorem ev_eqI {u w : Int} : dEq (.int u) (.int w) = some (.bl (decide (u = w))) := rfl
@[simp] theorem ev_neS {u w : List Nat} : dNe (.str u) (.str w) = some (.bl (!decide (u = w))) := rfl
@[simp] theorem ev_neI {u w : Int} : dNe (.int u) (.int w) = some (.bl (!decide (u = w))) := rfl
end
/-! ### amplitudes -/
abbrev Amp := Int × Int × Int × Int
def am (a : Amp) : D := .tup [.int a.1, .int a.2.1, .int a.2.2.1, .int a.2.2.2]
def turn1 (a : Amp) : Amp := (-a.2.2.2, a.1, a.2.1, a.2.2.1)
def turnN : Nat → Amp → Amp
  | 0, a => a
  | n + 1, a => turnN n (turn1 a)
theorem foldl_turn (xs : List D) (a : Amp) : xs.foldl (fun a _ => turn1 a) a = turnN xs.length a := by
  induction xs generalizing a with
  | nil => rfl
  | cons x xs ih => exact ih (turn1 a)
theorem rangeD_length (lo hi : Int) : (rangeD lo hi).length = (hi - lo).toNat := by simp [rangeD]
theorem fnI_nx {N n : Nat} {r : DS} {ss δ : Env} (h : r (tagE 0 ss ++ List.replicate (N - n) .un) = .nx δ) (hl : n ≤ δ.length) : fnI N n r ss = .ok (.d .non) (unE 0 n δ) := by
  unfold fnI
  rw [h]
  exact if_pos hl
/-- naturals -/
def nd (n : Nat) : D := .int (n : Int)
/-! ### amplitudes by index -/
abbrev NA := List (Nat × Amp)
def a0 : Amp := (0, 0, 0, 0)
def dcl (l : NA) : List (DKey × D) := l.map fun p => (.i (p.1 : Int), am p.2)
def nlook (l : NA) (i : Nat) : Option Amp := (l.find? fun p => decide (p.1 = i)).map (·.2)
def nset (l : NA) (i : Nat) (a : Amp) : NA := if (l.any fun p => decide (p.1 = i)) = true then l.map (fun p => if p.1 = i then (p.1, a) else p) else l ++ [(i, a)]
def addA (a b : Amp) : Amp := (a.1 + b.1, a.2.1 + b.2.1, a.2.2.1 + b.2.2.1, a.2.2.2 + b.2.2.2)
def nget (l : NA) (i : Nat) : Amp := (nlook l i).getD a0
def nput (l : NA) (i : Nat) (a : Amp) : NA := nset l i (addA (nget l i) a)
theorem key_dec (a b : Nat) : decide (DKey.i (a : Int) = DKey.i (b : Int)) = decide (a = b) := by
  rw [Bool.eq_iff_iff]
  simp only [decide_eq_true_eq, DKey.i.injEq]
  omega
theorem dlook_dcl (l : NA) (i : Nat) : dlook (dcl l) (.i (i : Int)) = (nlook l i).map am := by
  unfold dlook nlook dcl
  induction l with
  | nil => rfl
  | cons p l ih =>
    rw [List.map_cons, List.find?_cons, List.find?_cons]
    show Option.map _ (match decide (DKey.i (p.1 : Int) = DKey.i (i : Int)) with | true => _ | false => _) = _
    rw [key_dec]
    cases decide (p.1 = i) with
    | true => rfl
    | false => exact ih
theorem dput_dcl (l : NA) (i : Nat) (a : Amp) : dput (dcl l) (.i (i : Int)) (am a) = dcl (nset l i a) := by
  have h1 : (dcl l).any (fun e => decide (e.1 = DKey.i (i : Int))) = l.any fun p => decide (p.1 = i) := by
    unfold dcl
    rw [List.any_map]
    congr 1
    funext p
    exact key_dec _ _
  unfold dput nset
  rw [h1]
  by_cases h : (l.any fun p => decide (p.1 = i)) = true
  · rw [if_pos h, if_pos h]
    unfold dcl
    rw [List.map_map, List.map_map]
    congr 1
    funext p
    show (if DKey.i (p.1 : Int) = DKey.i (i : Int) then (DKey.i (p.1 : Int), am a) else (DKey.i (p.1 : Int), am p.2)) = _
    by_cases e : p.1 = i
    · rw [if_pos (by rw [e])]
      simp [e]
    · rw [if_neg (fun h => e (by injection h with h; omega))]
      simp [e]
  · rw [if_neg h, if_neg h]
    unfold dcl
    rw [List.map_append]
    rfl
theorem dcl_length (l : NA) : (dcl l).length = l.length := by simp [dcl]
theorem lfree_am (a : Amp) : lfree (am a) = true := rfl
/-! ### gates -/
abbrev NG := List Nat × List Nat
def gt (g : NG) : D := .tup [.str g.1, .tup (g.2.map nd)]
def bit (i q : Nat) : Nat := (i >>> q) % 2
def stepsOf (k : List Nat) : Option Nat := if k = [90] then some 4 else if k = [83] then some 2 else if k = [83, 68, 71] then some 6 else if k = [84] then some 1 else if k = [84, 68, 71] then some 7 else none
def nmove (i : Nat) (g : NG) : Nat × Nat :=
  if g.1 = [87] then (i, 1) else
  let q0 := g.2.getD 0 0
  let one := bit i q0
  if g.1 = [88] then (i ^^^ (1 <<< q0), 0) else
  if g.1 = [89] then (i ^^^ (1 <<< q0), 2 + 4 * one) else
  match stepsOf g.1 with
  | some s => (i, s * one)
  | none =>
    let q1 := g.2.getD 1 0
    let two := bit i q1
    if g.1 = [67, 88] then (i ^^^ (one <<< q1), 0) else
    if g.1 = [67, 90] then (i, 4 * one * two) else
    let c := one ^^^ two
    (i ^^^ (c <<< q0) ^^^ (c <<< q1), 0)
/-- one entry's share in the gate's result -/
def nshare (g : NG) (out : NA) (p : Nat × Amp) : NA :=
  if g.1 = [72] then
    let q := g.2.getD 0 0
    let low := p.1 - (bit p.1 q <<< q)
    nput (nput out low p.2) (low + (1 <<< q)) (turnN (4 * bit p.1 q % 8) p.2)
  else
    let m := nmove p.1 g
    nput out m.1 (turnN (m.2 % 8) p.2)
def nafter (l : NA) (g : NG) : NA := (l.foldl (nshare g) []).filter fun p => decide (p.2 ≠ a0)
def nsim (gs : List NG) (i : Nat) : NA × Nat := gs.foldl (fun s g => (nafter s.1 g, s.2 + (if g.1 = [72] then 1 else 0))) ([(i, (1, 0, 0, 0))], 0)
def nroot1 (a : Amp) : Amp := (a.2.1 - a.2.2.2, a.1 + a.2.2.1, a.2.1 + a.2.2.2, a.2.2.1 - a.1)
def nroot : Nat → NA → NA
  | 0, l => l
  | n + 1, l => nroot n (l.map fun p => (p.1, nroot1 p.2))
def nsame (x y : NA × Nat) (t : Nat) : Bool :=
  let one := nroot (y.2 - x.2) x.1
  let two := nroot (x.2 - y.2) y.1
  (one.map (·.1) ++ two.map (·.1)).all fun i => decide (nget one i = turnN (t % 8) (nget two i))
/-! ### operators of naturals -/
@[simp] theorem dShr_nat (i q : Nat) : dShr (nd i) (nd q) = some (nd (i >>> q)) := by
  show (if 0 ≤ (q : Int) then some (D.int ((i : Int) / 2 ^ (q : Int).toNat)) else none) = _
  rw [if_pos (by omega), Int.toNat_natCast]
  unfold nd
  rw [Nat.shiftRight_eq_div_pow]
  simp
@[simp] theorem dAnd_nat (i q : Nat) : dAnd (nd i) (nd q) = some (nd (i &&& q)) := by
  show some (D.int (Builtin.bitAnd i q)) = _
  rw [bitAnd_pp (by omega) (by omega)] <;> simp [nd]
@[simp] theorem dXor_nat (i q : Nat) : dXor (nd i) (nd q) = some (nd (i ^^^ q)) := by
  show some (D.int (Builtin.bitXor i q)) = _
  rw [Bits.bitXor_pp (by omega) (by omega)] <;> simp [nd]
theorem dShl_nat {i q : Nat} (hi : i < 2 ^ 64) (hq : q ≤ 1000000) : dShl (nd i) (nd q) = some (nd (i <<< q)) := by
  show (if CPow i q then some (D.int ((i : Int) * 2 ^ (q : Int).toNat)) else none) = _
  rw [if_pos ⟨by omega, by omega, by simpa using hi⟩, Int.toNat_natCast]
  unfold nd
  rw [Nat.shiftLeft_eq]
  simp
theorem dMul_nat {i j : Nat} (hi : i < 2 ^ 64) (hj : j < 2 ^ 64) : dMul (nd i) (nd j) = some (nd (i * j)) := by
  have h : CMulA (i : Int) (j : Int) := by
    show (i : Int).natAbs.log2 + (j : Int).natAbs.log2 < 134217000
    have h1 : (i : Int).natAbs.log2 ≤ 64 := by
      rw [Int.natAbs_natCast]
      by_cases z : i = 0
      · subst z; decide
      · have := (Nat.log2_lt z).mpr hi; omega
    have h2 : (j : Int).natAbs.log2 ≤ 64 := by
      rw [Int.natAbs_natCast]
      by_cases z : j = 0
      · subst z; decide
      · have := (Nat.log2_lt z).mpr hj; omega
    omega
  show (if CMulA i j then some (D.int ((i : Int) * j)) else none) = _
  rw [if_pos h]
  unfold nd
  simp
@[simp] theorem dAdd_nat (i j : Nat) : dAdd (nd i) (nd j) = some (nd (i + j)) := by
  show some (D.int ((i : Int) + j)) = _
  unfold nd
  simp
theorem bit_le (i q : Nat) : bit i q ≤ 1 := by
  unfold bit
  omega
theorem xor_bit {a b : Nat} (ha : a ≤ 1) (hb : b ≤ 1) : a ^^^ b ≤ 1 := by
  rcases Nat.le_one_iff_eq_zero_or_eq_one.mp ha with h | h <;> rcases Nat.le_one_iff_eq_zero_or_eq_one.mp hb with h' | h' <;> subst h <;> subst h' <;> decide
@[simp] theorem dAnd_one (i : Nat) : dAnd (nd i) (nd 1) = some (nd (i % 2)) := by rw [dAnd_nat, Nat.and_one_is_mod]
@[simp] theorem ev_rO {r : DO} {δ : Env} : rO r δ = (r δ).bind fun t => .ok t.toD := rfl
@[simp] theorem inS_nil {x : List Nat} : dInA (.str x) (.tup []) = some (.bl false) := rfl
def isS : D → Bool
  | .str _ => true
  | _ => false
theorem inS_all {x : List Nat} : ∀ {ys : List (List Nat)}, dInA (.str x) (.tup (ys.map D.str)) = some (.bl (decide (x ∈ ys))) := by
  intro ys
  have h1 : (ys.map D.str).all flatD = true := by simp [flatD]
  have h2 : inD (.str x) (ys.map D.str) = decide (x ∈ ys) := by
    unfold inD
    rw [List.any_map, Bool.eq_iff_iff]
    simp only [List.any_eq_true, Function.comp, eqD, beq_iff_eq, decide_eq_true_eq]
    exact ⟨fun ⟨y, h, e⟩ => e ▸ h, fun h => ⟨x, h, rfl⟩⟩
  show ((match (if flatD (.str x) && (ys.map D.str).all flatD then some (inD (.str x) (ys.map D.str)) else none) with | some b => some b | none => dHas (.str x) (.tup (ys.map D.str))).map fun b => D.bl (if false then !b else b)) = _
  rw [h1, h2]
  rfl
/-- literals -/
theorem nd_lit (n : Nat) : D.int (n : Int) = nd n := rfl
@[simp] theorem lit0 : D.int 0 = nd 0 := rfl
@[simp] theorem lit1 : D.int 1 = nd 1 := rfl
@[simp] theorem lit2 : D.int 2 = nd 2 := rfl
@[simp] theorem lit3 : D.int 3 = nd 3 := rfl
@[simp] theorem lit4 : D.int 4 = nd 4 := rfl
@[simp] theorem lit5 : D.int 5 = nd 5 := rfl
@[simp] theorem lit6 : D.int 6 = nd 6 := rfl
@[simp] theorem lit7 : D.int 7 = nd 7 := rfl
@[simp] theorem lit8 : D.int 8 = nd 8 := rfl
@[simp] theorem ix_tup {x : D} {xs : List D} : dIxA (.tup (x :: xs)) (nd 0) = some x := by
  show (match (ixN (xs.length + 1) ((0 : Nat) : Int)).bind fun j => (x :: xs)[j]? with | some z => some z | none => _) = _
  have : ixN (xs.length + 1) ((0 : Nat) : Int) = some 0 := by unfold ixN; simp <;> omega
  rw [this]
  rfl
@[simp] theorem ix_tup1 {x y : D} {xs : List D} : dIxA (.tup (x :: y :: xs)) (nd 1) = some y := by
  show (match (ixN (xs.length + 1 + 1) ((1 : Nat) : Int)).bind fun j => (x :: y :: xs)[j]? with | some z => some z | none => _) = _
  have : ixN (xs.length + 1 + 1) ((1 : Nat) : Int) = some 1 := by unfold ixN; simp <;> omega
  rw [this]
  rfl
@[simp] theorem ix_tup2 {x y z : D} {xs : List D} : dIxA (.tup (x :: y :: z :: xs)) (nd 2) = some z := by
  show (match (ixN (xs.length + 1 + 1 + 1) ((2 : Nat) : Int)).bind fun j => (x :: y :: z :: xs)[j]? with | some z => some z | none => _) = _
  have : ixN (xs.length + 1 + 1 + 1) ((2 : Nat) : Int) = some 2 := by unfold ixN; simp <;> omega
  rw [this]
  rfl
@[simp] theorem ix_tup3 {x y z u : D} {xs : List D} : dIxA (.tup (x :: y :: z :: u :: xs)) (nd 3) = some u := by
  show (match (ixN (xs.length + 1 + 1 + 1 + 1) ((3 : Nat) : Int)).bind fun j => (x :: y :: z :: u :: xs)[j]? with | some z => some z | none => _) = _
  have : ixN (xs.length + 1 + 1 + 1 + 1) ((3 : Nat) : Int) = some 3 := by unfold ixN; simp <;> omega
  rw [this]
  rfl
@[simp] theorem ix_am0 (a : Amp) : dIxA (am a) (nd 0) = some (.int a.1) := ix_tup
@[simp] theorem ix_am1 (a : Amp) : dIxA (am a) (nd 1) = some (.int a.2.1) := ix_tup1
@[simp] theorem ix_am2 (a : Amp) : dIxA (am a) (nd 2) = some (.int a.2.2.1) := ix_tup2
@[simp] theorem ix_am3 (a : Amp) : dIxA (am a) (nd 3) = some (.int a.2.2.2) := ix_tup3
@[simp] theorem dAdd_int (x y : Int) : dAdd (.int x) (.int y) = some (.int (x + y)) := rfl
@[simp] theorem dNeg_int (x : Int) : dNeg (.int x) = some (.int (-x)) := rfl
@[simp] theorem isDic_dic {es : List (DKey × D)} : isDic (.dic es) = true := rfl
@[simp] theorem ev_get2 {ra rb rc : DE} {δ : Env} : rGet2 ra rb rc δ = (ra δ).bind fun x => if isDic x = true then (rb δ).bind fun y => (rc δ).bind fun z => ofO (dGet2 x y z) else .stuck := rfl
@[simp] theorem ev_thaw {r : DE} {δ : Env} : rThaw r δ = (r (thaw δ)).bind fun d => if lfree d = true then .ok d else .stuck := rfl
@[simp] theorem thaw_nil : thaw [] = [] := rfl
@[simp] theorem thaw_own {o : Option Nat} {t : OT} {l : Env} : thaw (.own o t :: l) = .d t.toD :: thaw l := rfl
@[simp] theorem thaw_d {d : D} {l : Env} : thaw (.d d :: l) = .d d :: thaw l := rfl
@[simp] theorem thaw_un {l : Env} : thaw (.un :: l) = .un :: thaw l := rfl
@[simp] theorem toD_dd {es : List (DKey × D)} : (OT.dd es).toD = .dic es := rfl
@[simp] theorem toD_ld {es : List D} : (OT.ld es).toD = .lst es := rfl
@[simp] theorem lfree_am' (a : Amp) : lfree (am a) = true := rfl
@[simp] theorem get2_dcl (l : NA) (i : Nat) : dGet2 (.dic (dcl l)) (nd i) (.tup [nd 0, nd 0, nd 0, nd 0]) = some (am (nget l i)) := by
  show (some (DKey.i (i : Int))).map (fun k => (dlook (dcl l) k).getD _) = _
  rw [Option.map_some, dlook_dcl]
  unfold nget
  cases nlook l i with
  | none => rfl
  | some a => rfl
def finI (n : Nat) (o : SO) : IOut := match o with
  | .nx δ => if n ≤ δ.length then .ok (.d .non) (unE 0 n δ) else .stuck
  | .rt d δ => if n ≤ δ.length then .ok (.d d) (unE 0 n δ) else .stuck
  | .ro t δ => if n ≤ δ.length then .ok (.own none t) (unE 0 n δ) else .stuck
  | .ex x δ => if n ≤ δ.length then .ex x (unE 0 n δ) else .stuck
  | _ => .stuck
@[simp] theorem ev_fnI {N n : Nat} {r : DS} {ss : Env} : fnI N n r ss = finI n (r (tagE 0 ss ++ List.replicate (N - n) .un)) := rfl
@[simp] theorem ev_finI_nx {n : Nat} {δ : Env} : finI n (.nx δ) = if n ≤ δ.length then .ok (.d .non) (unE 0 n δ) else .stuck := rfl
@[simp] theorem tagE_nil {j : Nat} : tagE j [] = [] := rfl
@[simp] theorem tagE_own {j : Nat} {o : Option Nat} {t : OT} {l : Env} : tagE j (.own o t :: l) = .own (some j) t :: tagE (j + 1) l := rfl
@[simp] theorem tagE_d {j : Nat} {d : D} {l : Env} : tagE j (.d d :: l) = .d d :: tagE (j + 1) l := rfl
@[simp] theorem ev_put {j : Nat} {pt : Path} {ri re : DE} {δ : Env} : sPut j pt ri re δ = eS (re δ) δ fun d => if thereD j pt δ = true then eS (ri δ) δ fun x => (match dkey x with | some k => chg j pt δ (kPut k d) | none => .stuck) else .stuck := rfl
@[simp] theorem dkey_nd (i : Nat) : dkey (nd i) = some (.i (i : Int)) := rfl
theorem kPut_dcl {l : NA} {i : Nat} {a : Amp} (h : l.length < 16777216) : kPut (.i (i : Int)) (am a) (.dd (dcl l)) = some (.dd (dcl (nset l i a))) := by
  show (if (dcl l).length < 16777216 then some (OT.dd (dput (dcl l) (.i (i : Int)) (am a))) else none) = _
  rw [dcl_length, if_pos h, dput_dcl]
theorem am_mk (a b c d : Int) : D.tup [.int a, .int b, .int c, .int d] = am (a, b, c, d) := rfl
theorem forL_mapP {α β : Type} {loc : List Nat} {g : DG} {body : DS} (Pv : α → Prop) (h : β → D) (e : α → Env) (f : α → β → α) (ys : List β) (hb : ∀ a y, y ∈ ys → Pv a → Pv (f a y) ∧ ∃ δ1 δ2, g (h y) (e a) = some δ1 ∧ body δ1 = .nx δ2 ∧ fgt loc δ2 = e (f a y)) (a : α) (ha : Pv a) : forL loc g body (ys.map h) (e a) = .nx (e (ys.foldl f a)) ∧ Pv (ys.foldl f a) := by
  induction ys generalizing a with
  | nil => exact ⟨rfl, ha⟩
  | cons y ys ih =>
    obtain ⟨hp, δ1, δ2, h1, h2, h3⟩ := hb a y (by simp) ha
    rw [List.map_cons]
    unfold forL
    simp only [h1, h2, h3]
    exact ih (fun a y hy => hb a y (by simp [hy])) (f a y) hp
/-! ### keys stay below -/
def KB (w : Nat) (l : NA) : Prop := (l.map (·.1)).Nodup ∧ ∀ p ∈ l, p.1 < 2 ^ w
theorem KB.len {w : Nat} {l : NA} (h : KB w l) : l.length ≤ 2 ^ w := by
  have key : ∀ (n : Nat) (xs : List Nat), xs.Nodup → (∀ x ∈ xs, x < n) → xs.length ≤ n := by
    intro n
    induction n with
    | zero =>
      intro xs _ hx
      cases xs with
      | nil => simp
      | cons x xs => exact absurd (hx x (by simp)) (by omega)
    | succ n ih =>
      intro xs nd hx
      have h1 := ih (xs.erase n) (nd.erase n) fun x hm => by
        have h2 := hx x (List.mem_of_mem_erase hm)
        have h3 : x ≠ n := fun e => by subst e; exact nd.not_mem_erase hm
        omega
      have h2 : xs.length ≤ (xs.erase n).length + 1 := by
        by_cases hm : n ∈ xs
        · rw [List.length_erase_of_mem hm]; omega
        · rw [List.erase_of_not_mem hm]; omega
      omega
  have := key (2 ^ w) (l.map (·.1)) h.1 (fun x hx => by
    obtain ⟨p, hp, rfl⟩ := List.mem_map.mp hx
    exact h.2 p hp)
  simpa using this
theorem nset_keys (l : NA) (i : Nat) (a : Amp) : (nset l i a).map (·.1) = if i ∈ l.map (·.1) then l.map (·.1) else l.map (·.1) ++ [i] := by
  have h : (l.any fun p => decide (p.1 = i)) = decide (i ∈ l.map (·.1)) := by
    rw [Bool.eq_iff_iff]
    simp only [List.any_eq_true, decide_eq_true_eq, List.mem_map]
  unfold nset
  rw [h]
  by_cases hm : i ∈ l.map (·.1)
  · rw [if_pos (by simpa using hm), if_pos hm, List.map_map]
    congr 1
    funext p
    show (if p.1 = i then (p.1, a) else p).1 = p.1
    split <;> rfl
  · rw [if_neg (by simpa using hm), if_neg hm, List.map_append]
    rfl
theorem KB.put {w : Nat} {l : NA} (h : KB w l) {i : Nat} (hi : i < 2 ^ w) (a : Amp) : KB w (nput l i a) := by
  unfold nput
  have hk := nset_keys l i (addA (nget l i) a)
  have hb : ∀ x ∈ (nset l i (addA (nget l i) a)).map (·.1), x < 2 ^ w := by
    rw [hk]
    have h0 : ∀ x ∈ l.map (·.1), x < 2 ^ w := fun x hx => by
      obtain ⟨p, hp, rfl⟩ := List.mem_map.mp hx
      exact h.2 p hp
    split
    · exact h0
    · intro x hx
      rcases List.mem_append.mp hx with z | z
      · exact h0 x z
      · simp at z; subst z; exact hi
  refine ⟨?_, fun p hp => hb p.1 (List.mem_map.mpr ⟨p, hp, rfl⟩)⟩
  rw [hk]
  split
  · exact h.1
  · rename_i hn
    exact List.nodup_append.mpr ⟨h.1, by simp, fun x hx y hy e => by simp at hy; subst hy; exact hn (e ▸ hx)⟩
theorem KB.nil (w : Nat) : KB w [] := ⟨by simp, by simp⟩
theorem nlook_mem {l : NA} (nd : (l.map (·.1)).Nodup) {p : Nat × Amp} (h : p ∈ l) : nlook l p.1 = some p.2 := by
  induction l with
  | nil => simp at h
  | cons x l ih =>
    unfold nlook
    rw [List.find?_cons]
    obtain ⟨n1, n2⟩ := List.nodup_cons.mp nd
    rcases List.mem_cons.mp h with e | h
    · subst e; simp
    · have hne : x.1 ≠ p.1 := fun e => n1 (by
        show x.1 ∈ l.map (·.1)
        rw [e]
        exact List.mem_map.mpr ⟨p, h, rfl⟩)
      have e2 : decide (x.1 = p.1) = false := decide_eq_false hne
      rw [e2]
      exact ih n2 h
theorem ix_dcl {l : NA} (nd' : (l.map (·.1)).Nodup) {p : Nat × Amp} (h : p ∈ l) : dIxA (.dic (dcl l)) (nd p.1) = some (am p.2) := by
  show (some (DKey.i (p.1 : Int))).bind (fun k => dlook (dcl l) k) = _
  rw [Option.bind_some, dlook_dcl, nlook_mem nd' h]
  rfl
theorem keys_dcl (l : NA) : ((dcl l).map fun e => dkD e.1) = l.map fun p => nd p.1 := by
  unfold dcl
  rw [List.map_map]
  rfl
theorem dSub_nat {i j : Nat} (h : j ≤ i) : (some (D.int ((i : Int) - (j : Int))) : Option D) = some (nd (i - j)) := by
  unfold nd
  congr 2
  omega
theorem bit_shl_le (i q : Nat) : bit i q <<< q ≤ i := by
  unfold bit
  rw [Nat.shiftLeft_eq, Nat.shiftRight_eq_div_pow]
  have h1 : i / 2 ^ q % 2 ≤ i / 2 ^ q := Nat.mod_le _ _
  exact Nat.le_trans (Nat.mul_le_mul_right _ h1) (Nat.div_mul_le_self i (2 ^ q))
theorem low_lt {w i q : Nat} (hi : i < 2 ^ w) (hq : q < w) : i - (bit i q <<< q) + (1 <<< q) < 2 ^ w := by
  have hb := bit_le i q
  have h0 := bit_shl_le i q
  rcases Nat.le_one_iff_eq_zero_or_eq_one.mp hb with e | e
  · have ez : (0 : Nat) <<< q = 0 := by simp
    have eo : (1 : Nat) <<< q = 2 ^ q := by rw [Nat.shiftLeft_eq, Nat.one_mul]
    rw [e, ez, eo, Nat.sub_zero]
    unfold bit at e
    rw [Nat.shiftRight_eq_div_pow] at e
    have hw : 2 ^ w = 2 ^ q * (2 * 2 ^ (w - q - 1)) := by
      have : w = q + (1 + (w - q - 1)) := by omega
      conv => lhs; rw [this]
      rw [Nat.pow_add, Nat.pow_add]
    have hp : 0 < 2 ^ q := Nat.two_pow_pos q
    have h1 : i / 2 ^ q < 2 * 2 ^ (w - q - 1) := Nat.div_lt_of_lt_mul (by rw [← hw]; exact hi)
    have h2 : (i + 2 ^ q) / 2 ^ q < 2 * 2 ^ (w - q - 1) := by
      rw [Nat.add_div_right _ hp]
      omega
    rw [hw, Nat.mul_comm (2 ^ q)]
    exact (Nat.div_lt_iff_lt_mul hp).mp h2
  · rw [e] at h0 ⊢
    omega
/-- a valid gate of the twelve kinds, other than H -/
inductive GV (w : Nat) : NG → Prop
  | W : GV w ([87], [])
  | X (q) : q < w → GV w ([88], [q])
  | Y (q) : q < w → GV w ([89], [q])
  | st (k s q) : stepsOf k = some s → q < w → GV w (k, [q])
  | CX (a b) : a < w → b < w → GV w ([67, 88], [a, b])
  | CZ (a b) : a < w → b < w → GV w ([67, 90], [a, b])
  | SW (a b) : a < w → b < w → GV w ([83, 87, 65, 80], [a, b])
inductive GF (w : Nat) : NG → Prop
  | H (q) : q < w → GF w ([72], [q])
  | V {g} : GV w g → GF w g
theorem st_cases {k : List Nat} {s : Nat} (h : stepsOf k = some s) : k = [90] ∧ s = 4 ∨ k = [83] ∧ s = 2 ∨ k = [83, 68, 71] ∧ s = 6 ∨ k = [84] ∧ s = 1 ∨ k = [84, 68, 71] ∧ s = 7 := by
  unfold stepsOf at h
  repeat' split at h
  all_goals (first | (cases h; subst_vars; simp) | cases h)
theorem GV.notH {w : Nat} {g : NG} (h : GV w g) : g.1 ≠ [72] := by
  cases h with
  | st k s q hk hq => rcases st_cases hk with ⟨rfl, rfl⟩ | ⟨rfl, rfl⟩ | ⟨rfl, rfl⟩ | ⟨rfl, rfl⟩ | ⟨rfl, rfl⟩ <;> simp
  | _ => simp
theorem shl_lt {b q w : Nat} (hb : b ≤ 1) (hq : q < w) : b <<< q < 2 ^ w := by
  rw [Nat.shiftLeft_eq]
  have h1 : b * 2 ^ q ≤ 1 * 2 ^ q := Nat.mul_le_mul_right _ hb
  have h2 : 2 ^ q < 2 ^ w := Nat.pow_lt_pow_right (by omega) hq
  omega
theorem nmove_lt {w i : Nat} {g : NG} (h : GV w g) (hi : i < 2 ^ w) : (nmove i g).1 < 2 ^ w := by
  cases h with
  | W => exact hi
  | X q hq => exact Nat.xor_lt_two_pow hi (shl_lt (by omega) hq)
  | Y q hq => exact Nat.xor_lt_two_pow hi (shl_lt (by omega) hq)
  | st k s q hk hq => rcases st_cases hk with ⟨rfl, rfl⟩ | ⟨rfl, rfl⟩ | ⟨rfl, rfl⟩ | ⟨rfl, rfl⟩ | ⟨rfl, rfl⟩ <;> exact hi
  | CX a b ha hb => exact Nat.xor_lt_two_pow hi (shl_lt (bit_le _ _) hb)
  | CZ a b ha hb => exact hi
  | SW a b ha hb => exact Nat.xor_lt_two_pow (Nat.xor_lt_two_pow hi (shl_lt (xor_bit (bit_le _ _) (bit_le _ _)) ha)) (shl_lt (xor_bit (bit_le _ _) (bit_le _ _)) hb)
theorem KB.share {w : Nat} {out : NA} (h : KB w out) {g : NG} (hg : GF w g) {p : Nat × Amp} (hp : p.1 < 2 ^ w) : KB w (nshare g out p) := by
  cases hg with
  | H q hq =>
    show KB w (nput (nput out (p.1 - (bit p.1 q <<< q)) p.2) (p.1 - (bit p.1 q <<< q) + (1 <<< q)) (turnN (4 * bit p.1 q % 8) p.2))
    exact (h.put (Nat.lt_of_le_of_lt (Nat.sub_le _ _) hp) _).put (low_lt hp hq) _
  | V hv =>
    unfold nshare
    rw [if_neg hv.notH]
    exact h.put (nmove_lt hv hp) _
theorem KB.filter {w : Nat} {l : NA} (h : KB w l) (f : Nat × Amp → Bool) : KB w (l.filter f) := ⟨(h.1.sublist (List.filter_sublist.map _)), fun p hp => h.2 p (List.mem_filter.mp hp).1⟩
theorem rCI_ok {n j : Nat} {G : Env → IOut} {pt : Path} {rl : DA} {δ : Env} {u u' : OT} {xs : List D} {r : Sl} {ps : Env} (hg : getP j pt δ = some u) (hr : rl δ = .ok xs) (hn : 1 + xs.length = n) (hG : G (.own none u :: xs.map Sl.d) = .ok r (.own none u' :: ps)) : rCI n G [] j pt rl δ = .ok r (putP j pt u' δ) := by
  unfold rCI
  rw [hg]
  simp only [hr, List.append_nil, if_pos hn, hG]
theorem dropC_ok {r : DC} {δ δ' : Env} {sl : Sl} (h : r δ = .ok sl δ') : sDropC r δ = .nx δ' := by unfold sDropC; rw [h]; rfl
theorem eqD_am (a b : Amp) : eqD (am a) (am b) = decide (a = b) := by
  obtain ⟨a1, a2, a3, a4⟩ := a
  obtain ⟨b1, b2, b3, b4⟩ := b
  rw [Bool.eq_iff_iff]
  simp [am, eqD, eqDL, Prod.ext_iff]
theorem dNe_am (a b : Amp) : dNe (am a) (am b) = some (.bl (!decide (a = b))) := by
  show (if okD 60 (am a) && okD 60 (am b) then some (eqD (am a) (am b)) else none).map (fun b => D.bl (!b)) = _
  rw [eqD_am]
  rfl
theorem nset_new {l : NA} {i : Nat} {a : Amp} (h : i ∉ l.map (·.1)) : nset l i a = l ++ [(i, a)] := by
  unfold nset
  rw [if_neg]
  simp only [List.any_eq_true, decide_eq_true_eq]
  rintro ⟨p, hp, e⟩
  exact h (e ▸ List.mem_map.mpr ⟨p, hp, rfl⟩)
def keepF (f : Nat × Amp → Option Amp) (k : NA) (p : Nat × Amp) : NA := match f p with
  | some a => nset k p.1 a
  | none => k
/-- entries laid one behind another -/
theorem foldl_nset (f : Nat × Amp → Option Amp) : ∀ (out kept : NA), ((kept ++ out).map (·.1)).Nodup → out.foldl (keepF f) kept = kept ++ out.filterMap fun p => (f p).map fun a => (p.1, a)
  | [], kept, _ => by simp
  | p :: out, kept, h => by
    rw [List.foldl_cons, List.filterMap_cons]
    have hnd : (kept.map (·.1) ++ (p.1 :: out.map (·.1))).Nodup := by simpa using h
    obtain ⟨n1, n2, n3⟩ := List.nodup_append.mp hnd
    obtain ⟨m1, m2⟩ := List.nodup_cons.mp n2
    cases hf : f p with
    | none =>
      have := foldl_nset f out kept (by
        rw [List.map_append]
        exact List.nodup_append.mpr ⟨n1, m2, fun a ha b hb => n3 a ha b (List.mem_cons_of_mem _ hb)⟩)
      simp only [Option.map_none]
      have e : keepF f kept p = kept := by unfold keepF; rw [hf]
      rw [e]
      exact this
    | some a =>
      have hk : p.1 ∉ kept.map (·.1) := fun hm => n3 p.1 hm p.1 (by simp) rfl
      simp only [Option.map_some]
      have e : keepF f kept p = nset kept p.1 a := by unfold keepF; rw [hf]
      rw [e, nset_new hk]
      have := foldl_nset f out (kept ++ [(p.1, a)]) (by
        rw [List.append_assoc, List.map_append]
        exact hnd)
      rw [this, List.append_assoc]
      rfl
theorem filterMap_ne (l : NA) : l.filterMap (fun p => (if p.2 = a0 then none else some p.2).map fun a => (p.1, a)) = l.filter fun p => decide (p.2 ≠ a0) := by
  induction l with
  | nil => rfl
  | cons p l ih =>
    rw [List.filterMap_cons, List.filter_cons, ih]
    by_cases h : p.2 = a0
    · simp [h]
    · simp [h]
theorem filterMap_map (l : NA) (f : Amp → Amp) : l.filterMap (fun p => (some (f p.2)).map fun a => (p.1, a)) = l.map fun p => (p.1, f p.2) := by
  induction l with
  | nil => rfl
  | cons p l ih => rw [List.filterMap_cons, List.map_cons, ih]; rfl
/-- a loop that leaves at the first one that does not hold -/
theorem forL_all {β : Type} {loc : List Nat} {g : DG} {body : DS} (h : β → D) (δ : Env) (ok : β → Bool) (d : D) : ∀ (ys : List β), (∀ y ∈ ys, ∃ δ1, g (h y) δ = some δ1 ∧ (ok y = true → ∃ δ2, body δ1 = .nx δ2 ∧ fgt loc δ2 = δ) ∧ (ok y = false → ∃ δ2, body δ1 = .rt d δ2)) →
    (ys.all ok = true → forL loc g body (ys.map h) δ = .nx δ) ∧ (ys.all ok = false → ∃ δ2, forL loc g body (ys.map h) δ = .rt d δ2)
  | [], _ => ⟨fun _ => rfl, fun e => by simp at e⟩
  | y :: ys, hb => by
    obtain ⟨δ1, h1, h2, h3⟩ := hb y (by simp)
    obtain ⟨i1, i2⟩ := forL_all h δ ok d ys fun y hy => hb y (by simp [hy])
    rw [List.map_cons]
    unfold forL
    rw [List.all_cons]
    simp only [h1]
    cases e : ok y with
    | true =>
      obtain ⟨δ2, h4, h5⟩ := h2 e
      simp only [h4, h5, Bool.true_and]
      exact ⟨i1, i2⟩
    | false =>
      obtain ⟨δ2, h4⟩ := h3 e
      simp only [h4, Bool.false_and]
      exact ⟨fun z => by simp at z, fun _ => ⟨_, rfl⟩⟩
theorem dMax_sub (a b : Nat) : dMax2 [nd 0, .int ((a : Int) - (b : Int))] = some (nd (a - b)) := by
  show some (D.int (if (a : Int) - (b : Int) > ((0 : Nat) : Int) then (a : Int) - b else ((0 : Nat) : Int))) = _
  unfold nd
  congr 2
  split <;> omega
theorem dListA_dcl (l : NA) : dListA [.dic (dcl l)] = some (.lst (l.map fun p => nd p.1)) := by
  show some (D.lst ((dcl l).map fun e => dkD e.1)) = _
  rw [keys_dcl]
theorem KB.after {w : Nat} {l : NA} (h : KB w l) {g : NG} (hg : GF w g) : KB w (nafter l g) := by
  refine KB.filter ?_ _
  have : ∀ (ys : NA) (out : NA), (∀ p ∈ ys, p.1 < 2 ^ w) → KB w out → KB w (ys.foldl (nshare g) out) := by
    intro ys
    induction ys with
    | nil => intro out _ ho; exact ho
    | cons y ys ih => intro out hy ho; exact ih _ (fun p hp => hy p (by simp [hp])) (ho.share hg (hy y (by simp)))
  exact this l [] h.2 (KB.nil w)
theorem KB.root {w : Nat} : ∀ (n : Nat) {l : NA}, KB w l → KB w (nroot n l)
  | 0, _, h => h
  | n + 1, l, h => KB.root n (l := l.map fun p => (p.1, nroot1 p.2)) ⟨by rw [List.map_map]; exact h.1, fun p hp => by
      obtain ⟨q, hq, rfl⟩ := List.mem_map.mp hp
      exact h.2 q hq⟩
theorem compL_map {β : Type} {g : DG} {t : DT} {re : DE} {δ0 : Env} (h f : β → D) : ∀ (ys : List β), (∀ y ∈ ys, ∃ δ1, g (h y) δ0 = some δ1 ∧ t δ1 = .ok true ∧ re δ1 = .ok (f y)) → compL g t re δ0 (ys.map h) = .ok (ys.map f)
  | [], _ => rfl
  | y :: ys, hb => by
    obtain ⟨δ1, h1, h2, h3⟩ := hb y (by simp)
    have ih := compL_map h f ys fun y hy => hb y (by simp [hy])
    rw [List.map_cons]
    unfold compL
    simp only [h1, h2, if_true, h3, ih]
    rfl
theorem comp_ok {β : Type} {vs : List Nat} {ri : DIt} {g : DG} {t : DT} {re : DE} {δ : Env} (h f : β → D) (ys : List β) (hi : ri δ = .ok (ys.map h)) (hl : ys.length ≤ 16777216) (hb : ∀ y ∈ ys, ∃ δ1, g (h y) (fgt vs (dat δ)) = some δ1 ∧ t δ1 = .ok true ∧ re δ1 = .ok (f y)) : rO (fComp vs ri g t re) δ = .ok (.lst (ys.map f)) := by
  unfold rO fComp
  rw [hi]
  show (((compL g t re (fgt vs (dat δ)) (ys.map h)).bind fun ds => if ds.length ≤ 16777216 then Out.ok (OT.ld ds) else .stuck).bind fun t => .ok t.toD) = _
  rw [compL_map h f ys hb]
  show ((if (ys.map f).length ≤ 16777216 then Out.ok (OT.ld (ys.map f)) else .stuck).bind fun t => .ok t.toD) = _
  rw [if_pos (by simpa using hl)]
  rfl
theorem rangeD_nat (n : Nat) : rangeD 0 (n : Int) = (List.range n).map nd := by
  unfold rangeD
  rw [show ((n : Int) - 0).toNat = n by omega]
  congr 1
  funext i
  show D.int (0 + (i : Int)) = D.int (i : Int)
  rw [Int.zero_add]
/-- a % m as a natural -/
theorem dMod_nat (c : Int) {m : Nat} (hm : 0 < m) : dMod (.int c) (.int (m : Int)) = some (nd (c % m).toNat) := by
  show (if (0 : Int) < m then some (D.int (c % m)) else none) = _
  rw [if_pos (by omega)]
  unfold nd
  rw [Int.toNat_of_nonneg (Int.emod_nonneg _ (by omega))]
theorem mod_lt (c : Int) {m : Nat} (hm : 0 < m) : (c % m).toNat < m := by
  have h1 := Int.emod_nonneg c (show (m : Int) ≠ 0 by omega)
  have h2 := Int.emod_lt_of_pos c (show (0 : Int) < m by omega)
  omega
theorem dFdiv_small (c : Int) {m : Nat} (hm : 0 < m) (h2 : m < 2 ^ 64) : dFdiv (.int c) (.int (m : Int)) = some (.int (c / m)) := by
  show (if CFd c m then some (D.int (c / m)) else none) = _
  rw [if_pos]
  refine ⟨by omega, ?_⟩
  rw [Int.natAbs_natCast]
  have := (Nat.log2_lt (by omega)).mpr h2
  omega
theorem try_ok {nE i : Nat} {ex : Nat → Bool} {body : DS} {su : XD → DS} {δ δ' : Env} (h : body δ = .nx δ') : sTry nE ex i body su δ = .nx δ' := by unfold sTry; rw [h]
theorem try_rt {nE i : Nat} {ex : Nat → Bool} {body : DS} {su : XD → DS} {δ δ' δ2 : Env} {x : XD} {d : D} (h : body δ = .ex x δ') (hx : x.c < nE) (he : ex x.c = true) (h2 : su x (δ'.set i .exc) = .rt d δ2) : sTry nE ex i body su δ = .rt d (noX δ2) := by
  unfold sTry
  simp only [h, if_pos hx, he, if_true, h2]
theorem set_ex {i : Nat} {re : DE} {δ : Env} {x : XD} (h : re δ = .ex x) : sSet i re δ = .ex x δ := by unfold sSet; rw [h]; rfl
theorem call_ex {n : Nat} {G : List D → Out D} {rl : DA} {xs : List D} {δ : Env} {x : XD} (h : rl δ = .ok xs) (hn : xs.length = n) (h2 : G xs = .ex x) : rCall n G [] rl δ = .ex x := call_ok h hn h2
mutual
def beqD : D → D → Bool
  | .non, .non => true
  | .bl a, .bl b => a == b
  | .int a, .int b => decide (a = b)
  | .str a, .str b => decide (a = b)
  | .tup a, .tup b => beqDL a b
  | .lst a, .lst b => beqDL a b
  | _, _ => false
def beqDL : List D → List D → Bool
  | [], [] => true
  | x :: xs, y :: ys => beqD x y && beqDL xs ys
  | _, _ => false
end
mutual
theorem beqD_eq : ∀ (a b : D), beqD a b = true → a = b
  | .non, b, h => by cases b <;> simp [beqD] at h; rfl
  | .bl a, b, h => by cases b <;> simp [beqD] at h; rw [h]
  | .int a, b, h => by cases b <;> simp [beqD] at h; rw [h]
  | .str a, b, h => by cases b <;> simp [beqD] at h; rw [h]
  | .tup a, b, h => by
    cases b <;> simp [beqD] at h
    rw [beqDL_eq _ _ h]
  | .lst a, b, h => by
    cases b <;> simp [beqD] at h
    rw [beqDL_eq _ _ h]
  | .dic a, b, h => by cases b <;> simp [beqD] at h
  | .ins c a, b, h => by cases b <;> simp [beqD] at h
theorem beqDL_eq : ∀ (a b : List D), beqDL a b = true → a = b
  | [], [], _ => rfl
  | [], _ :: _, h => by simp [beqDL] at h
  | _ :: _, [], h => by simp [beqDL] at h
  | x :: xs, y :: ys, h => by
    simp only [beqDL, Bool.and_eq_true] at h
    rw [beqD_eq x y h.1, beqDL_eq xs ys h.2]
end
theorem disp1 {rk rv : DE} {δ : Env} {m : Nat} {a : Amp} (h1 : rk δ = .ok (nd m)) (h2 : rv δ = .ok (am a)) : rO (oDisp ((rk, rv) :: [])) δ = .ok (.dic (dcl [(m, a)])) := by
  unfold rO oDisp
  have e : rDisp [(rk, rv)] δ = .ok [(nd m, am a)] := by
    unfold rDisp
    rw [h1]
    show ((rv δ).bind fun v => (rDisp [] δ).bind fun ps => Out.ok ((nd m, v) :: ps)) = _
    rw [h2]
    rfl
  rw [e]
  rfl
def gfB (w : Nat) (g : NG) : Bool := match g.2 with
  | [] => decide (g.1 = [87])
  | [q] => decide (q < w) && (decide (g.1 = [72]) || decide (g.1 = [88]) || decide (g.1 = [89]) || (stepsOf g.1).isSome)
  | [a, b] => decide (a < w) && decide (b < w) && (decide (g.1 = [67, 88]) || decide (g.1 = [67, 90]) || decide (g.1 = [83, 87, 65, 80]))
  | _ => false
theorem gf_of {w : Nat} {g : NG} (h : gfB w g = true) : GF w g := by
  obtain ⟨k, qs⟩ := g
  unfold gfB at h
  match qs, h with
  | [], h => simp at h; subst h; exact .V .W
  | [q], h =>
    simp only [Bool.and_eq_true, Bool.or_eq_true, decide_eq_true_eq] at h
    obtain ⟨hq, ((rfl | rfl) | rfl) | hs⟩ := h
    · exact .H q hq
    · exact .V (.X q hq)
    · exact .V (.Y q hq)
    · obtain ⟨s, hs⟩ := Option.isSome_iff_exists.mp hs
      exact .V (.st k s q hs hq)
  | [a, b], h =>
    simp only [Bool.and_eq_true, Bool.or_eq_true, decide_eq_true_eq] at h
    obtain ⟨⟨ha, hb⟩, (rfl | rfl) | rfl⟩ := h
    · exact .V (.CX a b ha hb)
    · exact .V (.CZ a b ha hb)
    · exact .V (.SW a b ha hb)
  | _ :: _ :: _ :: _, h => simp at h
theorem chunk_all {α : Type} (f : α → Bool) : ∀ (m : Nat) (l : List α), l.length ≤ 5 * m → (∀ j, j < m → ((l.drop (5 * j)).take 5).all f = true) → l.all f = true
  | 0, l, h, _ => by
    have : l = [] := List.length_eq_zero_iff.mp (by omega)
    subst this
    rfl
  | m + 1, l, h, hc => by
    have h0 := hc 0 (by omega)
    have ih := chunk_all f m (l.drop 5) (by rw [List.length_drop]; omega) fun j hj => by
      have := hc (j + 1) (by omega)
      rw [List.drop_drop]
      rw [show 5 + 5 * j = 5 * (j + 1) by omega]
      exact this
    have e : l = l.take 5 ++ l.drop 5 := (List.take_append_drop 5 l).symm
    rw [e, List.all_append, ih, Bool.and_true]
    simpa using h0
end L2.DL

/-! ## W_law_k15_macros -/
set_option linter.all false
set_option maxRecDepth 100000
set_option maxHeartbeats 4000000
/-! the walk of law_k15_macros: written by gen.py -/
namespace L2.DL.law_k15_macros
open PySem PySem.Spec PyProof.Rows L2
def top (i : Nat) : Stmt := PySem.Challenge.pw_phasor_k15_macros.main.body.getD i (.Pass ⟨0, 0, 0, 0⟩)
def tb0 : TB := [([67, 83], D.int (2)), ([67, 83, 68, 71], D.int (2)), ([67, 67, 90], D.int (3)), ([67, 67, 88], D.int (3)), ([67, 83, 87, 65, 80], D.int (3))]
def d_ccz_gates : He.DefD := ⟨("ccz_gates", none), "ccz_gates", "ccz_gates", defArgs (top 6), defBody (top 6), defScope (top 6), [], []⟩
def d_ccx_gates : He.DefD := ⟨("ccx_gates", none), "ccx_gates", "ccx_gates", defArgs (top 7), defBody (top 7), defScope (top 7), [], []⟩
def d_is_macro : He.DefD := ⟨("is_macro", none), "is_macro", "is_macro", defArgs (top 8), defBody (top 8), defScope (top 8), [], []⟩
def d_macro_gates : He.DefD := ⟨("macro_gates", none), "macro_gates", "macro_gates", defArgs (top 9), defBody (top 9), defScope (top 9), [], []⟩
def d__law_is_integer : He.DefD := ⟨("_law_is_integer", none), "_law_is_integer", "_law_is_integer", defArgs (top 11), defBody (top 11), defScope (top 11), [], []⟩
def d__law_cell : He.DefD := ⟨("_law_cell", none), "_law_cell", "_law_cell", defArgs (top 12), defBody (top 12), defScope (top 12), [], []⟩
def d__law_turn : He.DefD := ⟨("_law_turn", none), "_law_turn", "_law_turn", defArgs (top 13), defBody (top 13), defScope (top 13), [], []⟩
def d__law_put : He.DefD := ⟨("_law_put", none), "_law_put", "_law_put", defArgs (top 14), defBody (top 14), defScope (top 14), [], []⟩
def d__law_move : He.DefD := ⟨("_law_move", none), "_law_move", "_law_move", defArgs (top 15), defBody (top 15), defScope (top 15), [], []⟩
def d__law_after : He.DefD := ⟨("_law_after", none), "_law_after", "_law_after", defArgs (top 16), defBody (top 16), defScope (top 16), [], []⟩
def d__law_sim : He.DefD := ⟨("_law_sim", none), "_law_sim", "_law_sim", defArgs (top 17), defBody (top 17), defScope (top 17), [], []⟩
def d__law_root : He.DefD := ⟨("_law_root", none), "_law_root", "_law_root", defArgs (top 18), defBody (top 18), defScope (top 18), [], []⟩
def d__law_same : He.DefD := ⟨("_law_same", none), "_law_same", "_law_same", defArgs (top 19), defBody (top 19), defScope (top 19), [], []⟩
def d__law_gate_fits : He.DefD := ⟨("_law_gate_fits", none), "_law_gate_fits", "_law_gate_fits", defArgs (top 20), defBody (top 20), defScope (top 20), [], []⟩
def d__law_list_fits : He.DefD := ⟨("_law_list_fits", none), "_law_list_fits", "_law_list_fits", defArgs (top 21), defBody (top 21), defScope (top 21), [], []⟩
def d__law_due : He.DefD := ⟨("_law_due", none), "_law_due", "_law_due", defArgs (top 22), defBody (top 22), defScope (top 22), [], []⟩
def d_law : He.DefD := ⟨("law", none), "law", "law", defArgs (top 23), defBody (top 23), defScope (top 23), [], []⟩
def Fx : Facts where
  fn := [d_ccz_gates, d_ccx_gates, d_is_macro, d_macro_gates, d__law_is_integer, d__law_cell, d__law_turn, d__law_put, d__law_move, d__law_after, d__law_sim, d__law_root, d__law_same, d__law_gate_fits, d__law_list_fits, d__law_due, d_law]
  fa := [.glo "ccz_gates", .keep "ccz_gates", .glo "ccx_gates", .keep "ccx_gates", .glo "is_macro", .keep "is_macro", .glo "macro_gates", .keep "macro_gates", .glo "_law_is_integer", .keep "_law_is_integer", .glo "_law_cell", .keep "_law_cell", .glo "_law_turn", .keep "_law_turn", .glo "_law_put", .keep "_law_put", .glo "_law_move", .keep "_law_move", .glo "_law_after", .keep "_law_after", .glo "_law_sim", .keep "_law_sim", .glo "_law_root", .keep "_law_root", .glo "_law_same", .keep "_law_same", .glo "_law_gate_fits", .keep "_law_gate_fits", .glo "_law_list_fits", .keep "_law_list_fits", .glo "_law_due", .keep "_law_due", .glo "law", .keep "law", .exc "PhasorError", .glo "PhasorError", .exm "PhasorError" "PhasorError" true, .exm "PhasorError" "InvalidGate" false, .exc "InvalidGate", .glo "InvalidGate", .exm "InvalidGate" "PhasorError" true, .exm "InvalidGate" "InvalidGate" true, .free "len", .free "min", .free "set", .free "isinstance", .free "int", .free "bool", .free "range", .free "max", .free "list", .free "tuple", .free "str"]
  ts := [("MACRO_SIZES", tb0)]
  cs := [("MACROS", D.tup [D.str [67, 83], D.str [67, 83, 68, 71], D.str [67, 67, 90], D.str [67, 67, 88], D.str [67, 83, 87, 65, 80]])]
  xs := ["PhasorError", "InvalidGate"]
  cl := []
  lay := []
  kt := [("PhasorError", .type "ValueError", true), ("InvalidGate", .type "ValueError", true)]
  ko := [("PhasorError", "PhasorError", true), ("PhasorError", "InvalidGate", false), ("InvalidGate", "PhasorError", true), ("InvalidGate", "InvalidGate", true)]
section
variable {P : Program} {w : World} {K : PySem.W.Frag} {mg : Str → Option Value} {h base : Heap}
/-! ### ccz_gates -/
def N_ccz_gates : List Str := ["a", "b", "c"]
theorem sc_ccz_gates : FnScope N_ccz_gates ["a", "b", "c"] (defScope (top 6)) := ⟨rfl, rfl, rfl, by decide +kernel, rfl, by decide +kernel, by decide +kernel⟩
def r_ccz_gates : DS :=
  sRet (rLst (rCons (rTup (rCons (rC (.str [84])) (rCons (rTup (rCons (rVar 0) (rNil))) (rNil)))) (rCons (rTup (rCons (rC (.str [84])) (rCons (rTup (rCons (rVar 1) (rNil))) (rNil)))) (rCons (rTup (rCons (rC (.str [84])) (rCons (rTup (rCons (rVar 2) (rNil))) (rNil)))) (rCons (rTup (rCons (rC (.str [67, 88])) (rCons (rTup (rCons (rVar 0) (rCons (rVar 1) (rNil)))) (rNil)))) (rCons (rTup (rCons (rC (.str [84, 68, 71])) (rCons (rTup (rCons (rVar 1) (rNil))) (rNil)))) (rCons (rTup (rCons (rC (.str [67, 88])) (rCons (rTup (rCons (rVar 0) (rCons (rVar 1) (rNil)))) (rNil)))) (rCons (rTup (rCons (rC (.str [67, 88])) (rCons (rTup (rCons (rVar 1) (rCons (rVar 2) (rNil)))) (rNil)))) (rCons (rTup (rCons (rC (.str [84, 68, 71])) (rCons (rTup (rCons (rVar 2) (rNil))) (rNil)))) (rCons (rTup (rCons (rC (.str [67, 88])) (rCons (rTup (rCons (rVar 0) (rCons (rVar 2) (rNil)))) (rNil)))) (rCons (rTup (rCons (rC (.str [84])) (rCons (rTup (rCons (rVar 2) (rNil))) (rNil)))) (rCons (rTup (rCons (rC (.str [67, 88])) (rCons (rTup (rCons (rVar 1) (rCons (rVar 2) (rNil)))) (rNil)))) (rCons (rTup (rCons (rC (.str [84, 68, 71])) (rCons (rTup (rCons (rVar 2) (rNil))) (rNil)))) (rCons (rTup (rCons (rC (.str [67, 88])) (rCons (rTup (rCons (rVar 0) (rCons (rVar 2) (rNil)))) (rNil)))) (rNil)))))))))))))))
def G_ccz_gates : List D → Out D := fnD 3 r_ccz_gates
theorem ok_ccz_gates (S : Says Fx K mg w h) : ∃ fd, Binds K fd ["a", "b", "c"] [] ∧ FnOk P w K mg base (L2.CX P w) 2 (He.ga K "ccz_gates") fd ["a", "b", "c"] (spP K (Fx.T K) 3 G_ccz_gates) := by
  obtain ⟨fd, D⟩ := S.def_ 0 (d := d_ccz_gates)
  refine ⟨fd, D.bindsN (fun _ _ _ _ _ _ us hl => match us, hl with | [_, _, _], _ => rfl), fn_pureB (k := 1) D sc_ccz_gates rfl fun cdv A outer s H E B => ?_⟩
  exact pdss_one (pds_ret (pd_lst (pda_cons (pd_tup (pda_cons (pd_str (by decide +kernel)) (pda_cons (pd_tup (pda_cons (pd_var (pv 0)) (pda_nil))) (pda_nil)))) (pda_cons (pd_tup (pda_cons (pd_str (by decide +kernel)) (pda_cons (pd_tup (pda_cons (pd_var (pv 1)) (pda_nil))) (pda_nil)))) (pda_cons (pd_tup (pda_cons (pd_str (by decide +kernel)) (pda_cons (pd_tup (pda_cons (pd_var (pv 2)) (pda_nil))) (pda_nil)))) (pda_cons (pd_tup (pda_cons (pd_str (by decide +kernel)) (pda_cons (pd_tup (pda_cons (pd_var (pv 0)) (pda_cons (pd_var (pv 1)) (pda_nil)))) (pda_nil)))) (pda_cons (pd_tup (pda_cons (pd_str (by decide +kernel)) (pda_cons (pd_tup (pda_cons (pd_var (pv 1)) (pda_nil))) (pda_nil)))) (pda_cons (pd_tup (pda_cons (pd_str (by decide +kernel)) (pda_cons (pd_tup (pda_cons (pd_var (pv 0)) (pda_cons (pd_var (pv 1)) (pda_nil)))) (pda_nil)))) (pda_cons (pd_tup (pda_cons (pd_str (by decide +kernel)) (pda_cons (pd_tup (pda_cons (pd_var (pv 1)) (pda_cons (pd_var (pv 2)) (pda_nil)))) (pda_nil)))) (pda_cons (pd_tup (pda_cons (pd_str (by decide +kernel)) (pda_cons (pd_tup (pda_cons (pd_var (pv 2)) (pda_nil))) (pda_nil)))) (pda_cons (pd_tup (pda_cons (pd_str (by decide +kernel)) (pda_cons (pd_tup (pda_cons (pd_var (pv 0)) (pda_cons (pd_var (pv 2)) (pda_nil)))) (pda_nil)))) (pda_cons (pd_tup (pda_cons (pd_str (by decide +kernel)) (pda_cons (pd_tup (pda_cons (pd_var (pv 2)) (pda_nil))) (pda_nil)))) (pda_cons (pd_tup (pda_cons (pd_str (by decide +kernel)) (pda_cons (pd_tup (pda_cons (pd_var (pv 1)) (pda_cons (pd_var (pv 2)) (pda_nil)))) (pda_nil)))) (pda_cons (pd_tup (pda_cons (pd_str (by decide +kernel)) (pda_cons (pd_tup (pda_cons (pd_var (pv 2)) (pda_nil))) (pda_nil)))) (pda_cons (pd_tup (pda_cons (pd_str (by decide +kernel)) (pda_cons (pd_tup (pda_cons (pd_var (pv 0)) (pda_cons (pd_var (pv 2)) (pda_nil)))) (pda_nil)))) (pda_nil))))))))))))))))
/-! ### ccx_gates -/
def N_ccx_gates : List Str := ["a", "b", "c"]
theorem sc_ccx_gates : FnScope N_ccx_gates ["a", "b", "c"] (defScope (top 7)) := ⟨rfl, rfl, rfl, by decide +kernel, rfl, by decide +kernel, by decide +kernel⟩
def r_ccx_gates : DS :=
  sRet (rOp dAdd (rOp dAdd (rLst (rCons (rTup (rCons (rC (.str [72])) (rCons (rTup (rCons (rVar 2) (rNil))) (rNil)))) (rNil))) (rCall 3 G_ccz_gates [] (rCons (rVar 0) (rCons (rVar 1) (rCons (rVar 2) (rNil)))))) (rLst (rCons (rTup (rCons (rC (.str [72])) (rCons (rTup (rCons (rVar 2) (rNil))) (rNil)))) (rNil))))
def G_ccx_gates : List D → Out D := fnD 3 r_ccx_gates
theorem ok_ccx_gates (S : Says Fx K mg w h) : ∃ fd, Binds K fd ["a", "b", "c"] [] ∧ FnOk P w K mg base (L2.CX P w) 3 (He.ga K "ccx_gates") fd ["a", "b", "c"] (spP K (Fx.T K) 3 G_ccx_gates) := by
  obtain ⟨fd_ccz_gates, b_ccz_gates, F_ccz_gates⟩ := ok_ccz_gates (P := P) (base := base) S
  obtain ⟨fd, D⟩ := S.def_ 1 (d := d_ccx_gates)
  refine ⟨fd, D.bindsN (fun _ _ _ _ _ _ us hl => match us, hl with | [_, _, _], _ => rfl), fn_pureB (k := 2) D sc_ccx_gates rfl fun cdv A outer s H E B => ?_⟩
  exact pdss_one (pds_ret (pd_op og_add (pd_op og_add (pd_lst (pda_cons (pd_tup (pda_cons (pd_str (by decide +kernel)) (pda_cons (pd_tup (pda_cons (pd_var (pv 2)) (pda_nil))) (pda_nil)))) (pda_nil))) (pd_call B.tk F_ccz_gates (B.room.mono (by decide)) rfl (S.glo 0) (S.keep 1) b_ccz_gates .nil (fun _ => .nil) (pda_cons (pd_var (pv 0)) (pda_cons (pd_var (pv 1)) (pda_cons (pd_var (pv 2)) (pda_nil)))))) (pd_lst (pda_cons (pd_tup (pda_cons (pd_str (by decide +kernel)) (pda_cons (pd_tup (pda_cons (pd_var (pv 2)) (pda_nil))) (pda_nil)))) (pda_nil)))))
/-! ### is_macro -/
def N_is_macro : List Str := ["kind", "qubits"]
theorem sc_is_macro : FnScope N_is_macro ["kind", "qubits"] (defScope (top 8)) := ⟨rfl, rfl, rfl, by decide +kernel, rfl, by decide +kernel, by decide +kernel⟩
def r_is_macro : DS :=
  sSeq (sIf (rOrT (rT (rOp dNotInA (rVar 0) (rC (D.tup [D.str [67, 83], D.str [67, 83, 68, 71], D.str [67, 67, 90], D.str [67, 67, 88], D.str [67, 83, 87, 65, 80]])))) (rT (rOp dNe (rB dLen (rCons (rVar 1) (rNil))) (rUn (dTabGet tb0) (rVar 0))))) (sRet (rC (.bl false))) (sNext)) (sRet (rAnd (rOp (dI fun i j => some (.bl (decide (j ≤ i)))) (rB dMinT (rCons (rVar 1) (rNil))) (rC (.int 0))) (rOp dEq (rUn dLenSet (rVar 1)) (rB dLen (rCons (rVar 1) (rNil))))))
def G_is_macro : List D → Out D := fnD 2 r_is_macro
theorem ok_is_macro (S : Says Fx K mg w h) : ∃ fd, Binds K fd ["kind", "qubits"] [] ∧ FnOk P w K mg base (L2.CX P w) 2 (He.ga K "is_macro") fd ["kind", "qubits"] (spP K (Fx.T K) 2 G_is_macro) := by
  obtain ⟨fd, D⟩ := S.def_ 2 (d := d_is_macro)
  refine ⟨fd, D.bindsN (fun _ _ _ _ _ _ us hl => match us, hl with | [_, _], _ => rfl), fn_pureB (k := 1) D sc_is_macro rfl fun cdv A outer s H E B => ?_⟩
  exact pdss_cons (pds_if (PDW.t (pdw_or (pdt_cmp (og_notInA B.hu1) (pd_var (pv 0)) (pd_con rfl (S.con 0)) (by first | rfl | exact nobehind _ (by decide) (by decide))) (pdw_or1 (pdt_cmp (og_ne B.hu) (pd_B cg_len rfl (S.free 42) (by decide +kernel) (pda_cons (pd_var (pv 1)) (pda_nil))) (pd_tabGet rfl (S.tab 0) (pd_var (pv 0)) (fun _ _ => rfl)) (by first | rfl | exact nobehind _ (by decide) (by decide))))))
    (pdss_one (pds_ret (pd_bl)))
    (pdss_nil))
    (pdss_one (pds_ret (pd_and (pd_cmp og_ge (pd_B (cg_minT rfl) rfl (S.free 43) (by decide +kernel) (pda_cons (pd_var (pv 1)) (pda_nil))) (pd_int) (by first | rfl | exact nobehind _ (by decide) (by decide))) (pd_one (pd_cmp (og_eq B.hu) (pd_lenSet rfl (S.free 42) rfl (S.free 44) rfl (pd_var (pv 1))) (pd_B cg_len rfl (S.free 42) (by decide +kernel) (pda_cons (pd_var (pv 1)) (pda_nil))) (by first | rfl | exact nobehind _ (by decide) (by decide)))))))
/-! ### macro_gates -/
def N_macro_gates : List Str := ["kind", "qubits", "a", "b", "c"]
theorem sc_macro_gates : FnScope N_macro_gates ["kind", "qubits"] (defScope (top 9)) := ⟨rfl, rfl, rfl, by decide +kernel, rfl, by decide +kernel, by decide +kernel⟩
def r_macro_gates : DS :=
  sSeq (sIf (rNotT (rT (rCall 2 G_is_macro [] (rCons (rVar 0) (rCons (rVar 1) (rNil)))))) (sRaise 1) (sNext)) (sSeq (sIf (rT (rOp dEq (rVar 0) (rC (.str [67, 83])))) (sSeq (sAsg (rVar 1) (gtTup 2 (gtCons (gtName 2) (gtCons (gtName 3) (gtNil))))) (sRet (rLst (rCons (rTup (rCons (rC (.str [84])) (rCons (rTup (rCons (rVar 2) (rNil))) (rNil)))) (rCons (rTup (rCons (rC (.str [84])) (rCons (rTup (rCons (rVar 3) (rNil))) (rNil)))) (rCons (rTup (rCons (rC (.str [67, 88])) (rCons (rTup (rCons (rVar 2) (rCons (rVar 3) (rNil)))) (rNil)))) (rCons (rTup (rCons (rC (.str [84, 68, 71])) (rCons (rTup (rCons (rVar 3) (rNil))) (rNil)))) (rCons (rTup (rCons (rC (.str [67, 88])) (rCons (rTup (rCons (rVar 2) (rCons (rVar 3) (rNil)))) (rNil)))) (rNil))))))))) (sNext)) (sSeq (sIf (rT (rOp dEq (rVar 0) (rC (.str [67, 83, 68, 71])))) (sSeq (sAsg (rVar 1) (gtTup 2 (gtCons (gtName 2) (gtCons (gtName 3) (gtNil))))) (sRet (rLst (rCons (rTup (rCons (rC (.str [84, 68, 71])) (rCons (rTup (rCons (rVar 2) (rNil))) (rNil)))) (rCons (rTup (rCons (rC (.str [84, 68, 71])) (rCons (rTup (rCons (rVar 3) (rNil))) (rNil)))) (rCons (rTup (rCons (rC (.str [67, 88])) (rCons (rTup (rCons (rVar 2) (rCons (rVar 3) (rNil)))) (rNil)))) (rCons (rTup (rCons (rC (.str [84])) (rCons (rTup (rCons (rVar 3) (rNil))) (rNil)))) (rCons (rTup (rCons (rC (.str [67, 88])) (rCons (rTup (rCons (rVar 2) (rCons (rVar 3) (rNil)))) (rNil)))) (rNil))))))))) (sNext)) (sSeq (sAsg (rVar 1) (gtTup 3 (gtCons (gtName 2) (gtCons (gtName 3) (gtCons (gtName 4) (gtNil)))))) (sSeq (sIf (rT (rOp dEq (rVar 0) (rC (.str [67, 67, 90])))) (sRet (rCall 3 G_ccz_gates [] (rCons (rVar 2) (rCons (rVar 3) (rCons (rVar 4) (rNil)))))) (sNext)) (sSeq (sIf (rT (rOp dEq (rVar 0) (rC (.str [67, 67, 88])))) (sRet (rCall 3 G_ccx_gates [] (rCons (rVar 2) (rCons (rVar 3) (rCons (rVar 4) (rNil)))))) (sNext)) (sRet (rOp dAdd (rOp dAdd (rLst (rCons (rTup (rCons (rC (.str [67, 88])) (rCons (rTup (rCons (rVar 4) (rCons (rVar 3) (rNil)))) (rNil)))) (rNil))) (rCall 3 G_ccx_gates [] (rCons (rVar 2) (rCons (rVar 3) (rCons (rVar 4) (rNil)))))) (rLst (rCons (rTup (rCons (rC (.str [67, 88])) (rCons (rTup (rCons (rVar 4) (rCons (rVar 3) (rNil)))) (rNil)))) (rNil))))))))))
def G_macro_gates : List D → Out D := fnD 5 r_macro_gates
theorem ok_macro_gates (S : Says Fx K mg w h) : ∃ fd, Binds K fd ["kind", "qubits"] [] ∧ FnOk P w K mg base (L2.CX P w) 4 (He.ga K "macro_gates") fd ["kind", "qubits"] (spP K (Fx.T K) 2 G_macro_gates) := by
  obtain ⟨fd_is_macro, b_is_macro, F_is_macro⟩ := ok_is_macro (P := P) (base := base) S
  obtain ⟨fd_ccz_gates, b_ccz_gates, F_ccz_gates⟩ := ok_ccz_gates (P := P) (base := base) S
  obtain ⟨fd_ccx_gates, b_ccx_gates, F_ccx_gates⟩ := ok_ccx_gates (P := P) (base := base) S
  obtain ⟨fd, D⟩ := S.def_ 3 (d := d_macro_gates)
  refine ⟨fd, D.bindsN (fun _ _ _ _ _ _ us hl => match us, hl with | [_, _], _ => rfl), fn_pureB (k := 3) D sc_macro_gates rfl fun cdv A outer s H E B => ?_⟩
  exact pdss_cons (pds_if (pdt_not (pdt_val (pd_call B.tk F_is_macro (B.room.mono (by decide)) rfl (S.glo 4) (S.keep 5) b_is_macro .nil (fun _ => .nil) (pda_cons (pd_var (pv 0)) (pda_cons (pd_var (pv 1)) (pda_nil)))) (fun _ => rfl)))
    (pdss_one (pds_raise rfl B.tk (show PMk _ _ (fun _ H Q => Q (.ref ((Fx.T K).cl 1)) none H) from S.raise rfl rfl 38 39 rfl)))
    (pdss_nil))
    (pdss_cons (pds_if (pdt_cmp (og_eq B.hu) (pd_var (pv 0)) (pd_str (by decide +kernel)) (by first | rfl | exact nobehind _ (by decide) (by decide)))
    (pdss_cons (pds_asg (pd_var (pv 1)) (pdg_tup rfl (pdgs_cons (pdg_name (i := 2) sc_macro_gates.nd rfl (by first | exact Or.inl rfl | exact Or.inr rfl)) (pdgs_cons (pdg_name (i := 3) sc_macro_gates.nd rfl (by first | exact Or.inl rfl | exact Or.inr rfl)) (pdgs_nil)))))
    (pdss_one (pds_ret (pd_lst (pda_cons (pd_tup (pda_cons (pd_str (by decide +kernel)) (pda_cons (pd_tup (pda_cons (pd_var (pv 2)) (pda_nil))) (pda_nil)))) (pda_cons (pd_tup (pda_cons (pd_str (by decide +kernel)) (pda_cons (pd_tup (pda_cons (pd_var (pv 3)) (pda_nil))) (pda_nil)))) (pda_cons (pd_tup (pda_cons (pd_str (by decide +kernel)) (pda_cons (pd_tup (pda_cons (pd_var (pv 2)) (pda_cons (pd_var (pv 3)) (pda_nil)))) (pda_nil)))) (pda_cons (pd_tup (pda_cons (pd_str (by decide +kernel)) (pda_cons (pd_tup (pda_cons (pd_var (pv 3)) (pda_nil))) (pda_nil)))) (pda_cons (pd_tup (pda_cons (pd_str (by decide +kernel)) (pda_cons (pd_tup (pda_cons (pd_var (pv 2)) (pda_cons (pd_var (pv 3)) (pda_nil)))) (pda_nil)))) (pda_nil))))))))))
    (pdss_nil))
    (pdss_cons (pds_if (pdt_cmp (og_eq B.hu) (pd_var (pv 0)) (pd_str (by decide +kernel)) (by first | rfl | exact nobehind _ (by decide) (by decide)))
    (pdss_cons (pds_asg (pd_var (pv 1)) (pdg_tup rfl (pdgs_cons (pdg_name (i := 2) sc_macro_gates.nd rfl (by first | exact Or.inl rfl | exact Or.inr rfl)) (pdgs_cons (pdg_name (i := 3) sc_macro_gates.nd rfl (by first | exact Or.inl rfl | exact Or.inr rfl)) (pdgs_nil)))))
    (pdss_one (pds_ret (pd_lst (pda_cons (pd_tup (pda_cons (pd_str (by decide +kernel)) (pda_cons (pd_tup (pda_cons (pd_var (pv 2)) (pda_nil))) (pda_nil)))) (pda_cons (pd_tup (pda_cons (pd_str (by decide +kernel)) (pda_cons (pd_tup (pda_cons (pd_var (pv 3)) (pda_nil))) (pda_nil)))) (pda_cons (pd_tup (pda_cons (pd_str (by decide +kernel)) (pda_cons (pd_tup (pda_cons (pd_var (pv 2)) (pda_cons (pd_var (pv 3)) (pda_nil)))) (pda_nil)))) (pda_cons (pd_tup (pda_cons (pd_str (by decide +kernel)) (pda_cons (pd_tup (pda_cons (pd_var (pv 3)) (pda_nil))) (pda_nil)))) (pda_cons (pd_tup (pda_cons (pd_str (by decide +kernel)) (pda_cons (pd_tup (pda_cons (pd_var (pv 2)) (pda_cons (pd_var (pv 3)) (pda_nil)))) (pda_nil)))) (pda_nil))))))))))
    (pdss_nil))
    (pdss_cons (pds_asg (pd_var (pv 1)) (pdg_tup rfl (pdgs_cons (pdg_name (i := 2) sc_macro_gates.nd rfl (by first | exact Or.inl rfl | exact Or.inr rfl)) (pdgs_cons (pdg_name (i := 3) sc_macro_gates.nd rfl (by first | exact Or.inl rfl | exact Or.inr rfl)) (pdgs_cons (pdg_name (i := 4) sc_macro_gates.nd rfl (by first | exact Or.inl rfl | exact Or.inr rfl)) (pdgs_nil))))))
    (pdss_cons (pds_if (pdt_cmp (og_eq B.hu) (pd_var (pv 0)) (pd_str (by decide +kernel)) (by first | rfl | exact nobehind _ (by decide) (by decide)))
    (pdss_one (pds_ret (pd_call B.tk F_ccz_gates (B.room.mono (by decide)) rfl (S.glo 0) (S.keep 1) b_ccz_gates .nil (fun _ => .nil) (pda_cons (pd_var (pv 2)) (pda_cons (pd_var (pv 3)) (pda_cons (pd_var (pv 4)) (pda_nil)))))))
    (pdss_nil))
    (pdss_cons (pds_if (pdt_cmp (og_eq B.hu) (pd_var (pv 0)) (pd_str (by decide +kernel)) (by first | rfl | exact nobehind _ (by decide) (by decide)))
    (pdss_one (pds_ret (pd_call B.tk F_ccx_gates (B.room.mono (by decide)) rfl (S.glo 2) (S.keep 3) b_ccx_gates .nil (fun _ => .nil) (pda_cons (pd_var (pv 2)) (pda_cons (pd_var (pv 3)) (pda_cons (pd_var (pv 4)) (pda_nil)))))))
    (pdss_nil))
    (pdss_one (pds_ret (pd_op og_add (pd_op og_add (pd_lst (pda_cons (pd_tup (pda_cons (pd_str (by decide +kernel)) (pda_cons (pd_tup (pda_cons (pd_var (pv 4)) (pda_cons (pd_var (pv 3)) (pda_nil)))) (pda_nil)))) (pda_nil))) (pd_call B.tk F_ccx_gates (B.room.mono (by decide)) rfl (S.glo 2) (S.keep 3) b_ccx_gates .nil (fun _ => .nil) (pda_cons (pd_var (pv 2)) (pda_cons (pd_var (pv 3)) (pda_cons (pd_var (pv 4)) (pda_nil)))))) (pd_lst (pda_cons (pd_tup (pda_cons (pd_str (by decide +kernel)) (pda_cons (pd_tup (pda_cons (pd_var (pv 4)) (pda_cons (pd_var (pv 3)) (pda_nil)))) (pda_nil)))) (pda_nil)))))))))))
/-! ### _law_is_integer -/
def N__law_is_integer : List Str := ["_law_actual"]
theorem sc__law_is_integer : FnScope N__law_is_integer ["_law_actual"] (defScope (top 11)) := ⟨rfl, rfl, rfl, by decide +kernel, rfl, by decide +kernel, by decide +kernel⟩
def r__law_is_integer : DS :=
  sRet (rAnd (rIsB "int" (rVar 0)) (rNot (rIsB "bool" (rVar 0))))
def G__law_is_integer : List D → Out D := fnD 1 r__law_is_integer
theorem ok__law_is_integer (S : Says Fx K mg w h) : ∃ fd, Binds K fd ["_law_actual"] [] ∧ FnOk P w K mg base (L2.CX P w) 2 (He.ga K "_law_is_integer") fd ["_law_actual"] (spP K (Fx.T K) 1 G__law_is_integer) := by
  obtain ⟨fd, D⟩ := S.def_ 4 (d := d__law_is_integer)
  refine ⟨fd, D.bindsN (fun _ _ _ _ _ _ us hl => match us, hl with | [_], _ => rfl), fn_pureB (k := 1) D sc__law_is_integer rfl fun cdv A outer s H E B => ?_⟩
  exact pdss_one (pds_ret (pd_and (pd_isi rfl (S.free 45) (pd_var (pv 0)) (pe_bltn rfl (S.free 46) (by decide +kernel) rfl)) (pd_one (pd_not (pd_isi rfl (S.free 45) (pd_var (pv 0)) (pe_bltn rfl (S.free 47) (by decide +kernel) rfl))))))
/-! ### _law_cell -/
def N__law_cell : List Str := ["_law_script", "_law_k"]
theorem sc__law_cell : FnScope N__law_cell ["_law_script", "_law_k"] (defScope (top 12)) := ⟨rfl, rfl, rfl, by decide +kernel, rfl, by decide +kernel, by decide +kernel⟩
def r__law_cell : DS :=
  sSeq (sIf (rT (rOp (dI fun i j => some (.bl (decide (i < j)))) (rVar 1) (rB dLen (rCons (rVar 0) (rNil))))) (sRet (rOp dIxA (rVar 0) (rVar 1))) (sNext)) (sRet (rC (.int 0)))
def G__law_cell : List D → Out D := fnD 2 r__law_cell
theorem ok__law_cell (S : Says Fx K mg w h) : ∃ fd, Binds K fd ["_law_script", "_law_k"] [] ∧ FnOk P w K mg base (L2.CX P w) 2 (He.ga K "_law_cell") fd ["_law_script", "_law_k"] (spP K (Fx.T K) 2 G__law_cell) := by
  obtain ⟨fd, D⟩ := S.def_ 5 (d := d__law_cell)
  refine ⟨fd, D.bindsN (fun _ _ _ _ _ _ us hl => match us, hl with | [_, _], _ => rfl), fn_pureB (k := 1) D sc__law_cell rfl fun cdv A outer s H E B => ?_⟩
  exact pdss_cons (pds_if (pdt_cmp og_lt (pd_var (pv 1)) (pd_B cg_len rfl (S.free 42) (by decide +kernel) (pda_cons (pd_var (pv 0)) (pda_nil))) (by first | rfl | exact nobehind _ (by decide) (by decide)))
    (pdss_one (pds_ret (pd_ix (ig_ixA B.hu1) (pd_var (pv 0)) (pd_var (pv 1)) (fun _ _ => rfl))))
    (pdss_nil))
    (pdss_one (pds_ret (pd_int)))
/-! ### _law_turn -/
def N__law_turn : List Str := ["_law_x", "_law_steps", "_law_k"]
theorem sc__law_turn : FnScope N__law_turn ["_law_x", "_law_steps"] (defScope (top 13)) := ⟨rfl, rfl, rfl, by decide +kernel, rfl, by decide +kernel, by decide +kernel⟩
def r__law_turn : DS :=
  sSeq (sFor [2] (iR1 (rOp dMod (rB dToInt (rCons (rVar 1) (rNil))) (rC (.int 8)))) (gtName 2) (sSet 0 (rTup (rCons (rUn dNeg (rOp dIxA (rVar 0) (rC (.int 3)))) (rCons (rOp dIxA (rVar 0) (rC (.int 0))) (rCons (rOp dIxA (rVar 0) (rC (.int 1))) (rCons (rOp dIxA (rVar 0) (rC (.int 2))) (rNil)))))))) (sRet (rVar 0))
def G__law_turn : List D → Out D := fnD 3 r__law_turn
theorem ok__law_turn (S : Says Fx K mg w h) : ∃ fd, Binds K fd ["_law_x", "_law_steps"] [] ∧ FnOk P w K mg base (L2.CX P w) 2 (He.ga K "_law_turn") fd ["_law_x", "_law_steps"] (spP K (Fx.T K) 2 G__law_turn) := by
  obtain ⟨fd, D⟩ := S.def_ 6 (d := d__law_turn)
  refine ⟨fd, D.bindsN (fun _ _ _ _ _ _ us hl => match us, hl with | [_, _], _ => rfl), fn_pureB (k := 1) D sc__law_turn rfl fun cdv A outer s H E B => ?_⟩
  exact pdss_cons (pds_for [2] B.hp rfl (pdi_r1 rfl (S.free 48) (pd_op og_mod (pd_Ty cg_toInt rfl (S.free 46) (by decide +kernel) (pda_cons (pd_var (pv 1)) (pda_nil))) (pd_int))) (pdg_name (i := 2) sc__law_turn.nd rfl (by first | exact Or.inl rfl | exact Or.inr rfl))
    (pdss_one (pds_set (i := 0) sc__law_turn.nd rfl (by first | exact Or.inl rfl | exact Or.inr rfl) (pd_tup (pda_cons (pd_un ug_neg (pd_ix (ig_ixA B.hu1) (pd_var (pv 0)) (pd_int) (fun _ _ => rfl))) (pda_cons (pd_ix (ig_ixA B.hu1) (pd_var (pv 0)) (pd_int) (fun _ _ => rfl)) (pda_cons (pd_ix (ig_ixA B.hu1) (pd_var (pv 0)) (pd_int) (fun _ _ => rfl)) (pda_cons (pd_ix (ig_ixA B.hu1) (pd_var (pv 0)) (pd_int) (fun _ _ => rfl)) (pda_nil)))))) rfl)))
    (pdss_one (pds_ret (pd_var (pv 0))))
/-! ### _law_put -/
def N__law_put : List Str := ["_law_amps", "_law_index", "_law_x", "_law_old"]
theorem sc__law_put : FnScope N__law_put ["_law_amps", "_law_index", "_law_x"] (defScope (top 14)) := ⟨rfl, rfl, rfl, by decide +kernel, rfl, by decide +kernel, by decide +kernel⟩
def r__law_put : DS :=
  sSeq (sSet 3 (rThaw (rGet2 (rVar 0) (rVar 1) (rTup (rCons (rC (.int 0)) (rCons (rC (.int 0)) (rCons (rC (.int 0)) (rCons (rC (.int 0)) (rNil))))))))) (sPut 0 [] (rVar 1) (rTup (rCons (rOp dAdd (rOp dIxA (rVar 3) (rC (.int 0))) (rOp dIxA (rVar 2) (rC (.int 0)))) (rCons (rOp dAdd (rOp dIxA (rVar 3) (rC (.int 1))) (rOp dIxA (rVar 2) (rC (.int 1)))) (rCons (rOp dAdd (rOp dIxA (rVar 3) (rC (.int 2))) (rOp dIxA (rVar 2) (rC (.int 2)))) (rCons (rOp dAdd (rOp dIxA (rVar 3) (rC (.int 3))) (rOp dIxA (rVar 2) (rC (.int 3)))) (rNil)))))))
def G__law_put : Env → IOut := fnI 4 3 r__law_put
theorem ok__law_put (S : Says Fx K mg w h) : ∃ fd, Binds K fd ["_law_amps", "_law_index", "_law_x"] [] ∧ FnOk P w K mg base (L2.CX P w) 2 (He.ga K "_law_put") fd ["_law_amps", "_law_index", "_law_x"] (spI K (Fx.T K) 3 G__law_put) := by
  obtain ⟨fd, D⟩ := S.def_ 7 (d := d__law_put)
  refine ⟨fd, D.bindsN (fun _ _ _ _ _ _ us hl => match us, hl with | [_, _, _], _ => rfl), fn_ioB (k := 1) D sc__law_put rfl fun cdv A outer s H E B => ?_⟩
  exact pdss_cons (pds_set (i := 3) sc__law_put.nd rfl (by first | exact Or.inl rfl | exact Or.inr rfl) (pd_thaw (pd_get2 B.hu1 (pd_var (pv 0)) (pd_var (pv 1)) (pd_tup (pda_cons (pd_int) (pda_cons (pd_int) (pda_cons (pd_int) (pda_cons (pd_int) (pda_nil)))))) ⟨rfl, rfl, rfl, rfl⟩)) rfl)
    (pdss_one (pds_put B.hu1 (pdp_name (pv 0)) (pd_var (pv 1)) (pd_tup (pda_cons (pd_op og_add (pd_ix (ig_ixA B.hu1) (pd_var (pv 3)) (pd_int) (fun _ _ => rfl)) (pd_ix (ig_ixA B.hu1) (pd_var (pv 2)) (pd_int) (fun _ _ => rfl))) (pda_cons (pd_op og_add (pd_ix (ig_ixA B.hu1) (pd_var (pv 3)) (pd_int) (fun _ _ => rfl)) (pd_ix (ig_ixA B.hu1) (pd_var (pv 2)) (pd_int) (fun _ _ => rfl))) (pda_cons (pd_op og_add (pd_ix (ig_ixA B.hu1) (pd_var (pv 3)) (pd_int) (fun _ _ => rfl)) (pd_ix (ig_ixA B.hu1) (pd_var (pv 2)) (pd_int) (fun _ _ => rfl))) (pda_cons (pd_op og_add (pd_ix (ig_ixA B.hu1) (pd_var (pv 3)) (pd_int) (fun _ _ => rfl)) (pd_ix (ig_ixA B.hu1) (pd_var (pv 2)) (pd_int) (fun _ _ => rfl))) (pda_nil))))))))
/-! ### _law_move -/
def N__law_move : List Str := ["_law_index", "_law_gate", "_law_kind", "_law_one", "_law_steps", "_law_two", "_law_change"]
theorem sc__law_move : FnScope N__law_move ["_law_index", "_law_gate"] (defScope (top 15)) := ⟨rfl, rfl, rfl, by decide +kernel, rfl, by decide +kernel, by decide +kernel⟩
def r__law_move : DS :=
  sSeq (sSet 2 (rOp dIxA (rVar 1) (rC (.int 0)))) (sSeq (sIf (rT (rOp dEq (rVar 2) (rC (.str [87])))) (sRet (rTup (rCons (rVar 0) (rCons (rC (.int 1)) (rNil))))) (sNext)) (sSeq (sSet 3 (rOp dAnd (rOp dShr (rVar 0) (rOp dIxA (rOp dIxA (rVar 1) (rC (.int 1))) (rC (.int 0)))) (rC (.int 1)))) (sSeq (sIf (rT (rOp dEq (rVar 2) (rC (.str [88])))) (sRet (rTup (rCons (rOp dXor (rVar 0) (rOp dShl (rC (.int 1)) (rOp dIxA (rOp dIxA (rVar 1) (rC (.int 1))) (rC (.int 0))))) (rCons (rC (.int 0)) (rNil))))) (sNext)) (sSeq (sIf (rT (rOp dEq (rVar 2) (rC (.str [89])))) (sRet (rTup (rCons (rOp dXor (rVar 0) (rOp dShl (rC (.int 1)) (rOp dIxA (rOp dIxA (rVar 1) (rC (.int 1))) (rC (.int 0))))) (rCons (rOp dAdd (rC (.int 2)) (rOp dMul (rC (.int 4)) (rVar 3))) (rNil))))) (sNext)) (sSeq (sIf (rT (rOp dInA (rVar 2) (rTup (rCons (rC (.str [90])) (rCons (rC (.str [83])) (rCons (rC (.str [83, 68, 71])) (rCons (rC (.str [84])) (rCons (rC (.str [84, 68, 71])) (rNil))))))))) (sSeq (sSet 4 (rO (oDisp ((rC (.str [90]), rC (.int 4)) :: (rC (.str [83]), rC (.int 2)) :: (rC (.str [83, 68, 71]), rC (.int 6)) :: (rC (.str [84]), rC (.int 1)) :: (rC (.str [84, 68, 71]), rC (.int 7)) :: [])))) (sRet (rTup (rCons (rVar 0) (rCons (rOp dMul (rOp dIxA (rVar 4) (rVar 2)) (rVar 3)) (rNil)))))) (sNext)) (sSeq (sSet 5 (rOp dAnd (rOp dShr (rVar 0) (rOp dIxA (rOp dIxA (rVar 1) (rC (.int 1))) (rC (.int 1)))) (rC (.int 1)))) (sSeq (sIf (rT (rOp dEq (rVar 2) (rC (.str [67, 88])))) (sRet (rTup (rCons (rOp dXor (rVar 0) (rOp dShl (rVar 3) (rOp dIxA (rOp dIxA (rVar 1) (rC (.int 1))) (rC (.int 1))))) (rCons (rC (.int 0)) (rNil))))) (sNext)) (sSeq (sIf (rT (rOp dEq (rVar 2) (rC (.str [67, 90])))) (sRet (rTup (rCons (rVar 0) (rCons (rOp dMul (rOp dMul (rC (.int 4)) (rVar 3)) (rVar 5)) (rNil))))) (sNext)) (sSeq (sSet 6 (rOp dXor (rVar 3) (rVar 5))) (sRet (rTup (rCons (rOp dXor (rOp dXor (rVar 0) (rOp dShl (rVar 6) (rOp dIxA (rOp dIxA (rVar 1) (rC (.int 1))) (rC (.int 0))))) (rOp dShl (rVar 6) (rOp dIxA (rOp dIxA (rVar 1) (rC (.int 1))) (rC (.int 1))))) (rCons (rC (.int 0)) (rNil))))))))))))))
def G__law_move : List D → Out D := fnD 7 r__law_move
theorem ok__law_move (S : Says Fx K mg w h) : ∃ fd, Binds K fd ["_law_index", "_law_gate"] [] ∧ FnOk P w K mg base (L2.CX P w) 2 (He.ga K "_law_move") fd ["_law_index", "_law_gate"] (spP K (Fx.T K) 2 G__law_move) := by
  obtain ⟨fd, D⟩ := S.def_ 8 (d := d__law_move)
  refine ⟨fd, D.bindsN (fun _ _ _ _ _ _ us hl => match us, hl with | [_, _], _ => rfl), fn_pureB (k := 1) D sc__law_move rfl fun cdv A outer s H E B => ?_⟩
  exact pdss_cons (pds_set (i := 2) sc__law_move.nd rfl (by first | exact Or.inl rfl | exact Or.inr rfl) (pd_ix (ig_ixA B.hu1) (pd_var (pv 1)) (pd_int) (fun _ _ => rfl)) rfl)
    (pdss_cons (pds_if (pdt_cmp (og_eq B.hu) (pd_var (pv 2)) (pd_str (by decide +kernel)) (by first | rfl | exact nobehind _ (by decide) (by decide)))
    (pdss_one (pds_ret (pd_tup (pda_cons (pd_var (pv 0)) (pda_cons (pd_int) (pda_nil))))))
    (pdss_nil))
    (pdss_cons (pds_set (i := 3) sc__law_move.nd rfl (by first | exact Or.inl rfl | exact Or.inr rfl) (pd_op og_and (pd_op og_shr (pd_var (pv 0)) (pd_ix (ig_ixA B.hu1) (pd_ix (ig_ixA B.hu1) (pd_var (pv 1)) (pd_int) (fun _ _ => rfl)) (pd_int) (fun _ _ => rfl))) (pd_int)) rfl)
    (pdss_cons (pds_if (pdt_cmp (og_eq B.hu) (pd_var (pv 2)) (pd_str (by decide +kernel)) (by first | rfl | exact nobehind _ (by decide) (by decide)))
    (pdss_one (pds_ret (pd_tup (pda_cons (pd_op og_xor (pd_var (pv 0)) (pd_op og_shl (pd_int) (pd_ix (ig_ixA B.hu1) (pd_ix (ig_ixA B.hu1) (pd_var (pv 1)) (pd_int) (fun _ _ => rfl)) (pd_int) (fun _ _ => rfl)))) (pda_cons (pd_int) (pda_nil))))))
    (pdss_nil))
    (pdss_cons (pds_if (pdt_cmp (og_eq B.hu) (pd_var (pv 2)) (pd_str (by decide +kernel)) (by first | rfl | exact nobehind _ (by decide) (by decide)))
    (pdss_one (pds_ret (pd_tup (pda_cons (pd_op og_xor (pd_var (pv 0)) (pd_op og_shl (pd_int) (pd_ix (ig_ixA B.hu1) (pd_ix (ig_ixA B.hu1) (pd_var (pv 1)) (pd_int) (fun _ _ => rfl)) (pd_int) (fun _ _ => rfl)))) (pda_cons (pd_op og_add (pd_int) (pd_op og_mul (pd_int) (pd_var (pv 3)))) (pda_nil))))))
    (pdss_nil))
    (pdss_cons (pds_if (pdt_cmp (og_inA B.hu1) (pd_var (pv 2)) (pd_tup (pda_cons (pd_str (by decide +kernel)) (pda_cons (pd_str (by decide +kernel)) (pda_cons (pd_str (by decide +kernel)) (pda_cons (pd_str (by decide +kernel)) (pda_cons (pd_str (by decide +kernel)) (pda_nil))))))) (by first | rfl | exact nobehind _ (by decide) (by decide)))
    (pdss_cons (pds_set (i := 4) sc__law_move.nd rfl (by first | exact Or.inl rfl | exact Or.inr rfl) (pd_o (pdo_disp (pdps_cons (pd_str (by decide +kernel)) (pd_int) (pdps_cons (pd_str (by decide +kernel)) (pd_int) (pdps_cons (pd_str (by decide +kernel)) (pd_int) (pdps_cons (pd_str (by decide +kernel)) (pd_int) (pdps_cons (pd_str (by decide +kernel)) (pd_int) (pdps_nil)))))))) rfl)
    (pdss_one (pds_ret (pd_tup (pda_cons (pd_var (pv 0)) (pda_cons (pd_op og_mul (pd_ix (ig_ixA B.hu1) (pd_var (pv 4)) (pd_var (pv 2)) (fun _ _ => rfl)) (pd_var (pv 3))) (pda_nil)))))))
    (pdss_nil))
    (pdss_cons (pds_set (i := 5) sc__law_move.nd rfl (by first | exact Or.inl rfl | exact Or.inr rfl) (pd_op og_and (pd_op og_shr (pd_var (pv 0)) (pd_ix (ig_ixA B.hu1) (pd_ix (ig_ixA B.hu1) (pd_var (pv 1)) (pd_int) (fun _ _ => rfl)) (pd_int) (fun _ _ => rfl))) (pd_int)) rfl)
    (pdss_cons (pds_if (pdt_cmp (og_eq B.hu) (pd_var (pv 2)) (pd_str (by decide +kernel)) (by first | rfl | exact nobehind _ (by decide) (by decide)))
    (pdss_one (pds_ret (pd_tup (pda_cons (pd_op og_xor (pd_var (pv 0)) (pd_op og_shl (pd_var (pv 3)) (pd_ix (ig_ixA B.hu1) (pd_ix (ig_ixA B.hu1) (pd_var (pv 1)) (pd_int) (fun _ _ => rfl)) (pd_int) (fun _ _ => rfl)))) (pda_cons (pd_int) (pda_nil))))))
    (pdss_nil))
    (pdss_cons (pds_if (pdt_cmp (og_eq B.hu) (pd_var (pv 2)) (pd_str (by decide +kernel)) (by first | rfl | exact nobehind _ (by decide) (by decide)))
    (pdss_one (pds_ret (pd_tup (pda_cons (pd_var (pv 0)) (pda_cons (pd_op og_mul (pd_op og_mul (pd_int) (pd_var (pv 3))) (pd_var (pv 5))) (pda_nil))))))
    (pdss_nil))
    (pdss_cons (pds_set (i := 6) sc__law_move.nd rfl (by first | exact Or.inl rfl | exact Or.inr rfl) (pd_op og_xor (pd_var (pv 3)) (pd_var (pv 5))) rfl)
    (pdss_one (pds_ret (pd_tup (pda_cons (pd_op og_xor (pd_op og_xor (pd_var (pv 0)) (pd_op og_shl (pd_var (pv 6)) (pd_ix (ig_ixA B.hu1) (pd_ix (ig_ixA B.hu1) (pd_var (pv 1)) (pd_int) (fun _ _ => rfl)) (pd_int) (fun _ _ => rfl)))) (pd_op og_shl (pd_var (pv 6)) (pd_ix (ig_ixA B.hu1) (pd_ix (ig_ixA B.hu1) (pd_var (pv 1)) (pd_int) (fun _ _ => rfl)) (pd_int) (fun _ _ => rfl)))) (pda_cons (pd_int) (pda_nil)))))))))))))))
/-! ### _law_after -/
def N__law_after : List Str := ["_law_amps", "_law_gate", "_law_after_here", "_law_index", "_law_x", "_law_bit", "_law_low", "_law_moved", "_law_kept"]
theorem sc__law_after : FnScope N__law_after ["_law_amps", "_law_gate"] (defScope (top 16)) := ⟨rfl, rfl, rfl, by decide +kernel, rfl, by decide +kernel, by decide +kernel⟩
def r__law_after : DS :=
  sSeq (sSetO 2 (oDic0)) (sSeq (forK [3, 4, 5, 6, 7] 0 (gtName 3) (sSeq (sSet 4 (rOp dIxA (rVar 0) (rVar 3))) (sIf (rT (rOp dEq (rOp dIxA (rVar 1) (rC (.int 0))) (rC (.str [72])))) (sSeq (sSet 5 (rOp dAnd (rOp dShr (rVar 3) (rOp dIxA (rOp dIxA (rVar 1) (rC (.int 1))) (rC (.int 0)))) (rC (.int 1)))) (sSeq (sSet 6 (rOp (dI fun i j => some (.int (i - j))) (rVar 3) (rOp dShl (rVar 5) (rOp dIxA (rOp dIxA (rVar 1) (rC (.int 1))) (rC (.int 0)))))) (sSeq (sDropC (rCI 3 G__law_put [] 2 [] (rCons (rVar 6) (rCons (rVar 4) (rNil))))) (sDropC (rCI 3 G__law_put [] 2 [] (rCons (rOp dAdd (rVar 6) (rOp dShl (rC (.int 1)) (rOp dIxA (rOp dIxA (rVar 1) (rC (.int 1))) (rC (.int 0))))) (rCons (rCall 2 G__law_turn [] (rCons (rVar 4) (rCons (rOp dMul (rC (.int 4)) (rVar 5)) (rNil)))) (rNil)))))))) (sSeq (sSet 7 (rCall 2 G__law_move [] (rCons (rVar 3) (rCons (rVar 1) (rNil))))) (sDropC (rCI 3 G__law_put [] 2 [] (rCons (rOp dIxA (rVar 7) (rC (.int 0))) (rCons (rCall 2 G__law_turn [] (rCons (rVar 4) (rCons (rOp dIxA (rVar 7) (rC (.int 1))) (rNil)))) (rNil))))))))) (sSeq (sSetO 8 (oDic0)) (sSeq (sFrz [2] (forK [3] 2 (gtName 3) (sIf (rT (rOp dNe (rOp dIxA (rVar 2) (rVar 3)) (rTup (rCons (rC (.int 0)) (rCons (rC (.int 0)) (rCons (rC (.int 0)) (rCons (rC (.int 0)) (rNil)))))))) (sPut 8 [] (rVar 3) (rOp dIxA (rVar 2) (rVar 3))) (sNext)))) (sFrz [8] (sRet (rVar 8))))))
def G__law_after : List D → Out D := fnD 9 r__law_after
theorem ok__law_after (S : Says Fx K mg w h) : ∃ fd, Binds K fd ["_law_amps", "_law_gate"] [] ∧ FnOk P w K mg base (L2.CX P w) 3 (He.ga K "_law_after") fd ["_law_amps", "_law_gate"] (spP K (Fx.T K) 2 G__law_after) := by
  obtain ⟨fd__law_put, b__law_put, F__law_put⟩ := ok__law_put (P := P) (base := base) S
  obtain ⟨fd__law_turn, b__law_turn, F__law_turn⟩ := ok__law_turn (P := P) (base := base) S
  obtain ⟨fd__law_move, b__law_move, F__law_move⟩ := ok__law_move (P := P) (base := base) S
  obtain ⟨fd, D⟩ := S.def_ 9 (d := d__law_after)
  refine ⟨fd, D.bindsN (fun _ _ _ _ _ _ us hl => match us, hl with | [_, _], _ => rfl), fn_pureB (k := 2) D sc__law_after rfl fun cdv A outer s H E B => ?_⟩
  exact pdss_cons (pds_setO (i := 2) sc__law_after.nd rfl (by first | exact Or.inl rfl | exact Or.inr rfl) (pdo_dic0) rfl)
    (pdss_cons (pds_forK [3, 4, 5, 6, 7] B.hp rfl (pv 0) (pdg_name (i := 3) sc__law_after.nd rfl (by first | exact Or.inl rfl | exact Or.inr rfl))
    (pdss_cons (pds_set (i := 4) sc__law_after.nd rfl (by first | exact Or.inl rfl | exact Or.inr rfl) (pd_ix (ig_ixA B.hu1) (pd_var (pv 0)) (pd_var (pv 3)) (fun _ _ => rfl)) rfl)
    (pdss_one (pds_if (pdt_cmp (og_eq B.hu) (pd_ix (ig_ixA B.hu1) (pd_var (pv 1)) (pd_int) (fun _ _ => rfl)) (pd_str (by decide +kernel)) (by first | rfl | exact nobehind _ (by decide) (by decide)))
    (pdss_cons (pds_set (i := 5) sc__law_after.nd rfl (by first | exact Or.inl rfl | exact Or.inr rfl) (pd_op og_and (pd_op og_shr (pd_var (pv 3)) (pd_ix (ig_ixA B.hu1) (pd_ix (ig_ixA B.hu1) (pd_var (pv 1)) (pd_int) (fun _ _ => rfl)) (pd_int) (fun _ _ => rfl))) (pd_int)) rfl)
    (pdss_cons (pds_set (i := 6) sc__law_after.nd rfl (by first | exact Or.inl rfl | exact Or.inr rfl) (pd_op og_sub (pd_var (pv 3)) (pd_op og_shl (pd_var (pv 5)) (pd_ix (ig_ixA B.hu1) (pd_ix (ig_ixA B.hu1) (pd_var (pv 1)) (pd_int) (fun _ _ => rfl)) (pd_int) (fun _ _ => rfl)))) rfl)
    (pdss_cons (pds_dropC (pdc_call B.tk F__law_put (B.room.mono (by decide)) rfl (S.glo 14) (S.keep 15) b__law_put .nil (fun _ => .nil) (pdp_name (pv 2)) (pda_cons (pd_var (pv 6)) (pda_cons (pd_var (pv 4)) (pda_nil)))))
    (pdss_one (pds_dropC (pdc_call B.tk F__law_put (B.room.mono (by decide)) rfl (S.glo 14) (S.keep 15) b__law_put .nil (fun _ => .nil) (pdp_name (pv 2)) (pda_cons (pd_op og_add (pd_var (pv 6)) (pd_op og_shl (pd_int) (pd_ix (ig_ixA B.hu1) (pd_ix (ig_ixA B.hu1) (pd_var (pv 1)) (pd_int) (fun _ _ => rfl)) (pd_int) (fun _ _ => rfl)))) (pda_cons (pd_call B.tk F__law_turn (B.room.mono (by decide)) rfl (S.glo 12) (S.keep 13) b__law_turn .nil (fun _ => .nil) (pda_cons (pd_var (pv 4)) (pda_cons (pd_op og_mul (pd_int) (pd_var (pv 5))) (pda_nil)))) (pda_nil)))))))))
    (pdss_cons (pds_set (i := 7) sc__law_after.nd rfl (by first | exact Or.inl rfl | exact Or.inr rfl) (pd_call B.tk F__law_move (B.room.mono (by decide)) rfl (S.glo 16) (S.keep 17) b__law_move .nil (fun _ => .nil) (pda_cons (pd_var (pv 3)) (pda_cons (pd_var (pv 1)) (pda_nil)))) rfl)
    (pdss_one (pds_dropC (pdc_call B.tk F__law_put (B.room.mono (by decide)) rfl (S.glo 14) (S.keep 15) b__law_put .nil (fun _ => .nil) (pdp_name (pv 2)) (pda_cons (pd_ix (ig_ixA B.hu1) (pd_var (pv 7)) (pd_int) (fun _ _ => rfl)) (pda_cons (pd_call B.tk F__law_turn (B.room.mono (by decide)) rfl (S.glo 12) (S.keep 13) b__law_turn .nil (fun _ => .nil) (pda_cons (pd_var (pv 4)) (pda_cons (pd_ix (ig_ixA B.hu1) (pd_var (pv 7)) (pd_int) (fun _ _ => rfl)) (pda_nil)))) (pda_nil)))))))))))
    (pdss_cons (pds_setO (i := 8) sc__law_after.nd rfl (by first | exact Or.inl rfl | exact Or.inr rfl) (pdo_dic0) rfl)
    (pdss_cons (pds_frz [2] (pds_forK [3] B.hp rfl (pv 2) (pdg_name (i := 3) sc__law_after.nd rfl (by first | exact Or.inl rfl | exact Or.inr rfl))
    (pdss_one (pds_if (pdt_cmp (og_ne B.hu) (pd_ix (ig_ixA B.hu1) (pd_var (pv 2)) (pd_var (pv 3)) (fun _ _ => rfl)) (pd_tup (pda_cons (pd_int) (pda_cons (pd_int) (pda_cons (pd_int) (pda_cons (pd_int) (pda_nil)))))) (by first | rfl | exact nobehind _ (by decide) (by decide)))
    (pdss_one (pds_put B.hu1 (pdp_name (pv 8)) (pd_var (pv 3)) (pd_ix (ig_ixA B.hu1) (pd_var (pv 2)) (pd_var (pv 3)) (fun _ _ => rfl))))
    (pdss_nil)))))
    (pdss_one (pds_frz [8] (pds_ret (pd_var (pv 8))))))))
/-! ### _law_sim -/
def N__law_sim : List Str := ["_law_gates", "_law_index", "_law_amps", "_law_roots", "_law_gate"]
theorem sc__law_sim : FnScope N__law_sim ["_law_gates", "_law_index"] (defScope (top 17)) := ⟨rfl, rfl, rfl, by decide +kernel, rfl, by decide +kernel, by decide +kernel⟩
def r__law_sim : DS :=
  sSeq (sSet 2 (rO (oDisp ((rVar 1, rTup (rCons (rC (.int 1)) (rCons (rC (.int 0)) (rCons (rC (.int 0)) (rCons (rC (.int 0)) (rNil)))))) :: [])))) (sSeq (sSet 3 (rC (.int 0))) (sSeq (sFor [4] (iItems (rVar 0)) (gtName 4) (sSeq (sSet 2 (rCall 2 G__law_after [] (rCons (rVar 2) (rCons (rVar 4) (rNil))))) (sSet 3 (rOp dAdd (rVar 3) (rB dToInt (rCons (rOp dEq (rOp dIxA (rVar 4) (rC (.int 0))) (rC (.str [72]))) (rNil))))))) (sRet (rTup (rCons (rVar 2) (rCons (rVar 3) (rNil)))))))
def G__law_sim : List D → Out D := fnD 5 r__law_sim
theorem ok__law_sim (S : Says Fx K mg w h) : ∃ fd, Binds K fd ["_law_gates", "_law_index"] [] ∧ FnOk P w K mg base (L2.CX P w) 4 (He.ga K "_law_sim") fd ["_law_gates", "_law_index"] (spP K (Fx.T K) 2 G__law_sim) := by
  obtain ⟨fd__law_after, b__law_after, F__law_after⟩ := ok__law_after (P := P) (base := base) S
  obtain ⟨fd, D⟩ := S.def_ 10 (d := d__law_sim)
  refine ⟨fd, D.bindsN (fun _ _ _ _ _ _ us hl => match us, hl with | [_, _], _ => rfl), fn_pureB (k := 3) D sc__law_sim rfl fun cdv A outer s H E B => ?_⟩
  exact pdss_cons (pds_set (i := 2) sc__law_sim.nd rfl (by first | exact Or.inl rfl | exact Or.inr rfl) (pd_o (pdo_disp (pdps_cons (pd_var (pv 1)) (pd_tup (pda_cons (pd_int) (pda_cons (pd_int) (pda_cons (pd_int) (pda_cons (pd_int) (pda_nil)))))) (pdps_nil)))) rfl)
    (pdss_cons (pds_set (i := 3) sc__law_sim.nd rfl (by first | exact Or.inl rfl | exact Or.inr rfl) (pd_int) rfl)
    (pdss_cons (pds_for [4] B.hp rfl (pdi_items (pd_var (pv 0))) (pdg_name (i := 4) sc__law_sim.nd rfl (by first | exact Or.inl rfl | exact Or.inr rfl))
    (pdss_cons (pds_set (i := 2) sc__law_sim.nd rfl (by first | exact Or.inl rfl | exact Or.inr rfl) (pd_call B.tk F__law_after (B.room.mono (by decide)) rfl (S.glo 18) (S.keep 19) b__law_after .nil (fun _ => .nil) (pda_cons (pd_var (pv 2)) (pda_cons (pd_var (pv 4)) (pda_nil)))) rfl)
    (pdss_one (pds_set (i := 3) sc__law_sim.nd rfl (by first | exact Or.inl rfl | exact Or.inr rfl) (pd_op og_add (pd_var (pv 3)) (pd_Ty cg_toInt rfl (S.free 46) (by decide +kernel) (pda_cons (pd_cmp (og_eq B.hu) (pd_ix (ig_ixA B.hu1) (pd_var (pv 4)) (pd_int) (fun _ _ => rfl)) (pd_str (by decide +kernel)) (by first | rfl | exact nobehind _ (by decide) (by decide))) (pda_nil)))) rfl))))
    (pdss_one (pds_ret (pd_tup (pda_cons (pd_var (pv 2)) (pda_cons (pd_var (pv 3)) (pda_nil))))))))
/-! ### _law_root -/
def N__law_root : List Str := ["_law_amps", "_law_times", "_law_k", "_law_more", "_law_index", "_law_x"]
theorem sc__law_root : FnScope N__law_root ["_law_amps", "_law_times"] (defScope (top 18)) := ⟨rfl, rfl, rfl, by decide +kernel, rfl, by decide +kernel, by decide +kernel⟩
def r__law_root : DS :=
  sSeq (sFor [2, 3, 4, 5] (iR1 (rVar 1)) (gtName 2) (sSeq (sSetO 3 (oDic0)) (sSeq (forK [4, 5] 0 (gtName 4) (sSeq (sSet 5 (rOp dIxA (rVar 0) (rVar 4))) (sPut 3 [] (rVar 4) (rTup (rCons (rOp (dI fun i j => some (.int (i - j))) (rOp dIxA (rVar 5) (rC (.int 1))) (rOp dIxA (rVar 5) (rC (.int 3)))) (rCons (rOp dAdd (rOp dIxA (rVar 5) (rC (.int 0))) (rOp dIxA (rVar 5) (rC (.int 2)))) (rCons (rOp dAdd (rOp dIxA (rVar 5) (rC (.int 1))) (rOp dIxA (rVar 5) (rC (.int 3)))) (rCons (rOp (dI fun i j => some (.int (i - j))) (rOp dIxA (rVar 5) (rC (.int 2))) (rOp dIxA (rVar 5) (rC (.int 0)))) (rNil))))))))) (sFrz [3] (sSet 0 (rVar 3)))))) (sRet (rVar 0))
def G__law_root : List D → Out D := fnD 6 r__law_root
theorem ok__law_root (S : Says Fx K mg w h) : ∃ fd, Binds K fd ["_law_amps", "_law_times"] [] ∧ FnOk P w K mg base (L2.CX P w) 2 (He.ga K "_law_root") fd ["_law_amps", "_law_times"] (spP K (Fx.T K) 2 G__law_root) := by
  obtain ⟨fd, D⟩ := S.def_ 11 (d := d__law_root)
  refine ⟨fd, D.bindsN (fun _ _ _ _ _ _ us hl => match us, hl with | [_, _], _ => rfl), fn_pureB (k := 1) D sc__law_root rfl fun cdv A outer s H E B => ?_⟩
  exact pdss_cons (pds_for [2, 3, 4, 5] B.hp rfl (pdi_r1 rfl (S.free 48) (pd_var (pv 1))) (pdg_name (i := 2) sc__law_root.nd rfl (by first | exact Or.inl rfl | exact Or.inr rfl))
    (pdss_cons (pds_setO (i := 3) sc__law_root.nd rfl (by first | exact Or.inl rfl | exact Or.inr rfl) (pdo_dic0) rfl)
    (pdss_cons (pds_forK [4, 5] B.hp rfl (pv 0) (pdg_name (i := 4) sc__law_root.nd rfl (by first | exact Or.inl rfl | exact Or.inr rfl))
    (pdss_cons (pds_set (i := 5) sc__law_root.nd rfl (by first | exact Or.inl rfl | exact Or.inr rfl) (pd_ix (ig_ixA B.hu1) (pd_var (pv 0)) (pd_var (pv 4)) (fun _ _ => rfl)) rfl)
    (pdss_one (pds_put B.hu1 (pdp_name (pv 3)) (pd_var (pv 4)) (pd_tup (pda_cons (pd_op og_sub (pd_ix (ig_ixA B.hu1) (pd_var (pv 5)) (pd_int) (fun _ _ => rfl)) (pd_ix (ig_ixA B.hu1) (pd_var (pv 5)) (pd_int) (fun _ _ => rfl))) (pda_cons (pd_op og_add (pd_ix (ig_ixA B.hu1) (pd_var (pv 5)) (pd_int) (fun _ _ => rfl)) (pd_ix (ig_ixA B.hu1) (pd_var (pv 5)) (pd_int) (fun _ _ => rfl))) (pda_cons (pd_op og_add (pd_ix (ig_ixA B.hu1) (pd_var (pv 5)) (pd_int) (fun _ _ => rfl)) (pd_ix (ig_ixA B.hu1) (pd_var (pv 5)) (pd_int) (fun _ _ => rfl))) (pda_cons (pd_op og_sub (pd_ix (ig_ixA B.hu1) (pd_var (pv 5)) (pd_int) (fun _ _ => rfl)) (pd_ix (ig_ixA B.hu1) (pd_var (pv 5)) (pd_int) (fun _ _ => rfl))) (pda_nil))))))))))
    (pdss_one (pds_frz [3] (pds_set (i := 0) sc__law_root.nd rfl (by first | exact Or.inl rfl | exact Or.inr rfl) (pd_var (pv 3)) rfl))))))
    (pdss_one (pds_ret (pd_var (pv 0))))
/-! ### _law_same -/
def N__law_same : List Str := ["_law_first", "_law_second", "_law_turns", "_law_one", "_law_two", "_law_index"]
theorem sc__law_same : FnScope N__law_same ["_law_first", "_law_second", "_law_turns"] (defScope (top 19)) := ⟨rfl, rfl, rfl, by decide +kernel, rfl, by decide +kernel, by decide +kernel⟩
def r__law_same : DS :=
  sSeq (sSet 3 (rCall 2 G__law_root [] (rCons (rOp dIxA (rVar 0) (rC (.int 0))) (rCons (rB dMax2 (rCons (rC (.int 0)) (rCons (rOp (dI fun i j => some (.int (i - j))) (rOp dIxA (rVar 1) (rC (.int 1))) (rOp dIxA (rVar 0) (rC (.int 1)))) (rNil)))) (rNil))))) (sSeq (sSet 4 (rCall 2 G__law_root [] (rCons (rOp dIxA (rVar 1) (rC (.int 0))) (rCons (rB dMax2 (rCons (rC (.int 0)) (rCons (rOp (dI fun i j => some (.int (i - j))) (rOp dIxA (rVar 0) (rC (.int 1))) (rOp dIxA (rVar 1) (rC (.int 1)))) (rNil)))) (rNil))))) (sSeq (sFor [5] (iItems (rOp dAdd (rB dListA (rCons (rVar 3) (rNil))) (rB dListA (rCons (rVar 4) (rNil))))) (gtName 5) (sIf (rT (rOp dNe (rGet2 (rVar 3) (rVar 5) (rTup (rCons (rC (.int 0)) (rCons (rC (.int 0)) (rCons (rC (.int 0)) (rCons (rC (.int 0)) (rNil))))))) (rCall 2 G__law_turn [] (rCons (rGet2 (rVar 4) (rVar 5) (rTup (rCons (rC (.int 0)) (rCons (rC (.int 0)) (rCons (rC (.int 0)) (rCons (rC (.int 0)) (rNil))))))) (rCons (rVar 2) (rNil)))))) (sRet (rC (.bl false))) (sNext))) (sRet (rC (.bl true)))))
def G__law_same : List D → Out D := fnD 6 r__law_same
theorem ok__law_same (S : Says Fx K mg w h) : ∃ fd, Binds K fd ["_law_first", "_law_second", "_law_turns"] [] ∧ FnOk P w K mg base (L2.CX P w) 3 (He.ga K "_law_same") fd ["_law_first", "_law_second", "_law_turns"] (spP K (Fx.T K) 3 G__law_same) := by
  obtain ⟨fd__law_root, b__law_root, F__law_root⟩ := ok__law_root (P := P) (base := base) S
  obtain ⟨fd__law_turn, b__law_turn, F__law_turn⟩ := ok__law_turn (P := P) (base := base) S
  obtain ⟨fd, D⟩ := S.def_ 12 (d := d__law_same)
  refine ⟨fd, D.bindsN (fun _ _ _ _ _ _ us hl => match us, hl with | [_, _, _], _ => rfl), fn_pureB (k := 2) D sc__law_same rfl fun cdv A outer s H E B => ?_⟩
  exact pdss_cons (pds_set (i := 3) sc__law_same.nd rfl (by first | exact Or.inl rfl | exact Or.inr rfl) (pd_call B.tk F__law_root (B.room.mono (by decide)) rfl (S.glo 22) (S.keep 23) b__law_root .nil (fun _ => .nil) (pda_cons (pd_ix (ig_ixA B.hu1) (pd_var (pv 0)) (pd_int) (fun _ _ => rfl)) (pda_cons (pd_B (cg_max2 rfl) rfl (S.free 49) (by decide +kernel) (pda_cons (pd_int) (pda_cons (pd_op og_sub (pd_ix (ig_ixA B.hu1) (pd_var (pv 1)) (pd_int) (fun _ _ => rfl)) (pd_ix (ig_ixA B.hu1) (pd_var (pv 0)) (pd_int) (fun _ _ => rfl))) (pda_nil)))) (pda_nil)))) rfl)
    (pdss_cons (pds_set (i := 4) sc__law_same.nd rfl (by first | exact Or.inl rfl | exact Or.inr rfl) (pd_call B.tk F__law_root (B.room.mono (by decide)) rfl (S.glo 22) (S.keep 23) b__law_root .nil (fun _ => .nil) (pda_cons (pd_ix (ig_ixA B.hu1) (pd_var (pv 1)) (pd_int) (fun _ _ => rfl)) (pda_cons (pd_B (cg_max2 rfl) rfl (S.free 49) (by decide +kernel) (pda_cons (pd_int) (pda_cons (pd_op og_sub (pd_ix (ig_ixA B.hu1) (pd_var (pv 0)) (pd_int) (fun _ _ => rfl)) (pd_ix (ig_ixA B.hu1) (pd_var (pv 1)) (pd_int) (fun _ _ => rfl))) (pda_nil)))) (pda_nil)))) rfl)
    (pdss_cons (pds_for [5] B.hp rfl (pdi_items (pd_op og_add (pd_Ty (cg_listA rfl) rfl (S.free 50) (by decide +kernel) (pda_cons (pd_var (pv 3)) (pda_nil))) (pd_Ty (cg_listA rfl) rfl (S.free 50) (by decide +kernel) (pda_cons (pd_var (pv 4)) (pda_nil))))) (pdg_name (i := 5) sc__law_same.nd rfl (by first | exact Or.inl rfl | exact Or.inr rfl))
    (pdss_one (pds_if (pdt_cmp (og_ne B.hu) (pd_get2 B.hu1 (pd_var (pv 3)) (pd_var (pv 5)) (pd_tup (pda_cons (pd_int) (pda_cons (pd_int) (pda_cons (pd_int) (pda_cons (pd_int) (pda_nil)))))) ⟨rfl, rfl, rfl, rfl⟩) (pd_call B.tk F__law_turn (B.room.mono (by decide)) rfl (S.glo 12) (S.keep 13) b__law_turn .nil (fun _ => .nil) (pda_cons (pd_get2 B.hu1 (pd_var (pv 4)) (pd_var (pv 5)) (pd_tup (pda_cons (pd_int) (pda_cons (pd_int) (pda_cons (pd_int) (pda_cons (pd_int) (pda_nil)))))) ⟨rfl, rfl, rfl, rfl⟩) (pda_cons (pd_var (pv 2)) (pda_nil)))) (by first | rfl | exact nobehind _ (by decide) (by decide)))
    (pdss_one (pds_ret (pd_bl)))
    (pdss_nil))))
    (pdss_one (pds_ret (pd_bl)))))
/-! ### _law_gate_fits -/
def N__law_gate_fits : List Str := ["_law_gate", "_law_width", "_law_sizes", "_law_qubit"]
theorem sc__law_gate_fits : FnScope N__law_gate_fits ["_law_gate", "_law_width"] (defScope (top 20)) := ⟨rfl, rfl, rfl, by decide +kernel, rfl, by decide +kernel, by decide +kernel⟩
def r__law_gate_fits : DS :=
  sSeq (sSet 2 (rO (oDisp ((rC (.str [72]), rC (.int 1)) :: (rC (.str [88]), rC (.int 1)) :: (rC (.str [89]), rC (.int 1)) :: (rC (.str [90]), rC (.int 1)) :: (rC (.str [83]), rC (.int 1)) :: (rC (.str [83, 68, 71]), rC (.int 1)) :: (rC (.str [84]), rC (.int 1)) :: (rC (.str [84, 68, 71]), rC (.int 1)) :: (rC (.str [67, 88]), rC (.int 2)) :: (rC (.str [67, 90]), rC (.int 2)) :: (rC (.str [83, 87, 65, 80]), rC (.int 2)) :: (rC (.str [87]), rC (.int 0)) :: [])))) (sSeq (sIf (rOrT (rNotT (rT (rIsB "tuple" (rVar 0)))) (rT (rOp dNe (rB dLen (rCons (rVar 0) (rNil))) (rC (.int 2))))) (sRet (rC (.bl false))) (sNext)) (sSeq (sIf (rOrT (rNotT (rT (rIsB "str" (rOp dIxA (rVar 0) (rC (.int 0)))))) (rNotT (rT (rIsB "tuple" (rOp dIxA (rVar 0) (rC (.int 1))))))) (sRet (rC (.bl false))) (sNext)) (sSeq (sIf (rOrT (rT (rOp dNotInA (rOp dIxA (rVar 0) (rC (.int 0))) (rVar 2))) (rT (rOp dNe (rB dLen (rCons (rOp dIxA (rVar 0) (rC (.int 1))) (rNil))) (rOp dIxA (rVar 2) (rOp dIxA (rVar 0) (rC (.int 0))))))) (sRet (rC (.bl false))) (sNext)) (sSeq (sFor [3] (iItems (rOp dIxA (rVar 0) (rC (.int 1)))) (gtName 3) (sIf (rOrT (rNotT (rT (rCall 1 G__law_is_integer [] (rCons (rVar 3) (rNil))))) (rNotT (rT (rChain (dI fun i j => some (.bl (decide (i ≤ j)))) (dI fun i j => some (.bl (decide (i < j)))) (rC (.int 0)) (rVar 3) (rVar 1))))) (sRet (rC (.bl false))) (sNext))) (sRet (rOr (rOp (dI fun i j => some (.bl (decide (i < j)))) (rB dLen (rCons (rOp dIxA (rVar 0) (rC (.int 1))) (rNil))) (rC (.int 2))) (rOp dNe (rOp dIxA (rOp dIxA (rVar 0) (rC (.int 1))) (rC (.int 0))) (rOp dIxA (rOp dIxA (rVar 0) (rC (.int 1))) (rC (.int 1))))))))))
def G__law_gate_fits : List D → Out D := fnD 4 r__law_gate_fits
theorem ok__law_gate_fits (S : Says Fx K mg w h) : ∃ fd, Binds K fd ["_law_gate", "_law_width"] [] ∧ FnOk P w K mg base (L2.CX P w) 3 (He.ga K "_law_gate_fits") fd ["_law_gate", "_law_width"] (spP K (Fx.T K) 2 G__law_gate_fits) := by
  obtain ⟨fd__law_is_integer, b__law_is_integer, F__law_is_integer⟩ := ok__law_is_integer (P := P) (base := base) S
  obtain ⟨fd, D⟩ := S.def_ 13 (d := d__law_gate_fits)
  refine ⟨fd, D.bindsN (fun _ _ _ _ _ _ us hl => match us, hl with | [_, _], _ => rfl), fn_pureB (k := 2) D sc__law_gate_fits rfl fun cdv A outer s H E B => ?_⟩
  exact pdss_cons (pds_set (i := 2) sc__law_gate_fits.nd rfl (by first | exact Or.inl rfl | exact Or.inr rfl) (pd_o (pdo_disp (pdps_cons (pd_str (by decide +kernel)) (pd_int) (pdps_cons (pd_str (by decide +kernel)) (pd_int) (pdps_cons (pd_str (by decide +kernel)) (pd_int) (pdps_cons (pd_str (by decide +kernel)) (pd_int) (pdps_cons (pd_str (by decide +kernel)) (pd_int) (pdps_cons (pd_str (by decide +kernel)) (pd_int) (pdps_cons (pd_str (by decide +kernel)) (pd_int) (pdps_cons (pd_str (by decide +kernel)) (pd_int) (pdps_cons (pd_str (by decide +kernel)) (pd_int) (pdps_cons (pd_str (by decide +kernel)) (pd_int) (pdps_cons (pd_str (by decide +kernel)) (pd_int) (pdps_cons (pd_str (by decide +kernel)) (pd_int) (pdps_nil))))))))))))))) rfl)
    (pdss_cons (pds_if (PDW.t (pdw_or (pdt_not (pdt_val (pd_isi rfl (S.free 45) (pd_var (pv 0)) (pe_bltn rfl (S.free 51) (by decide +kernel) rfl)) (fun _ => rfl))) (pdw_or1 (pdt_cmp (og_ne B.hu) (pd_B cg_len rfl (S.free 42) (by decide +kernel) (pda_cons (pd_var (pv 0)) (pda_nil))) (pd_int) (by first | rfl | exact nobehind _ (by decide) (by decide))))))
    (pdss_one (pds_ret (pd_bl)))
    (pdss_nil))
    (pdss_cons (pds_if (PDW.t (pdw_or (pdt_not (pdt_val (pd_isi rfl (S.free 45) (pd_ix (ig_ixA B.hu1) (pd_var (pv 0)) (pd_int) (fun _ _ => rfl)) (pe_bltn rfl (S.free 52) (by decide +kernel) rfl)) (fun _ => rfl))) (pdw_or1 (pdt_not (pdt_val (pd_isi rfl (S.free 45) (pd_ix (ig_ixA B.hu1) (pd_var (pv 0)) (pd_int) (fun _ _ => rfl)) (pe_bltn rfl (S.free 51) (by decide +kernel) rfl)) (fun _ => rfl))))))
    (pdss_one (pds_ret (pd_bl)))
    (pdss_nil))
    (pdss_cons (pds_if (PDW.t (pdw_or (pdt_cmp (og_notInA B.hu1) (pd_ix (ig_ixA B.hu1) (pd_var (pv 0)) (pd_int) (fun _ _ => rfl)) (pd_var (pv 2)) (by first | rfl | exact nobehind _ (by decide) (by decide))) (pdw_or1 (pdt_cmp (og_ne B.hu) (pd_B cg_len rfl (S.free 42) (by decide +kernel) (pda_cons (pd_ix (ig_ixA B.hu1) (pd_var (pv 0)) (pd_int) (fun _ _ => rfl)) (pda_nil))) (pd_ix (ig_ixA B.hu1) (pd_var (pv 2)) (pd_ix (ig_ixA B.hu1) (pd_var (pv 0)) (pd_int) (fun _ _ => rfl)) (fun _ _ => rfl)) (by first | rfl | exact nobehind _ (by decide) (by decide))))))
    (pdss_one (pds_ret (pd_bl)))
    (pdss_nil))
    (pdss_cons (pds_for [3] B.hp rfl (pdi_items (pd_ix (ig_ixA B.hu1) (pd_var (pv 0)) (pd_int) (fun _ _ => rfl))) (pdg_name (i := 3) sc__law_gate_fits.nd rfl (by first | exact Or.inl rfl | exact Or.inr rfl))
    (pdss_one (pds_if (PDW.t (pdw_or (pdt_not (pdt_val (pd_call B.tk F__law_is_integer (B.room.mono (by decide)) rfl (S.glo 8) (S.keep 9) b__law_is_integer .nil (fun _ => .nil) (pda_cons (pd_var (pv 3)) (pda_nil))) (fun _ => rfl))) (pdw_or1 (pdt_not (pdt_chain og_le og_lt (pd_int) (pd_var (pv 3)) (pd_var (pv 1)))))))
    (pdss_one (pds_ret (pd_bl)))
    (pdss_nil))))
    (pdss_one (pds_ret (pd_or (pd_cmp og_lt (pd_B cg_len rfl (S.free 42) (by decide +kernel) (pda_cons (pd_ix (ig_ixA B.hu1) (pd_var (pv 0)) (pd_int) (fun _ _ => rfl)) (pda_nil))) (pd_int) (by first | rfl | exact nobehind _ (by decide) (by decide))) (pd_one (pd_cmp (og_ne B.hu) (pd_ix (ig_ixA B.hu1) (pd_ix (ig_ixA B.hu1) (pd_var (pv 0)) (pd_int) (fun _ _ => rfl)) (pd_int) (fun _ _ => rfl)) (pd_ix (ig_ixA B.hu1) (pd_ix (ig_ixA B.hu1) (pd_var (pv 0)) (pd_int) (fun _ _ => rfl)) (pd_int) (fun _ _ => rfl)) (by first | rfl | exact nobehind _ (by decide) (by decide)))))))))))
/-! ### _law_list_fits -/
def N__law_list_fits : List Str := ["_law_actual", "_law_width", "_law_gate"]
theorem sc__law_list_fits : FnScope N__law_list_fits ["_law_actual", "_law_width"] (defScope (top 21)) := ⟨rfl, rfl, rfl, by decide +kernel, rfl, by decide +kernel, by decide +kernel⟩
def r__law_list_fits : DS :=
  sSeq (sIf (rNotT (rT (rIsB "list" (rVar 0)))) (sRet (rC (.bl false))) (sNext)) (sSeq (sFor [2] (iItems (rVar 0)) (gtName 2) (sIf (rNotT (rT (rCall 2 G__law_gate_fits [] (rCons (rVar 2) (rCons (rVar 1) (rNil)))))) (sRet (rC (.bl false))) (sNext))) (sRet (rC (.bl true))))
def G__law_list_fits : List D → Out D := fnD 3 r__law_list_fits
theorem ok__law_list_fits (S : Says Fx K mg w h) : ∃ fd, Binds K fd ["_law_actual", "_law_width"] [] ∧ FnOk P w K mg base (L2.CX P w) 4 (He.ga K "_law_list_fits") fd ["_law_actual", "_law_width"] (spP K (Fx.T K) 2 G__law_list_fits) := by
  obtain ⟨fd__law_gate_fits, b__law_gate_fits, F__law_gate_fits⟩ := ok__law_gate_fits (P := P) (base := base) S
  obtain ⟨fd, D⟩ := S.def_ 14 (d := d__law_list_fits)
  refine ⟨fd, D.bindsN (fun _ _ _ _ _ _ us hl => match us, hl with | [_, _], _ => rfl), fn_pureB (k := 3) D sc__law_list_fits rfl fun cdv A outer s H E B => ?_⟩
  exact pdss_cons (pds_if (pdt_not (pdt_val (pd_isi rfl (S.free 45) (pd_var (pv 0)) (pe_bltn rfl (S.free 50) (by decide +kernel) rfl)) (fun _ => rfl)))
    (pdss_one (pds_ret (pd_bl)))
    (pdss_nil))
    (pdss_cons (pds_for [2] B.hp rfl (pdi_items (pd_var (pv 0))) (pdg_name (i := 2) sc__law_list_fits.nd rfl (by first | exact Or.inl rfl | exact Or.inr rfl))
    (pdss_one (pds_if (pdt_not (pdt_val (pd_call B.tk F__law_gate_fits (B.room.mono (by decide)) rfl (S.glo 26) (S.keep 27) b__law_gate_fits .nil (fun _ => .nil) (pda_cons (pd_var (pv 2)) (pda_cons (pd_var (pv 1)) (pda_nil)))) (fun _ => rfl)))
    (pdss_one (pds_ret (pd_bl)))
    (pdss_nil))))
    (pdss_one (pds_ret (pd_bl))))
/-! ### _law_due -/
def N__law_due : List Str := ["_law_kind", "_law_qubits", "_law_index", "_law_a", "_law_b", "_law_c", "_law_change"]
theorem sc__law_due : FnScope N__law_due ["_law_kind", "_law_qubits", "_law_index"] (defScope (top 22)) := ⟨rfl, rfl, rfl, by decide +kernel, rfl, by decide +kernel, by decide +kernel⟩
def r__law_due : DS :=
  sSeq (sSet 3 (rOp dAnd (rOp dShr (rVar 2) (rOp dIxA (rVar 1) (rC (.int 0)))) (rC (.int 1)))) (sSeq (sSet 4 (rOp dAnd (rOp dShr (rVar 2) (rOp dIxA (rVar 1) (rC (.int 1)))) (rC (.int 1)))) (sSeq (sIf (rT (rOp dEq (rVar 0) (rC (.str [67, 83])))) (sRet (rTup (rCons (rVar 2) (rCons (rOp dMul (rOp dMul (rC (.int 2)) (rVar 3)) (rVar 4)) (rNil))))) (sNext)) (sSeq (sIf (rT (rOp dEq (rVar 0) (rC (.str [67, 83, 68, 71])))) (sRet (rTup (rCons (rVar 2) (rCons (rOp dMul (rOp dMul (rC (.int 6)) (rVar 3)) (rVar 4)) (rNil))))) (sNext)) (sSeq (sSet 5 (rOp dAnd (rOp dShr (rVar 2) (rOp dIxA (rVar 1) (rC (.int 2)))) (rC (.int 1)))) (sSeq (sIf (rT (rOp dEq (rVar 0) (rC (.str [67, 67, 90])))) (sRet (rTup (rCons (rVar 2) (rCons (rOp dMul (rOp dMul (rOp dMul (rC (.int 4)) (rVar 3)) (rVar 4)) (rVar 5)) (rNil))))) (sNext)) (sSeq (sIf (rT (rOp dEq (rVar 0) (rC (.str [67, 67, 88])))) (sRet (rTup (rCons (rOp dXor (rVar 2) (rOp dShl (rOp dMul (rVar 3) (rVar 4)) (rOp dIxA (rVar 1) (rC (.int 2))))) (rCons (rC (.int 0)) (rNil))))) (sNext)) (sSeq (sSet 6 (rOp dMul (rVar 3) (rOp dXor (rVar 4) (rVar 5)))) (sRet (rTup (rCons (rOp dXor (rOp dXor (rVar 2) (rOp dShl (rVar 6) (rOp dIxA (rVar 1) (rC (.int 1))))) (rOp dShl (rVar 6) (rOp dIxA (rVar 1) (rC (.int 2))))) (rCons (rC (.int 0)) (rNil))))))))))))
def G__law_due : List D → Out D := fnD 7 r__law_due
theorem ok__law_due (S : Says Fx K mg w h) : ∃ fd, Binds K fd ["_law_kind", "_law_qubits", "_law_index"] [] ∧ FnOk P w K mg base (L2.CX P w) 2 (He.ga K "_law_due") fd ["_law_kind", "_law_qubits", "_law_index"] (spP K (Fx.T K) 3 G__law_due) := by
  obtain ⟨fd, D⟩ := S.def_ 15 (d := d__law_due)
  refine ⟨fd, D.bindsN (fun _ _ _ _ _ _ us hl => match us, hl with | [_, _, _], _ => rfl), fn_pureB (k := 1) D sc__law_due rfl fun cdv A outer s H E B => ?_⟩
  exact pdss_cons (pds_set (i := 3) sc__law_due.nd rfl (by first | exact Or.inl rfl | exact Or.inr rfl) (pd_op og_and (pd_op og_shr (pd_var (pv 2)) (pd_ix (ig_ixA B.hu1) (pd_var (pv 1)) (pd_int) (fun _ _ => rfl))) (pd_int)) rfl)
    (pdss_cons (pds_set (i := 4) sc__law_due.nd rfl (by first | exact Or.inl rfl | exact Or.inr rfl) (pd_op og_and (pd_op og_shr (pd_var (pv 2)) (pd_ix (ig_ixA B.hu1) (pd_var (pv 1)) (pd_int) (fun _ _ => rfl))) (pd_int)) rfl)
    (pdss_cons (pds_if (pdt_cmp (og_eq B.hu) (pd_var (pv 0)) (pd_str (by decide +kernel)) (by first | rfl | exact nobehind _ (by decide) (by decide)))
    (pdss_one (pds_ret (pd_tup (pda_cons (pd_var (pv 2)) (pda_cons (pd_op og_mul (pd_op og_mul (pd_int) (pd_var (pv 3))) (pd_var (pv 4))) (pda_nil))))))
    (pdss_nil))
    (pdss_cons (pds_if (pdt_cmp (og_eq B.hu) (pd_var (pv 0)) (pd_str (by decide +kernel)) (by first | rfl | exact nobehind _ (by decide) (by decide)))
    (pdss_one (pds_ret (pd_tup (pda_cons (pd_var (pv 2)) (pda_cons (pd_op og_mul (pd_op og_mul (pd_int) (pd_var (pv 3))) (pd_var (pv 4))) (pda_nil))))))
    (pdss_nil))
    (pdss_cons (pds_set (i := 5) sc__law_due.nd rfl (by first | exact Or.inl rfl | exact Or.inr rfl) (pd_op og_and (pd_op og_shr (pd_var (pv 2)) (pd_ix (ig_ixA B.hu1) (pd_var (pv 1)) (pd_int) (fun _ _ => rfl))) (pd_int)) rfl)
    (pdss_cons (pds_if (pdt_cmp (og_eq B.hu) (pd_var (pv 0)) (pd_str (by decide +kernel)) (by first | rfl | exact nobehind _ (by decide) (by decide)))
    (pdss_one (pds_ret (pd_tup (pda_cons (pd_var (pv 2)) (pda_cons (pd_op og_mul (pd_op og_mul (pd_op og_mul (pd_int) (pd_var (pv 3))) (pd_var (pv 4))) (pd_var (pv 5))) (pda_nil))))))
    (pdss_nil))
    (pdss_cons (pds_if (pdt_cmp (og_eq B.hu) (pd_var (pv 0)) (pd_str (by decide +kernel)) (by first | rfl | exact nobehind _ (by decide) (by decide)))
    (pdss_one (pds_ret (pd_tup (pda_cons (pd_op og_xor (pd_var (pv 2)) (pd_op og_shl (pd_op og_mul (pd_var (pv 3)) (pd_var (pv 4))) (pd_ix (ig_ixA B.hu1) (pd_var (pv 1)) (pd_int) (fun _ _ => rfl)))) (pda_cons (pd_int) (pda_nil))))))
    (pdss_nil))
    (pdss_cons (pds_set (i := 6) sc__law_due.nd rfl (by first | exact Or.inl rfl | exact Or.inr rfl) (pd_op og_mul (pd_var (pv 3)) (pd_op og_xor (pd_var (pv 4)) (pd_var (pv 5)))) rfl)
    (pdss_one (pds_ret (pd_tup (pda_cons (pd_op og_xor (pd_op og_xor (pd_var (pv 2)) (pd_op og_shl (pd_var (pv 6)) (pd_ix (ig_ixA B.hu1) (pd_var (pv 1)) (pd_int) (fun _ _ => rfl)))) (pd_op og_shl (pd_var (pv 6)) (pd_ix (ig_ixA B.hu1) (pd_var (pv 1)) (pd_int) (fun _ _ => rfl)))) (pda_cons (pd_int) (pda_nil)))))))))))))
/-! ### law -/
def N_law : List Str := ["_law_script", "_law_names", "_law_sizes", "_law_lengths", "_law_pick", "_law_count", "_law_qubits", "_law_k", "_law_index", "_law_due_here", "_law_gates", "e", "_law_moved"]
theorem sc_law : FnScope N_law ["_law_script"] (defScope (top 23)) := ⟨rfl, rfl, rfl, by decide +kernel, rfl, by decide +kernel, by decide +kernel⟩
def p_law_0 : DS := sSet 1 (rLst (rCons (rC (.str [67, 83])) (rCons (rC (.str [67, 83, 68, 71])) (rCons (rC (.str [67, 67, 90])) (rCons (rC (.str [67, 67, 88])) (rCons (rC (.str [67, 83, 87, 65, 80])) (rCons (rC (.str [67, 88])) (rCons (rC (.str [87])) (rCons (rC (.str [99, 115])) (rNil))))))))))
def p_law_1 : DS := sSet 2 (rLst (rCons (rC (.int 2)) (rCons (rC (.int 2)) (rCons (rC (.int 3)) (rCons (rC (.int 3)) (rCons (rC (.int 3)) (rCons (rUn dNeg (rC (.int 1))) (rCons (rUn dNeg (rC (.int 1))) (rCons (rUn dNeg (rC (.int 1))) (rNil))))))))))
def p_law_2 : DS := sSet 3 (rLst (rCons (rC (.int 5)) (rCons (rC (.int 5)) (rCons (rC (.int 13)) (rCons (rC (.int 15)) (rCons (rC (.int 17)) (rNil)))))))
def p_law_3 : DS := sSet 4 (rOp dMod (rB dToInt (rCons (rCall 2 G__law_cell [] (rCons (rVar 0) (rCons (rC (.int 0)) (rNil)))) (rNil))) (rC (.int 8)))
def p_law_4 : DS := sIf (rT (rOp dNe (rOp dMod (rB dToInt (rCons (rOp dFdiv (rCall 2 G__law_cell [] (rCons (rVar 0) (rCons (rC (.int 0)) (rNil)))) (rC (.int 8))) (rNil))) (rC (.int 4))) (rC (.int 0)))) (sSet 4 (rOp dMod (rB dToInt (rCons (rOp dFdiv (rCall 2 G__law_cell [] (rCons (rVar 0) (rCons (rC (.int 0)) (rNil)))) (rC (.int 8))) (rNil))) (rC (.int 5)))) (sNext)
def p_law_5 : DS := sSet 5 (rB dMax2 (rCons (rC (.int 2)) (rCons (rOp dIxA (rVar 2) (rVar 4)) (rNil))))
def p_law_6 : DS := sIf (rT (rOp dEq (rOp dMod (rB dToInt (rCons (rCall 2 G__law_cell [] (rCons (rVar 0) (rCons (rC (.int 1)) (rNil)))) (rNil))) (rC (.int 4))) (rC (.int 0)))) (sSet 5 (rOp dMod (rB dToInt (rCons (rOp dFdiv (rCall 2 G__law_cell [] (rCons (rVar 0) (rCons (rC (.int 1)) (rNil)))) (rC (.int 4))) (rNil))) (rC (.int 5)))) (sNext)
def p_law_7 : DS := sSet 6 (rO (fComp [7] (iR1 (rVar 5)) (gtName 7) (rYes) (rOp dMod (rB dToInt (rCons (rOp dAdd (rCall 2 G__law_cell [] (rCons (rVar 0) (rCons (rOp dAdd (rC (.int 2)) (rVar 7)) (rNil)))) (rVar 7)) (rNil))) (rC (.int 5)))))
def p_law_8 : DS := sIf (rT (rOp dEq (rOp dMod (rB dToInt (rCons (rCall 2 G__law_cell [] (rCons (rVar 0) (rCons (rC (.int 6)) (rNil)))) (rNil))) (rC (.int 4))) (rC (.int 0)))) (sSet 6 (rO (fComp [7] (iR1 (rVar 5)) (gtName 7) (rYes) (rOp (dI fun i j => some (.int (i - j))) (rOp dMod (rB dToInt (rCons (rCall 2 G__law_cell [] (rCons (rVar 0) (rCons (rOp dAdd (rC (.int 2)) (rVar 7)) (rNil)))) (rNil))) (rC (.int 6))) (rC (.int 1)))))) (sNext)
def p_law_9 : DS := sSet 8 (rOp dMod (rB dToInt (rCons (rCall 2 G__law_cell [] (rCons (rVar 0) (rCons (rC (.int 7)) (rNil)))) (rNil))) (rC (.int 32)))
def p_law_10 : DS := sSet 9 (rOp dEq (rVar 5) (rOp dIxA (rVar 2) (rVar 4)))
def p_law_11 : DS := sFor [7] (iR1 (rVar 5)) (gtName 7) (sSet 9 (rAnd (rVar 9) (rAnd (rOp (dI fun i j => some (.bl (decide (j ≤ i)))) (rOp dIxA (rVar 6) (rVar 7)) (rC (.int 0))) (rOp dNotInA (rOp dIxA (rVar 6) (rVar 7)) (rSl (rVar 6) (pNone) (pSome (rVar 7)))))))
def p_law_12 : DS := sTry 2 (fun c => [true, true].getD c false) 11 (sSet 10 (rCall 2 G_macro_gates [] (rCons (rOp dIxA (rVar 1) (rVar 4)) (rCons (rB dTuple (rCons (rVar 6) (rNil))) (rNil))))) (fun x => sGuard x.line.isNone (sRet (rAnd (rIsX 11 ([false, true].getD x.c false)) (rNot (rVar 9)))))
def p_law_13 : DS := sIf (rOrT (rNotT (rT (rVar 9))) (rOrT (rNotT (rT (rCall 2 G__law_list_fits [] (rCons (rVar 10) (rCons (rC (.int 5)) (rNil)))))) (rOrT (rT (rOp dNe (rB dLen (rCons (rVar 10) (rNil))) (rOp dIxA (rVar 3) (rVar 4)))) (rT (rOp dNe (rC (D.tup [D.str [67, 83], D.str [67, 83, 68, 71], D.str [67, 67, 90], D.str [67, 67, 88], D.str [67, 83, 87, 65, 80]])) (rB dTuple (rCons (rSl (rVar 1) (pNone) (pSome (rC (.int 5)))) (rNil)))))))) (sRet (rC (.bl false))) (sNext)
def p_law_14 : DS := sSet 12 (rCall 3 G__law_due [] (rCons (rOp dIxA (rVar 1) (rVar 4)) (rCons (rVar 6) (rCons (rVar 8) (rNil)))))
def p_law_15 : DS := sRet (rCall 3 G__law_same [] (rCons (rCall 2 G__law_sim [] (rCons (rVar 10) (rCons (rVar 8) (rNil)))) (rCons (rTup (rCons (rO (oDisp ((rOp dIxA (rVar 12) (rC (.int 0)), rCall 2 G__law_turn [] (rCons (rTup (rCons (rC (.int 1)) (rCons (rC (.int 0)) (rCons (rC (.int 0)) (rCons (rC (.int 0)) (rNil)))))) (rCons (rOp dIxA (rVar 12) (rC (.int 1))) (rNil)))) :: []))) (rCons (rC (.int 0)) (rNil)))) (rCons (rC (.int 0)) (rNil)))))
def r_law : DS := sSeq p_law_0 (sSeq p_law_1 (sSeq p_law_2 (sSeq p_law_3 (sSeq p_law_4 (sSeq p_law_5 (sSeq p_law_6 (sSeq p_law_7 (sSeq p_law_8 (sSeq p_law_9 (sSeq p_law_10 (sSeq p_law_11 (sSeq p_law_12 (sSeq p_law_13 (sSeq p_law_14 (p_law_15)))))))))))))))
def G_law : List D → Out D := fnD 13 r_law
theorem ok_law (S : Says Fx K mg w h) : ∃ fd : FuncData, (∀ (s : Shared) (u : Value), BindsTo s fd ⟨[u], []⟩ [("_law_script", u)]) ∧ ∀ base : Heap, FnOk P w K mg base (L2.CX P w) 5 (He.ga K "law") fd ["_law_script"] (spP K (Fx.T K) 1 G_law) := by
  obtain ⟨fd, D⟩ := S.def_ 16 (d := d_law)
  refine ⟨fd, fun s u => D.bindsA (ps := ["_law_script"]) (fun _ _ _ _ _ _ us hl => match us, hl with | [_], _ => rfl) s [u] rfl, fun base => ?_⟩
  obtain ⟨fd__law_cell, b__law_cell, F__law_cell⟩ := ok__law_cell (P := P) (base := base) S
  obtain ⟨fd_macro_gates, b_macro_gates, F_macro_gates⟩ := ok_macro_gates (P := P) (base := base) S
  obtain ⟨fd__law_list_fits, b__law_list_fits, F__law_list_fits⟩ := ok__law_list_fits (P := P) (base := base) S
  obtain ⟨fd__law_due, b__law_due, F__law_due⟩ := ok__law_due (P := P) (base := base) S
  obtain ⟨fd__law_same, b__law_same, F__law_same⟩ := ok__law_same (P := P) (base := base) S
  obtain ⟨fd__law_turn, b__law_turn, F__law_turn⟩ := ok__law_turn (P := P) (base := base) S
  obtain ⟨fd__law_sim, b__law_sim, F__law_sim⟩ := ok__law_sim (P := P) (base := base) S
  refine fn_pureB (k := 4) D sc_law rfl fun cdv A outer s H E B => ?_
  exact pdss_cons (pds_set (i := 1) sc_law.nd rfl (by first | exact Or.inl rfl | exact Or.inr rfl) (pd_lst (pda_cons (pd_str (by decide +kernel)) (pda_cons (pd_str (by decide +kernel)) (pda_cons (pd_str (by decide +kernel)) (pda_cons (pd_str (by decide +kernel)) (pda_cons (pd_str (by decide +kernel)) (pda_cons (pd_str (by decide +kernel)) (pda_cons (pd_str (by decide +kernel)) (pda_cons (pd_str (by decide +kernel)) (pda_nil)))))))))) rfl)
    (pdss_cons (pds_set (i := 2) sc_law.nd rfl (by first | exact Or.inl rfl | exact Or.inr rfl) (pd_lst (pda_cons (pd_int) (pda_cons (pd_int) (pda_cons (pd_int) (pda_cons (pd_int) (pda_cons (pd_int) (pda_cons (pd_un ug_neg (pd_int)) (pda_cons (pd_un ug_neg (pd_int)) (pda_cons (pd_un ug_neg (pd_int)) (pda_nil)))))))))) rfl)
    (pdss_cons (pds_set (i := 3) sc_law.nd rfl (by first | exact Or.inl rfl | exact Or.inr rfl) (pd_lst (pda_cons (pd_int) (pda_cons (pd_int) (pda_cons (pd_int) (pda_cons (pd_int) (pda_cons (pd_int) (pda_nil))))))) rfl)
    (pdss_cons (pds_set (i := 4) sc_law.nd rfl (by first | exact Or.inl rfl | exact Or.inr rfl) (pd_op og_mod (pd_Ty cg_toInt rfl (S.free 46) (by decide +kernel) (pda_cons (pd_call B.tk F__law_cell (B.room.mono (by decide)) rfl (S.glo 10) (S.keep 11) b__law_cell .nil (fun _ => .nil) (pda_cons (pd_var (pv 0)) (pda_cons (pd_int) (pda_nil)))) (pda_nil))) (pd_int)) rfl)
    (pdss_cons (pds_if (pdt_cmp (og_ne B.hu) (pd_op og_mod (pd_Ty cg_toInt rfl (S.free 46) (by decide +kernel) (pda_cons (pd_op og_fdiv (pd_call B.tk F__law_cell (B.room.mono (by decide)) rfl (S.glo 10) (S.keep 11) b__law_cell .nil (fun _ => .nil) (pda_cons (pd_var (pv 0)) (pda_cons (pd_int) (pda_nil)))) (pd_int)) (pda_nil))) (pd_int)) (pd_int) (by first | rfl | exact nobehind _ (by decide) (by decide)))
    (pdss_one (pds_set (i := 4) sc_law.nd rfl (by first | exact Or.inl rfl | exact Or.inr rfl) (pd_op og_mod (pd_Ty cg_toInt rfl (S.free 46) (by decide +kernel) (pda_cons (pd_op og_fdiv (pd_call B.tk F__law_cell (B.room.mono (by decide)) rfl (S.glo 10) (S.keep 11) b__law_cell .nil (fun _ => .nil) (pda_cons (pd_var (pv 0)) (pda_cons (pd_int) (pda_nil)))) (pd_int)) (pda_nil))) (pd_int)) rfl))
    (pdss_nil))
    (pdss_cons (pds_set (i := 5) sc_law.nd rfl (by first | exact Or.inl rfl | exact Or.inr rfl) (pd_B (cg_max2 rfl) rfl (S.free 49) (by decide +kernel) (pda_cons (pd_int) (pda_cons (pd_ix (ig_ixA B.hu1) (pd_var (pv 2)) (pd_var (pv 4)) (fun _ _ => rfl)) (pda_nil)))) rfl)
    (pdss_cons (pds_if (pdt_cmp (og_eq B.hu) (pd_op og_mod (pd_Ty cg_toInt rfl (S.free 46) (by decide +kernel) (pda_cons (pd_call B.tk F__law_cell (B.room.mono (by decide)) rfl (S.glo 10) (S.keep 11) b__law_cell .nil (fun _ => .nil) (pda_cons (pd_var (pv 0)) (pda_cons (pd_int) (pda_nil)))) (pda_nil))) (pd_int)) (pd_int) (by first | rfl | exact nobehind _ (by decide) (by decide)))
    (pdss_one (pds_set (i := 5) sc_law.nd rfl (by first | exact Or.inl rfl | exact Or.inr rfl) (pd_op og_mod (pd_Ty cg_toInt rfl (S.free 46) (by decide +kernel) (pda_cons (pd_op og_fdiv (pd_call B.tk F__law_cell (B.room.mono (by decide)) rfl (S.glo 10) (S.keep 11) b__law_cell .nil (fun _ => .nil) (pda_cons (pd_var (pv 0)) (pda_cons (pd_int) (pda_nil)))) (pd_int)) (pda_nil))) (pd_int)) rfl))
    (pdss_nil))
    (pdss_cons (pds_setC (i := 6) rfl sc_law.nd rfl rfl (sw_true rfl rfl rfl (by decide +kernel)) (blkOk_by (own := [("_law_k", 7)]) (N := N_law) (sc := defScope (top 23)) (by decide +kernel)) (pd_compo (own := [("_law_k", 7)]) (pdi_r1 rfl (S.free 48) (pd_var (pv 5))) (fun _ _ _ _ _ => pdg_name (i := 7) sc_law.nd rfl (by first | exact Or.inl rfl | exact Or.inr rfl)) (fun _ _ _ _ _ => pdif_nil) (fun _ _ _ _ _ => pd_op og_mod (pd_Ty cg_toInt rfl (S.free 46) (by decide +kernel) (pda_cons (pd_op og_add (pd_call takes_WF F__law_cell (B.room.mono (by decide)) rfl (S.glo 10) (S.keep 11) b__law_cell .nil (fun _ => .nil) (pda_cons (pd_var (pv 0)) (pda_cons (pd_op og_add (pd_int) (pd_var (pv 7))) (pda_nil)))) (pd_var (pv 7))) (pda_nil))) (pd_int))))
    (pdss_cons (pds_if (pdt_cmp (og_eq B.hu) (pd_op og_mod (pd_Ty cg_toInt rfl (S.free 46) (by decide +kernel) (pda_cons (pd_call B.tk F__law_cell (B.room.mono (by decide)) rfl (S.glo 10) (S.keep 11) b__law_cell .nil (fun _ => .nil) (pda_cons (pd_var (pv 0)) (pda_cons (pd_int) (pda_nil)))) (pda_nil))) (pd_int)) (pd_int) (by first | rfl | exact nobehind _ (by decide) (by decide)))
    (pdss_one (pds_setC (i := 6) rfl sc_law.nd rfl rfl (sw_true rfl rfl rfl (by decide +kernel)) (blkOk_by (own := [("_law_k", 7)]) (N := N_law) (sc := defScope (top 23)) (by decide +kernel)) (pd_compo (own := [("_law_k", 7)]) (pdi_r1 rfl (S.free 48) (pd_var (pv 5))) (fun _ _ _ _ _ => pdg_name (i := 7) sc_law.nd rfl (by first | exact Or.inl rfl | exact Or.inr rfl)) (fun _ _ _ _ _ => pdif_nil) (fun _ _ _ _ _ => pd_op og_sub (pd_op og_mod (pd_Ty cg_toInt rfl (S.free 46) (by decide +kernel) (pda_cons (pd_call takes_WF F__law_cell (B.room.mono (by decide)) rfl (S.glo 10) (S.keep 11) b__law_cell .nil (fun _ => .nil) (pda_cons (pd_var (pv 0)) (pda_cons (pd_op og_add (pd_int) (pd_var (pv 7))) (pda_nil)))) (pda_nil))) (pd_int)) (pd_int)))))
    (pdss_nil))
    (pdss_cons (pds_set (i := 8) sc_law.nd rfl (by first | exact Or.inl rfl | exact Or.inr rfl) (pd_op og_mod (pd_Ty cg_toInt rfl (S.free 46) (by decide +kernel) (pda_cons (pd_call B.tk F__law_cell (B.room.mono (by decide)) rfl (S.glo 10) (S.keep 11) b__law_cell .nil (fun _ => .nil) (pda_cons (pd_var (pv 0)) (pda_cons (pd_int) (pda_nil)))) (pda_nil))) (pd_int)) rfl)
    (pdss_cons (pds_set (i := 9) sc_law.nd rfl (by first | exact Or.inl rfl | exact Or.inr rfl) (pd_cmp (og_eq B.hu) (pd_var (pv 5)) (pd_ix (ig_ixA B.hu1) (pd_var (pv 2)) (pd_var (pv 4)) (fun _ _ => rfl)) (by first | rfl | exact nobehind _ (by decide) (by decide))) rfl)
    (pdss_cons (pds_for [7] B.hp rfl (pdi_r1 rfl (S.free 48) (pd_var (pv 5))) (pdg_name (i := 7) sc_law.nd rfl (by first | exact Or.inl rfl | exact Or.inr rfl))
    (pdss_one (pds_set (i := 9) sc_law.nd rfl (by first | exact Or.inl rfl | exact Or.inr rfl) (pd_and (pd_var (pv 9)) (pd_and (pd_cmp og_ge (pd_ix (ig_ixA B.hu1) (pd_var (pv 6)) (pd_var (pv 7)) (fun _ _ => rfl)) (pd_int) (by first | rfl | exact nobehind _ (by decide) (by decide))) (pd_one (pd_cmp (og_notInA B.hu1) (pd_ix (ig_ixA B.hu1) (pd_var (pv 6)) (pd_var (pv 7)) (fun _ _ => rfl)) (pd_slice (pd_var (pv 6)) (pdp_none) (pdp_some (pd_var (pv 7)))) (by first | rfl | exact nobehind _ (by decide) (by decide)))))) rfl)))
    (pdss_cons (pds_try (i := 11) rfl rfl rfl sc_law.nd rfl rfl ⟨rfl, rfl, .inl (S.glo 35)⟩ B.tk (show ∀ c, c < 2 → PySem.W.exmOne K (.ref ((Fx.T K).cl c)) (.ref (He.ga K "PhasorError")) = some ([true, true].getD c false) from (fun c h => match c, h with | 0, _ => S.exm 36 | 1, _ => S.exm 40 | (n + 2), h => absurd h (by omega)))
    (fun W' pn xe tk' hp' => pdss_one (pds_set (i := 10) sc_law.nd rfl (by first | exact Or.inl rfl | exact Or.inr rfl) (pd_call tk' F_macro_gates (B.room.mono (by decide)) rfl (S.glo 6) (S.keep 7) b_macro_gates .nil (fun _ => .nil) (pda_cons (pd_ix (ig_ixA B.hu1) (pd_var (pv 1)) (pd_var (pv 4)) (fun _ _ => rfl)) (pda_cons (pd_Ty cg_tuple rfl (S.free 51) (by decide +kernel) (pda_cons (pd_var (pv 6)) (pda_nil))) (pda_nil)))) rfl))
    (fun x a oe cls d pn hx hft hz hv => pdss_guard fun hln => by
      obtain ⟨rfl, hd⟩ := hft
      have hd := hd (Option.isNone_iff_eq_none.mp hln)
      subst hd
      exact pdss_one (pds_ret (pd_and (pd_isX (cv := (V.ref (He.ga K "InvalidGate"))) (cu := (Value.ref (He.ga K "InvalidGate"))) (D0 := (Fx.T K).cl x.c) ((show ∀ c, c < 2 → ExcC K ((Fx.T K).cl c) from (fun c h => match c, h with | 0, _ => S.exc 0 | 1, _ => S.exc 1 | (n + 2), h => absurd h (by omega))) x.c hx) hz hv (fun _ h => h) ((show ∀ c, c < 2 → PySem.W.kitOne K (.ref ((Fx.T K).cl c)) (Value.ref (He.ga K "InvalidGate")) = some ([false, true].getD c false) from (fun c h => match c, h with | 0, _ => S.kio 1 | 1, _ => S.kio 3 | (n + 2), h => absurd h (by omega))) x.c hx) rfl (S.free 45) (pv 11) (pe_glob rfl (S.glo 39) rfl)) (pd_one (pd_not (pd_var (pv 9))))))))
    (pdss_cons (pds_if (PDW.t (pdw_or (pdt_not (pdt_val (pd_var (pv 9)) (fun _ => rfl))) (pdw_or (pdt_not (pdt_val (pd_call B.tk F__law_list_fits (B.room.mono (by decide)) rfl (S.glo 28) (S.keep 29) b__law_list_fits .nil (fun _ => .nil) (pda_cons (pd_var (pv 10)) (pda_cons (pd_int) (pda_nil)))) (fun _ => rfl))) (pdw_or (pdt_cmp (og_ne B.hu) (pd_B cg_len rfl (S.free 42) (by decide +kernel) (pda_cons (pd_var (pv 10)) (pda_nil))) (pd_ix (ig_ixA B.hu1) (pd_var (pv 3)) (pd_var (pv 4)) (fun _ _ => rfl)) (by first | rfl | exact nobehind _ (by decide) (by decide))) (pdw_or1 (pdt_cmp (og_ne B.hu) (pd_con rfl (S.con 0)) (pd_Ty cg_tuple rfl (S.free 51) (by decide +kernel) (pda_cons (pd_slice (pd_var (pv 1)) (pdp_none) (pdp_some (pd_int))) (pda_nil))) (by first | rfl | exact nobehind _ (by decide) (by decide))))))))
    (pdss_one (pds_ret (pd_bl)))
    (pdss_nil))
    (pdss_cons (pds_set (i := 12) sc_law.nd rfl (by first | exact Or.inl rfl | exact Or.inr rfl) (pd_call B.tk F__law_due (B.room.mono (by decide)) rfl (S.glo 30) (S.keep 31) b__law_due .nil (fun _ => .nil) (pda_cons (pd_ix (ig_ixA B.hu1) (pd_var (pv 1)) (pd_var (pv 4)) (fun _ _ => rfl)) (pda_cons (pd_var (pv 6)) (pda_cons (pd_var (pv 8)) (pda_nil))))) rfl)
    (pdss_one (pds_ret (pd_call B.tk F__law_same (B.room.mono (by decide)) rfl (S.glo 24) (S.keep 25) b__law_same .nil (fun _ => .nil) (pda_cons (pd_call B.tk F__law_sim (B.room.mono (by decide)) rfl (S.glo 20) (S.keep 21) b__law_sim .nil (fun _ => .nil) (pda_cons (pd_var (pv 10)) (pda_cons (pd_var (pv 8)) (pda_nil)))) (pda_cons (pd_tup (pda_cons (pd_o (pdo_disp (pdps_cons (pd_ix (ig_ixA B.hu1) (pd_var (pv 12)) (pd_int) (fun _ _ => rfl)) (pd_call B.tk F__law_turn (B.room.mono (by decide)) rfl (S.glo 12) (S.keep 13) b__law_turn .nil (fun _ => .nil) (pda_cons (pd_tup (pda_cons (pd_int) (pda_cons (pd_int) (pda_cons (pd_int) (pda_cons (pd_int) (pda_nil)))))) (pda_cons (pd_ix (ig_ixA B.hu1) (pd_var (pv 12)) (pd_int) (fun _ _ => rfl)) (pda_nil)))) (pdps_nil)))) (pda_cons (pd_int) (pda_nil)))) (pda_cons (pd_int) (pda_nil)))))))))))))))))))))
abbrev lawLevel : Nat := 5
end
end L2.DL.law_k15_macros

/-! ## P15a -/
set_option linter.all false
set_option maxRecDepth 100000
set_option maxHeartbeats 0
namespace L2.DL.law_k15_macros
open L2.DL PySem PySem.W PyProof.Rows
theorem in5 (x : List Nat) : dInA (.str x) (.tup [.str [90], .str [83], .str [83, 68, 71], .str [84], .str [84, 68, 71]]) = some (.bl (decide (x ∈ [[90], [83], [83, 68, 71], [84], [84, 68, 71]]))) := inS_all (ys := [[90], [83], [83, 68, 71], [84], [84, 68, 71]])
def st5 : List (DKey × D) := [(.s [90], nd 4), (.s [83], nd 2), (.s [83, 68, 71], nd 6), (.s [84], nd 1), (.s [84, 68, 71], nd 7)]
theorem disp5 (δ : Env) : oDisp [(rC (.str [90]), rC (nd 4)), (rC (.str [83]), rC (nd 2)), (rC (.str [83, 68, 71]), rC (nd 6)), (rC (.str [84]), rC (nd 1)), (rC (.str [84, 68, 71]), rC (nd 7))] δ = .ok (.dd st5) := rfl
theorem look5 (k : List Nat) (s : Nat) (h : stepsOf k = some s) : dIxA (.dic st5) (.str k) = some (nd s) := by
  unfold stepsOf at h
  repeat' split at h
  all_goals (first | (cases h; subst_vars; rfl) | cases h)
theorem g_move {w i : Nat} {g : NG} (hw : w ≤ 64) (h : GV w g) : G__law_move [nd i, gt g] = .ok (.tup [nd (nmove i g).1, nd (nmove i g).2]) := by
  cases h with
  | W => simp [G__law_move, r__law_move, gt, nmove, List.replicate]
  | X q hq =>
    have h1 : dShl (nd 1) (nd q) = some (nd (1 <<< q)) := dShl_nat (by omega) (by omega)
    simp [G__law_move, r__law_move, gt, nmove, List.replicate, h1]
  | Y q hq =>
    have h1 : dShl (nd 1) (nd q) = some (nd (1 <<< q)) := dShl_nat (by omega) (by omega)
    have h2 : dMul (nd 4) (nd (i >>> q % 2)) = some (nd (4 * (i >>> q % 2))) := dMul_nat (by omega) (by omega)
    simp [G__law_move, r__law_move, gt, nmove, List.replicate, h1, h2, bit]
  | st k s q hk hq =>
    have h2 : ∀ s, s ≤ 7 → dMul (nd s) (nd (i >>> q % 2)) = some (nd (s * (i >>> q % 2))) := fun s _ => dMul_nat (by omega) (by omega)
    have hl := look5 k s hk
    rcases st_cases hk with ⟨rfl, rfl⟩ | ⟨rfl, rfl⟩ | ⟨rfl, rfl⟩ | ⟨rfl, rfl⟩ | ⟨rfl, rfl⟩ <;> simp [G__law_move, r__law_move, gt, nmove, List.replicate, h2, hl, bit, in5, disp5, OT.toD, stepsOf]
  | CX a b ha hb =>
    have h1 : dShl (nd (i >>> a % 2)) (nd b) = some (nd ((i >>> a % 2) <<< b)) := dShl_nat (by omega) (by omega)
    simp [G__law_move, r__law_move, gt, nmove, List.replicate, h1, bit, stepsOf, in5]
  | CZ a b ha hb =>
    have h1 : dMul (nd 4) (nd (i >>> a % 2)) = some (nd (4 * (i >>> a % 2))) := dMul_nat (by omega) (by omega)
    have h2 : dMul (nd (4 * (i >>> a % 2))) (nd (i >>> b % 2)) = some (nd (4 * (i >>> a % 2) * (i >>> b % 2))) := dMul_nat (by omega) (by omega)
    simp [G__law_move, r__law_move, gt, nmove, List.replicate, h1, h2, bit, stepsOf, in5]
  | SW a b ha hb =>
    have hx := xor_bit (a := i >>> a % 2) (b := i >>> b % 2) (by omega) (by omega)
    have h1 : ∀ q, q < w → dShl (nd ((i >>> a % 2) ^^^ (i >>> b % 2))) (nd q) = some (nd (((i >>> a % 2) ^^^ (i >>> b % 2)) <<< q)) := fun q hq => dShl_nat (by omega) (by omega)
    have h2 := h1 a ha
    have h3 := h1 b hb
    simp [G__law_move, r__law_move, gt, nmove, List.replicate, h2, h3, bit, stepsOf, in5]
theorem g_turn (a : Amp) (s : Nat) : G__law_turn [am a, nd s] = .ok (am (turnN (s % 8) a)) := by
  refine fnD_rt (δ := _) (seq_nx (δ' := [.d (am (turnN (s % 8) a)), .d (nd s), .un]) (for_ok (iR1_ok (j := ((s % 8 : Nat) : Int)) ?_ (by omega)) ?_) rfl)
  · show Out.ok (D.int ((s : Int) % 8)) = _
    congr 2
  · have e : s % 8 = (rangeD 0 ((s % 8 : Nat) : Int)).length := by rw [rangeD_length]; omega
    have e2 : turnN (s % 8) a = (rangeD 0 ((s % 8 : Nat) : Int)).foldl (fun a _ => turn1 a) a := by rw [foldl_turn]; congr 1
    rw [e2]
    refine forL_fold (fun a : Amp => [.d (am a), .d (nd s), .un]) (fun a _ => turn1 a) ?_ a
    exact fun a x _ => ⟨_, _, rfl, rfl, rfl⟩
theorem g_put (l : NA) (i : Nat) (a : Amp) (h : l.length < 16777216) : G__law_put [.own none (.dd (dcl l)), .d (nd i), .d (am a)] = .ok (.d .non) [.own none (.dd (dcl (nput l i a))), .un, .un] := by
  simp [G__law_put, r__law_put, List.replicate, am_mk, thereD, OT.atC, chg, kPut_dcl h, OT.put, ix, unE, nput, addA]
def eA (l : NA) (g : NG) (out : NA) : Env := [.d (.dic (dcl l)), .d (gt g), .own none (.dd (dcl out)), .un, .un, .un, .un, .un, .un]
theorem after_body {w : Nat} {l out : NA} {g : NG} (hw : w ≤ 20) (hg : GF w g) (hl : KB w l) (ho : KB w out) {p : Nat × Amp} (hp : p ∈ l) : ∃ δ2, (sSeq (sSet 4 (rOp dIxA (rVar 0) (rVar 3))) (sIf (rT (rOp dEq (rOp dIxA (rVar 1) (rC (.int 0))) (rC (.str [72])))) (sSeq (sSet 5 (rOp dAnd (rOp dShr (rVar 3) (rOp dIxA (rOp dIxA (rVar 1) (rC (.int 1))) (rC (.int 0)))) (rC (.int 1)))) (sSeq (sSet 6 (rOp (dI fun i j => some (.int (i - j))) (rVar 3) (rOp dShl (rVar 5) (rOp dIxA (rOp dIxA (rVar 1) (rC (.int 1))) (rC (.int 0)))))) (sSeq (sDropC (rCI 3 G__law_put [] 2 [] (rCons (rVar 6) (rCons (rVar 4) (rNil))))) (sDropC (rCI 3 G__law_put [] 2 [] (rCons (rOp dAdd (rVar 6) (rOp dShl (rC (.int 1)) (rOp dIxA (rOp dIxA (rVar 1) (rC (.int 1))) (rC (.int 0))))) (rCons (rCall 2 G__law_turn [] (rCons (rVar 4) (rCons (rOp dMul (rC (.int 4)) (rVar 5)) (rNil)))) (rNil)))))))) (sSeq (sSet 7 (rCall 2 G__law_move [] (rCons (rVar 3) (rCons (rVar 1) (rNil))))) (sDropC (rCI 3 G__law_put [] 2 [] (rCons (rOp dIxA (rVar 7) (rC (.int 0))) (rCons (rCall 2 G__law_turn [] (rCons (rVar 4) (rCons (rOp dIxA (rVar 7) (rC (.int 1))) (rNil)))) (rNil)))))))) [.d (.dic (dcl l)), .d (gt g), .own none (.dd (dcl out)), .d (nd p.1), .un, .un, .un, .un, .un] = .nx δ2 ∧ fgt [3, 4, 5, 6, 7] δ2 = eA l g (nshare g out p) := by
  have hlk := ix_dcl hl.1 hp
  have hpw := hl.2 p hp
  have hlen : ∀ {o : NA}, KB w o → o.length < 16777216 := fun {o} ho => by
    have h1 := ho.len
    have h2 : 2 ^ w ≤ 2 ^ 20 := Nat.pow_le_pow_right (by omega) hw
    omega
  cases hg with
  | H q hq =>
    have e0 : dIxA (gt ([72], [q])) (nd 0) = some (.str [72]) := ix_tup
    have e1 : dIxA (gt ([72], [q])) (nd 1) = some (.tup [nd q]) := ix_tup1
    have hb := bit_le p.1 q
    have h1 : dShl (nd (bit p.1 q)) (nd q) = some (nd (bit p.1 q <<< q)) := dShl_nat (by omega) (by omega)
    have h2 : dShl (nd 1) (nd q) = some (nd (1 <<< q)) := dShl_nat (by omega) (by omega)
    have h3 : dMul (nd 4) (nd (bit p.1 q)) = some (nd (4 * bit p.1 q)) := dMul_nat (by omega) (by omega)
    have ho2 : KB w (nput out (p.1 - (bit p.1 q <<< q)) p.2) := ho.put (Nat.lt_of_le_of_lt (Nat.sub_le _ _) hpw) _
    refine ⟨_, seq_nx (set_ok (d := am p.2) (op_ok rfl rfl hlk)) (if_t (opT_ok (op_ok rfl rfl e0) rfl rfl) (seq_nx (set_ok (op_ok (op_ok rfl (op_ok (op_ok rfl rfl e1) rfl ix_tup) (dShr_nat _ _)) rfl (dAnd_one _))) (seq_nx (set_ok (op_ok rfl (op_ok rfl (op_ok (op_ok rfl rfl e1) rfl ix_tup) h1) (dSub_nat (bit_shl_le _ _)))) (seq_nx (dropC_ok (rCI_ok (u := .dd (dcl out)) (xs := [nd (p.1 - (bit p.1 q <<< q)), am p.2]) rfl (cons_ok rfl (cons_ok rfl nil_ok)) rfl (g_put out _ _ (hlen ho))))
      (dropC_ok (rCI_ok (u := .dd (dcl (nput out (p.1 - (bit p.1 q <<< q)) p.2))) (xs := [nd (p.1 - (bit p.1 q <<< q) + (1 <<< q)), am (turnN (4 * bit p.1 q % 8) p.2)]) rfl ?_ rfl (g_put _ _ _ (hlen ho2)))))))), ?_⟩
    · exact cons_ok (op_ok rfl (op_ok rfl (op_ok (op_ok rfl rfl e1) rfl ix_tup) h2) (dAdd_nat _ _)) (cons_ok (call_ok (xs := [am p.2, nd (4 * bit p.1 q)]) (cons_ok rfl (cons_ok (op_ok rfl rfl h3) nil_ok)) rfl (g_turn _ _)) nil_ok)
    · rfl
  | V hv =>
    have hne := hv.notH
    have e0 : dIxA (gt g) (nd 0) = some (.str g.1) := ix_tup
    have hm := g_move (w := w) (i := p.1) (by omega) hv
    refine ⟨_, seq_nx (set_ok (d := am p.2) (op_ok rfl rfl hlk)) (if_f (opT_ok (op_ok rfl rfl e0) rfl (b := false) ?_) (seq_nx (set_ok (call_ok (xs := [nd p.1, gt g]) rfl rfl hm)) (dropC_ok (rCI_ok (u := .dd (dcl out)) (xs := [nd (nmove p.1 g).1, am (turnN ((nmove p.1 g).2 % 8) p.2)]) rfl ?_ rfl (g_put out _ _ (hlen ho)))))), ?_⟩
    · show dEq (.str g.1) (.str [72]) = _
      simp [hne]
    · refine cons_ok (op_ok rfl rfl ix_tup) (cons_ok (call_ok (xs := [am p.2, nd (nmove p.1 g).2]) (cons_ok rfl (cons_ok (op_ok rfl rfl ix_tup1) nil_ok)) rfl (g_turn _ _)) nil_ok)
    · unfold nshare
      rw [if_neg hne]
      rfl
theorem g_after {w : Nat} {l : NA} {g : NG} (hw : w ≤ 20) (hg : GF w g) (hl : KB w l) : G__law_after [.dic (dcl l), gt g] = .ok (.dic (dcl (nafter l g))) := by
  have hlen : ∀ {o : NA}, KB w o → o.length < 16777216 := fun {o} ho => by
    have h1 := ho.len
    have h2 : 2 ^ w ≤ 2 ^ 20 := Nat.pow_le_pow_right (by omega) hw
    omega
  obtain ⟨k1, k2⟩ := forL_mapP (loc := [3, 4, 5, 6, 7]) (g := gtName 3) (KB w) (fun p : Nat × Amp => nd p.1) (eA l g) (nshare g) l (fun out p hp ho => ⟨ho.share hg (hl.2 p hp), _, by
    obtain ⟨δ2, h1, h2⟩ := after_body hw hg hl ho hp
    exact ⟨δ2, rfl, h1, h2⟩⟩) [] (KB.nil w)
  generalize hout : l.foldl (nshare g) [] = out at k1 k2
  have hkeys : ∀ (o : NA), ((dcl o).map fun e => dkD e.1) = o.map fun p => nd p.1 := keys_dcl
  have k3 := (forL_mapP (loc := [3]) (g := gtName 3) (body := sIf (rT (rOp dNe (rOp dIxA (rVar 2) (rVar 3)) (rTup (rCons (rC (.int 0)) (rCons (rC (.int 0)) (rCons (rC (.int 0)) (rCons (rC (.int 0)) (rNil)))))))) (sPut 8 [] (rVar 3) (rOp dIxA (rVar 2) (rVar 3))) (sNext)) (KB w) (fun p : Nat × Amp => nd p.1)
    (fun kept => [.d (.dic (dcl l)), .d (gt g), .d (.dic (dcl out)), .un, .un, .un, .un, .un, .own none (.dd (dcl kept))]) (keepF fun p => if p.2 = a0 then none else some p.2) out (fun kept p hp ho => by
      have hlk := ix_dcl k2.1 hp
      have hz : (rTup (rCons (rC (.int 0)) (rCons (rC (.int 0)) (rCons (rC (.int 0)) (rCons (rC (.int 0)) (rNil)))))) [.d (.dic (dcl l)), .d (gt g), .d (.dic (dcl out)), .d (nd p.1), .un, .un, .un, .un, .own none (.dd (dcl kept))] = .ok (am a0) := rfl
      by_cases e : p.2 = a0
      · have hk0 : keepF (fun p => if p.2 = a0 then none else some p.2) kept p = kept := by unfold keepF; simp [e]
        rw [hk0]
        exact ⟨ho, _, _, rfl, if_f (opT_ok (b := false) (op_ok rfl rfl hlk) hz (by rw [dNe_am]; simp [e])) rfl, rfl⟩
      · have hk0 : keepF (fun p => if p.2 = a0 then none else some p.2) kept p = nset kept p.1 p.2 := by unfold keepF; simp [e]
        rw [hk0]
        refine ⟨?_, [.d (.dic (dcl l)), .d (gt g), .d (.dic (dcl out)), .d (nd p.1), .un, .un, .un, .un, .own none (.dd (dcl kept))], [.d (.dic (dcl l)), .d (gt g), .d (.dic (dcl out)), .d (nd p.1), .un, .un, .un, .un, .own none (.dd (dcl (nset kept p.1 p.2)))], rfl, if_t (opT_ok (b := true) (op_ok rfl rfl hlk) hz (by rw [dNe_am]; simp [e])) ?_, rfl⟩
        · have hk := nset_keys kept p.1 p.2
          have hb : ∀ x ∈ (nset kept p.1 p.2).map (·.1), x < 2 ^ w := by
            rw [hk]
            have h0 : ∀ x ∈ kept.map (·.1), x < 2 ^ w := fun x hx => by
              obtain ⟨q, hq, rfl⟩ := List.mem_map.mp hx
              exact ho.2 q hq
            split
            · exact h0
            · intro x hx
              rcases List.mem_append.mp hx with z | z
              · exact h0 x z
              · simp at z; subst z; exact k2.2 p hp
          refine ⟨?_, fun q hq => hb q.1 (List.mem_map.mpr ⟨q, hq, rfl⟩)⟩
          show ((nset kept p.1 p.2).map (·.1)).Nodup
          rw [hk]
          split
          · exact ho.1
          · rename_i hn
            exact List.nodup_append.mpr ⟨ho.1, by simp, fun x hx y hy e => by simp at hy; subst hy; exact hn (e ▸ hx)⟩
        · simp [hlk, thereD, OT.atC, chg, kPut_dcl (hlen ho), OT.put, ix]) [] (KB.nil w)).1
  rw [foldl_nset _ out [] (by simpa using k2.1), filterMap_ne, List.nil_append] at k3
  refine fnD_rt (δ := _) (seq_nx (δ' := eA l g []) rfl (seq_nx (δ' := eA l g out) (forK_ok rfl (by rw [hkeys]; exact k1)) (seq_nx (δ' := [.d (.dic (dcl l)), .d (gt g), .own none (.dd (dcl out)), .un, .un, .un, .un, .un, .own none (.dd (dcl []))]) rfl (seq_nx (δ' := [.d (.dic (dcl l)), .d (gt g), .d (.dic (dcl out)), .un, .un, .un, .un, .un, .own none (.dd (dcl (nafter l g)))]) ?_ rfl))))
  show forK [3] 2 (gtName 3) _ [.d (.dic (dcl l)), .d (gt g), .d (.dic (dcl out)), .un, .un, .un, .un, .un, .own none (.dd (dcl []))] = _
  refine forK_ok (es := dcl out) rfl ?_
  rw [hkeys]
  unfold nafter
  rw [hout]
  exact k3
theorem g_sim {w i : Nat} {gs : List NG} (hw : w ≤ 20) (hg : ∀ g ∈ gs, GF w g) (hi : i < 2 ^ w) : G__law_sim [.lst (gs.map gt), nd i] = .ok (.tup [.dic (dcl (nsim gs i).1), nd (nsim gs i).2]) ∧ KB w (nsim gs i).1 := by
  have k0 : KB w [(i, ((1, 0, 0, 0) : Amp))] := ⟨by simp, by simpa using hi⟩
  obtain ⟨k1, k2⟩ := forL_mapP (loc := [4]) (g := gtName 4) (body := sSeq (sSet 2 (rCall 2 G__law_after [] (rCons (rVar 2) (rCons (rVar 4) (rNil))))) (sSet 3 (rOp dAdd (rVar 3) (rB dToInt (rCons (rOp dEq (rOp dIxA (rVar 4) (rC (.int 0))) (rC (.str [72]))) (rNil)))))) (fun s : NA × Nat => KB w s.1) gt
    (fun s => [.d (.lst (gs.map gt)), .d (nd i), .d (.dic (dcl s.1)), .d (nd s.2), .un]) (fun s g => (nafter s.1 g, s.2 + (if g.1 = [72] then 1 else 0))) gs (fun s g hm hs => by
      have e0 : dIxA (gt g) (nd 0) = some (.str g.1) := ix_tup
      refine ⟨hs.after (hg g hm), _, _, rfl, seq_nx (set_ok (call_ok (xs := [.dic (dcl s.1), gt g]) rfl rfl (g_after hw (hg g hm) hs))) (set_ok (op_ok rfl (B_ok (xs := [.bl (decide (g.1 = [72]))]) (cons_ok (op_ok (op_ok rfl rfl e0) rfl rfl) nil_ok) rfl) (z := nd (s.2 + if g.1 = [72] then 1 else 0)) ?_)), rfl⟩
      by_cases e : g.1 = [72]
      · rw [if_pos e, decide_eq_true e]; rfl
      · rw [if_neg e, decide_eq_false e]; rfl) ([(i, (1, 0, 0, 0))], 0) k0
  exact ⟨fnD_rt (δ := _) (seq_nx (δ' := [.d (.lst (gs.map gt)), .d (nd i), .d (.dic (dcl [(i, (1, 0, 0, 0))])), .un, .un]) rfl (seq_nx (δ' := [.d (.lst (gs.map gt)), .d (nd i), .d (.dic (dcl [(i, (1, 0, 0, 0))])), .d (nd 0), .un]) rfl (seq_nx (for_ok (xs := gs.map gt) rfl k1) rfl))), k2⟩
theorem g_root {w t : Nat} {l : NA} (hw : w ≤ 20) (hl : KB w l) (ht : t < 1000000) : G__law_root [.dic (dcl l), nd t] = .ok (.dic (dcl (nroot t l))) := by
  have hlen : ∀ {o : NA}, KB w o → o.length < 16777216 := fun {o} ho => by
    have h1 := ho.len
    have h2 : 2 ^ w ≤ 2 ^ 20 := Nat.pow_le_pow_right (by omega) hw
    omega
  have step : ∀ (l : NA), KB w l → ∀ x : D, (sSeq (sSetO 3 (oDic0)) (sSeq (forK [4, 5] 0 (gtName 4) (sSeq (sSet 5 (rOp dIxA (rVar 0) (rVar 4))) (sPut 3 [] (rVar 4) (rTup (rCons (rOp (dI fun i j => some (.int (i - j))) (rOp dIxA (rVar 5) (rC (.int 1))) (rOp dIxA (rVar 5) (rC (.int 3)))) (rCons (rOp dAdd (rOp dIxA (rVar 5) (rC (.int 0))) (rOp dIxA (rVar 5) (rC (.int 2)))) (rCons (rOp dAdd (rOp dIxA (rVar 5) (rC (.int 1))) (rOp dIxA (rVar 5) (rC (.int 3)))) (rCons (rOp (dI fun i j => some (.int (i - j))) (rOp dIxA (rVar 5) (rC (.int 2))) (rOp dIxA (rVar 5) (rC (.int 0)))) (rNil))))))))) (sFrz [3] (sSet 0 (rVar 3))))) [.d (.dic (dcl l)), .d (nd t), .d x, .un, .un, .un] = .nx [.d (.dic (dcl (l.map fun p => (p.1, nroot1 p.2)))), .d (nd t), .d x, .d (.dic (dcl (l.map fun p => (p.1, nroot1 p.2)))), .un, .un] := by
    intro l hl x
    have k3 := (forL_mapP (loc := [4, 5]) (g := gtName 4) (body := sSeq (sSet 5 (rOp dIxA (rVar 0) (rVar 4))) (sPut 3 [] (rVar 4) (rTup (rCons (rOp (dI fun i j => some (.int (i - j))) (rOp dIxA (rVar 5) (rC (.int 1))) (rOp dIxA (rVar 5) (rC (.int 3)))) (rCons (rOp dAdd (rOp dIxA (rVar 5) (rC (.int 0))) (rOp dIxA (rVar 5) (rC (.int 2)))) (rCons (rOp dAdd (rOp dIxA (rVar 5) (rC (.int 1))) (rOp dIxA (rVar 5) (rC (.int 3)))) (rCons (rOp (dI fun i j => some (.int (i - j))) (rOp dIxA (rVar 5) (rC (.int 2))) (rOp dIxA (rVar 5) (rC (.int 0)))) (rNil)))))))) (fun k : NA => KB w k) (fun p : Nat × Amp => nd p.1)
      (fun m => [.d (.dic (dcl l)), .d (nd t), .d x, .own none (.dd (dcl m)), .un, .un]) (keepF fun p => some (nroot1 p.2)) l (fun m p hp hm => by
        have hk0 : keepF (fun p => some (nroot1 p.2)) m p = nset m p.1 (nroot1 p.2) := rfl
        have hlk := ix_dcl hl.1 hp
        rw [hk0]
        refine ⟨?_, [.d (.dic (dcl l)), .d (nd t), .d x, .own none (.dd (dcl m)), .d (nd p.1), .un], [.d (.dic (dcl l)), .d (nd t), .d x, .own none (.dd (dcl (nset m p.1 (nroot1 p.2)))), .d (nd p.1), .d (am p.2)], rfl, ?_, rfl⟩
        · have hk := nset_keys m p.1 (nroot1 p.2)
          have h0 : ∀ x ∈ m.map (·.1), x < 2 ^ w := fun x hx => by
            obtain ⟨q, hq, rfl⟩ := List.mem_map.mp hx
            exact hm.2 q hq
          have hb : ∀ x ∈ (nset m p.1 (nroot1 p.2)).map (·.1), x < 2 ^ w := by
            rw [hk]
            split
            · exact h0
            · intro x hx
              rcases List.mem_append.mp hx with z | z
              · exact h0 x z
              · simp at z; subst z; exact hl.2 p hp
          refine ⟨?_, fun q hq => hb q.1 (List.mem_map.mpr ⟨q, hq, rfl⟩)⟩
          show ((nset m p.1 (nroot1 p.2)).map (·.1)).Nodup
          rw [hk]
          split
          · exact hm.1
          · rename_i hn
            exact List.nodup_append.mpr ⟨hm.1, by simp, fun x hx y hy e => by simp at hy; subst hy; exact hn (e ▸ hx)⟩
        · refine seq_nx (set_ok (d := am p.2) (op_ok rfl rfl hlk)) ?_
          have hr : (rTup (rCons (rOp (dI fun i j => some (.int (i - j))) (rOp dIxA (rVar 5) (rC (.int 1))) (rOp dIxA (rVar 5) (rC (.int 3)))) (rCons (rOp dAdd (rOp dIxA (rVar 5) (rC (.int 0))) (rOp dIxA (rVar 5) (rC (.int 2)))) (rCons (rOp dAdd (rOp dIxA (rVar 5) (rC (.int 1))) (rOp dIxA (rVar 5) (rC (.int 3)))) (rCons (rOp (dI fun i j => some (.int (i - j))) (rOp dIxA (rVar 5) (rC (.int 2))) (rOp dIxA (rVar 5) (rC (.int 0)))) (rNil)))))) [.d (.dic (dcl l)), .d (nd t), .d x, .own none (.dd (dcl m)), .d (nd p.1), .d (am p.2)] = .ok (am (nroot1 p.2)) := by
            exact tup_ok (cons_ok (op_ok (op_ok rfl rfl (ix_am1 _)) (op_ok rfl rfl (ix_am3 _)) rfl) (cons_ok (op_ok (op_ok rfl rfl (ix_am0 _)) (op_ok rfl rfl (ix_am2 _)) (dAdd_int _ _)) (cons_ok (op_ok (op_ok rfl rfl (ix_am1 _)) (op_ok rfl rfl (ix_am3 _)) (dAdd_int _ _)) (cons_ok (op_ok (op_ok rfl rfl (ix_am2 _)) (op_ok rfl rfl (ix_am0 _)) rfl) nil_ok)))) (Nat.le_of_ble_eq_true rfl)
          rw [ev_put, show ([.d (.dic (dcl l)), .d (nd t), .d x, .own none (.dd (dcl m)), .d (nd p.1), .un] : Env).set 5 (.d (am p.2)) = [.d (.dic (dcl l)), .d (nd t), .d x, .own none (.dd (dcl m)), .d (nd p.1), .d (am p.2)] from rfl, hr]
          simp [thereD, OT.atC, chg, kPut_dcl (hlen hm), OT.put, ix]) [] (KB.nil w)).1
    rw [foldl_nset _ l [] (by simpa using hl.1), filterMap_map l nroot1, List.nil_append] at k3
    exact seq_nx (δ' := [.d (.dic (dcl l)), .d (nd t), .d x, .own none (.dd (dcl [])), .un, .un]) rfl (seq_nx (forK_ok (es := dcl l) rfl (by rw [keys_dcl]; exact k3)) rfl)
  have hfold : ∀ (xs : List D) (l : NA), KB w l → xs.foldl (fun l _ => l.map fun p => (p.1, nroot1 p.2)) l = nroot xs.length l ∧ KB w (nroot xs.length l) := by
    intro xs
    induction xs with
    | nil => intro l h; exact ⟨rfl, h⟩
    | cons x xs ih => intro l h; exact ih _ (KB.root 1 h)
  refine fnD_rt (δ := _) (seq_nx (δ' := [.d (.dic (dcl (nroot t l))), .d (nd t), .un, .un, .un, .un]) (for_ok (iR1_ok (j := (t : Int)) rfl (by omega)) ?_) rfl)
  have hx : (rangeD 0 (t : Int)).length = t := by rw [rangeD_length]; omega
  have h1 := (forL_foldP (xs := rangeD 0 (t : Int)) (loc := [2, 3, 4, 5]) (g := gtName 2) (fun l : NA => KB w l) (fun l => [.d (.dic (dcl l)), .d (nd t), .un, .un, .un, .un]) (fun (l : NA) (_ : D) => l.map fun (p : Nat × Amp) => (p.1, nroot1 p.2)) (fun l x _ hl => ⟨KB.root 1 hl, _, _, rfl, step l hl x, rfl⟩) l hl).1
  rw [(hfold _ l hl).1, hx] at h1
  exact h1
theorem g_same {w t : Nat} {x y : NA × Nat} (hw : w ≤ 20) (hx : KB w x.1) (hy : KB w y.1) (h1 : x.2 < 1000000) (h2 : y.2 < 1000000) : G__law_same [.tup [.dic (dcl x.1), nd x.2], .tup [.dic (dcl y.1), nd y.2], nd t] = .ok (.bl (nsame x y t)) := by
  have r1 := hx.root (y.2 - x.2)
  have r2 := hy.root (x.2 - y.2)
  have g1 : ∀ δ : Env, δ[0]? = some (.d (.tup [.dic (dcl x.1), nd x.2])) → δ[1]? = some (.d (.tup [.dic (dcl y.1), nd y.2])) → (rCall 2 G__law_root [] (rCons (rOp dIxA (rVar 0) (rC (.int 0))) (rCons (rB dMax2 (rCons (rC (.int 0)) (rCons (rOp (dI fun i j => some (.int (i - j))) (rOp dIxA (rVar 1) (rC (.int 1))) (rOp dIxA (rVar 0) (rC (.int 1)))) (rNil)))) (rNil)))) δ = .ok (.dic (dcl (nroot (y.2 - x.2) x.1))) := by
    intro δ e0 e1
    have v0 : rVar 0 δ = .ok (.tup [.dic (dcl x.1), nd x.2]) := by unfold rVar; rw [e0]
    have v1 : rVar 1 δ = .ok (.tup [.dic (dcl y.1), nd y.2]) := by unfold rVar; rw [e1]
    exact call_ok (xs := [.dic (dcl x.1), nd (y.2 - x.2)]) (cons_ok (op_ok v0 rfl ix_tup) (cons_ok (B_ok (cons_ok rfl (cons_ok (op_ok (op_ok v1 rfl ix_tup1) (op_ok v0 rfl ix_tup1) rfl) nil_ok)) (dMax_sub _ _)) nil_ok)) rfl (g_root hw hx (by omega))
  have g2 : ∀ δ : Env, δ[0]? = some (.d (.tup [.dic (dcl x.1), nd x.2])) → δ[1]? = some (.d (.tup [.dic (dcl y.1), nd y.2])) → (rCall 2 G__law_root [] (rCons (rOp dIxA (rVar 1) (rC (.int 0))) (rCons (rB dMax2 (rCons (rC (.int 0)) (rCons (rOp (dI fun i j => some (.int (i - j))) (rOp dIxA (rVar 0) (rC (.int 1))) (rOp dIxA (rVar 1) (rC (.int 1)))) (rNil)))) (rNil)))) δ = .ok (.dic (dcl (nroot (x.2 - y.2) y.1))) := by
    intro δ e0 e1
    have v0 : rVar 0 δ = .ok (.tup [.dic (dcl x.1), nd x.2]) := by unfold rVar; rw [e0]
    have v1 : rVar 1 δ = .ok (.tup [.dic (dcl y.1), nd y.2]) := by unfold rVar; rw [e1]
    exact call_ok (xs := [.dic (dcl y.1), nd (x.2 - y.2)]) (cons_ok (op_ok v1 rfl ix_tup) (cons_ok (B_ok (cons_ok rfl (cons_ok (op_ok (op_ok v0 rfl ix_tup1) (op_ok v1 rfl ix_tup1) rfl) nil_ok)) (dMax_sub _ _)) nil_ok)) rfl (g_root hw hy (by omega))
  generalize hone : nroot (y.2 - x.2) x.1 = one at g1 r1
  generalize htwo : nroot (x.2 - y.2) y.1 = two at g2 r2
  have hns : nsame x y t = (one.map (·.1) ++ two.map (·.1)).all fun i => decide (nget one i = turnN (t % 8) (nget two i)) := by
    unfold nsame
    rw [hone, htwo]
  have hlen : ∀ {o : NA}, KB w o → o.length ≤ 1048576 := fun {o} ho => by
    have h1 := ho.len
    have h2 : 2 ^ w ≤ 2 ^ 20 := Nat.pow_le_pow_right (by omega) hw
    omega
  have l1 := hlen r1
  have l2 := hlen r2
  have z4 : ∀ δ : Env, (rTup (rCons (rC (.int 0)) (rCons (rC (.int 0)) (rCons (rC (.int 0)) (rCons (rC (.int 0)) (rNil)))))) δ = .ok (.tup [nd 0, nd 0, nd 0, nd 0]) := fun _ => rfl
  obtain ⟨f1, f2⟩ := forL_all (loc := [5]) (g := gtName 5) (body := sIf (rT (rOp dNe (rGet2 (rVar 3) (rVar 5) (rTup (rCons (rC (.int 0)) (rCons (rC (.int 0)) (rCons (rC (.int 0)) (rCons (rC (.int 0)) (rNil))))))) (rCall 2 G__law_turn [] (rCons (rGet2 (rVar 4) (rVar 5) (rTup (rCons (rC (.int 0)) (rCons (rC (.int 0)) (rCons (rC (.int 0)) (rCons (rC (.int 0)) (rNil))))))) (rCons (rVar 2) (rNil)))))) (sRet (rC (.bl false))) (sNext)) nd
    [.d (.tup [.dic (dcl x.1), nd x.2]), .d (.tup [.dic (dcl y.1), nd y.2]), .d (nd t), .d (.dic (dcl one)), .d (.dic (dcl two)), .un] (fun i => decide (nget one i = turnN (t % 8) (nget two i))) (.bl false) (one.map (·.1) ++ two.map (·.1)) (fun i _ => by
      refine ⟨_, rfl, ?_⟩
      have ht : (rT (rOp dNe (rGet2 (rVar 3) (rVar 5) (rTup (rCons (rC (.int 0)) (rCons (rC (.int 0)) (rCons (rC (.int 0)) (rCons (rC (.int 0)) (rNil))))))) (rCall 2 G__law_turn [] (rCons (rGet2 (rVar 4) (rVar 5) (rTup (rCons (rC (.int 0)) (rCons (rC (.int 0)) (rCons (rC (.int 0)) (rCons (rC (.int 0)) (rNil))))))) (rCons (rVar 2) (rNil)))))) ([.d (.tup [.dic (dcl x.1), nd x.2]), .d (.tup [.dic (dcl y.1), nd y.2]), .d (nd t), .d (.dic (dcl one)), .d (.dic (dcl two)), .un].set 5 (.d (nd i))) = .ok (!decide (nget one i = turnN (t % 8) (nget two i))) :=
        opT_ok (get2_ok (es := dcl one) rfl rfl (z4 _) (get2_dcl one i)) (call_ok (xs := [am (nget two i), nd t]) (cons_ok (get2_ok (es := dcl two) rfl rfl (z4 _) (get2_dcl two i)) (cons_ok rfl nil_ok)) rfl (g_turn _ _)) (dNe_am _ _)
      refine ⟨fun e => ⟨_, if_f (by rw [ht, e]; rfl) rfl, rfl⟩, fun e => ⟨_, if_t (by rw [ht, e]; rfl) rfl⟩⟩)
  have hit : iItems (rOp dAdd (rB dListA (rCons (rVar 3) (rNil))) (rB dListA (rCons (rVar 4) (rNil)))) [.d (.tup [.dic (dcl x.1), nd x.2]), .d (.tup [.dic (dcl y.1), nd y.2]), .d (nd t), .d (.dic (dcl one)), .d (.dic (dcl two)), .un] = .ok ((one.map (·.1) ++ two.map (·.1)).map nd) := by
    have h := op_ok (g := dAdd) (ra := rB dListA (rCons (rVar 3) (rNil))) (rb := rB dListA (rCons (rVar 4) (rNil))) (δ := [.d (.tup [.dic (dcl x.1), nd x.2]), .d (.tup [.dic (dcl y.1), nd y.2]), .d (nd t), .d (.dic (dcl one)), .d (.dic (dcl two)), .un]) (z := .lst ((one.map (·.1) ++ two.map (·.1)).map nd)) (B_ok (xs := [.dic (dcl one)]) rfl (dListA_dcl one)) (B_ok (xs := [.dic (dcl two)]) rfl (dListA_dcl two)) (by
      show (if (one.map fun p => nd p.1).length + (two.map fun p => nd p.1).length ≤ 16777216 then some (D.lst ((one.map fun p => nd p.1) ++ (two.map fun p => nd p.1))) else none) = _
      rw [if_pos (by simp; omega), List.map_append, List.map_map, List.map_map]
      rfl)
    unfold iItems
    rw [h]
    rfl
  have pre : ∀ (k : DS) (o : SO), k [.d (.tup [.dic (dcl x.1), nd x.2]), .d (.tup [.dic (dcl y.1), nd y.2]), .d (nd t), .d (.dic (dcl one)), .d (.dic (dcl two)), .un] = o → sSeq (sSet 3 (rCall 2 G__law_root [] (rCons (rOp dIxA (rVar 0) (rC (.int 0))) (rCons (rB dMax2 (rCons (rC (.int 0)) (rCons (rOp (dI fun i j => some (.int (i - j))) (rOp dIxA (rVar 1) (rC (.int 1))) (rOp dIxA (rVar 0) (rC (.int 1)))) (rNil)))) (rNil))))) (sSeq (sSet 4 (rCall 2 G__law_root [] (rCons (rOp dIxA (rVar 1) (rC (.int 0))) (rCons (rB dMax2 (rCons (rC (.int 0)) (rCons (rOp (dI fun i j => some (.int (i - j))) (rOp dIxA (rVar 0) (rC (.int 1))) (rOp dIxA (rVar 1) (rC (.int 1)))) (rNil)))) (rNil))))) k) (startD 6 [.tup [.dic (dcl x.1), nd x.2], .tup [.dic (dcl y.1), nd y.2], nd t]) = o :=
    fun k o hk => seq_nx (set_ok (g1 _ rfl rfl)) (seq_nx (set_ok (g2 _ rfl rfl)) hk)
  rw [hns]
  cases e : (one.map (·.1) ++ two.map (·.1)).all fun i => decide (nget one i = turnN (t % 8) (nget two i)) with
  | true => exact fnD_rt (δ := _) (pre _ _ (seq_nx (for_ok hit (f1 e)) rfl))
  | false =>
    obtain ⟨δ2, h3⟩ := f2 e
    exact fnD_rt (δ := δ2) (pre _ _ (seq_rt (for_ok hit h3)))

theorem g_cell (ns : List Int) (k : Nat) : G__law_cell [.lst (ns.map .int), nd k] = .ok (.int (ns.getD k 0)) := by
  by_cases h : k < ns.length
  · refine fnD_rt (δ := [.d (.lst (ns.map .int)), .d (nd k)]) (seq_rt (if_t ?_ (ret_ok ?_)))
    · show Out.ok (decide ((k : Int) < ((ns.map D.int).length : Int))) = _
      simp [h]
    · refine op_ok rfl rfl ?_
      have h3 : atI (ns.map D.int) (k : Int) = some (.int (ns.getD k 0)) := by
        unfold atI ixN
        simp [h]
      show (match atI (ns.map D.int) (k : Int) with | some z => some z | none => _) = _
      rw [h3]
  · refine fnD_rt (δ := [.d (.lst (ns.map .int)), .d (nd k)]) (seq_nx (δ' := [.d (.lst (ns.map .int)), .d (nd k)]) (if_f ?_ rfl) ?_)
    · show Out.ok (decide ((k : Int) < ((ns.map D.int).length : Int))) = _
      simp [h]
    · have e : ns.getD k 0 = 0 := by simp [List.getD, List.getElem?_eq_none (Nat.le_of_not_lt h)]
      rw [e]
      rfl
/-! ### the finite part -/
def nm (p : Nat) : List Nat := [[67, 83], [67, 83, 68, 71], [67, 67, 90], [67, 67, 88], [67, 83, 87, 65, 80], [67, 88], [87], [99, 115]].getD p []
def sz (p : Nat) : Int := [2, 2, 3, 3, 3, -1, -1, -1].getD p 0
def Qn : Nat → List (List Int)
  | 0 => [[]]
  | n + 1 => (Qn n).flatMap fun q => [-1, 0, 1, 2, 3, 4].map fun x => x :: q
theorem mem_Qn : ∀ (n : Nat) (qs : List Int), qs.length = n → (∀ x ∈ qs, -1 ≤ x ∧ x ≤ 4) → qs ∈ Qn n
  | 0, qs, h, _ => by
    have : qs = [] := List.length_eq_zero_iff.mp h
    subst this
    simp [Qn]
  | n + 1, [], h, _ => by simp at h
  | n + 1, x :: qs, h, hx => by
    refine List.mem_flatMap.mpr ⟨qs, mem_Qn n qs (by simpa using h) fun y hy => hx y (by simp [hy]), ?_⟩
    have := hx x (by simp)
    have : x = -1 ∨ x = 0 ∨ x = 1 ∨ x = 2 ∨ x = 3 ∨ x = 4 := by omega
    rcases this with e | e | e | e | e | e <;> subst e <;> simp
def valid (p : Nat) (qs : List Int) : Bool := decide ((qs.length : Int) = sz p) && (qs.all (fun x => decide (0 ≤ x)) && decide qs.Nodup)
def T1 : List Nat := [84]
def Td : List Nat := [84, 68, 71]
def Cx : List Nat := [67, 88]
def ccz (a b c : Nat) : List NG := [([84], [a]), ([84], [b]), ([84], [c]), ([67, 88], [a, b]), ([84, 68, 71], [b]), ([67, 88], [a, b]), ([67, 88], [b, c]), ([84, 68, 71], [c]), ([67, 88], [a, c]), ([84], [c]), ([67, 88], [b, c]), ([84, 68, 71], [c]), ([67, 88], [a, c])]
def gatesOf (p : Nat) (qs : List Nat) : List NG :=
  let a := qs.getD 0 0
  let b := qs.getD 1 0
  let c := qs.getD 2 0
  match p with
  | 0 => [([84], [a]), ([84], [b]), ([67, 88], [a, b]), ([84, 68, 71], [b]), ([67, 88], [a, b])]
  | 1 => [([84, 68, 71], [a]), ([84, 68, 71], [b]), ([67, 88], [a, b]), ([84], [b]), ([67, 88], [a, b])]
  | 2 => ccz a b c
  | 3 => [([72], [c])] ++ ccz a b c ++ [([72], [c])]
  | _ => [([67, 88], [c, b])] ++ ([([72], [c])] ++ ccz a b c ++ [([72], [c])]) ++ [([67, 88], [c, b])]
def gq (p : Nat) (qs : List Int) : List NG := gatesOf p (qs.map Int.toNat)
def chk1 (p : Nat) (qs : List Int) : Bool := match G_macro_gates [.str (nm p), .tup (qs.map .int)] with
  | .ok (.lst xs) => valid p qs && beqDL xs ((gq p qs).map gt)
  | .ex x => !valid p qs && (x.c == 1 && x.line.isNone)
  | _ => false
theorem all1 : ((List.range 8).all fun p => (List.range 5).all fun n => (Qn n).all fun qs => chk1 p qs) = true := by decide +kernel
def stepF (qs : List Int) (b : Bool) (k : Nat) : Bool := b && (decide (0 ≤ qs.getD k 0) && !decide (qs.getD k 0 ∈ qs.take k))
def chk3 (p : Nat) (qs : List Int) : Bool := (List.range qs.length).foldl (stepF qs) (decide ((qs.length : Int) = sz p)) == valid p qs
theorem all3 : ((List.range 8).all fun p => (List.range 5).all fun n => (Qn n).all fun qs => chk3 p qs) = true := by decide +kernel
end L2.DL.law_k15_macros

/-! ## P15c -/
set_option linter.all false
set_option maxRecDepth 100000
set_option maxHeartbeats 0
namespace L2.DL.law_k15_macros
open L2.DL PySem PySem.W PyProof.Rows
def lenOf (p : Nat) : Nat := [5, 5, 13, 15, 17].getD p 0
def DN : D := .lst [.str [67, 83], .str [67, 83, 68, 71], .str [67, 67, 90], .str [67, 67, 88], .str [67, 83, 87, 65, 80], .str [67, 88], .str [87], .str [99, 115]]
def DZ : D := .lst [.int 2, .int 2, .int 3, .int 3, .int 3, .int (-1), .int (-1), .int (-1)]
def DL' : D := .lst [.int 5, .int 5, .int 13, .int 15, .int 17]
theorem lt8 {p : Nat} (h : p < 8) : p = 0 ∨ p = 1 ∨ p = 2 ∨ p = 3 ∨ p = 4 ∨ p = 5 ∨ p = 6 ∨ p = 7 := by omega
theorem ixn {p : Nat} (h : p < 8) : dIxA DN (nd p) = some (.str (nm p)) := by
  rcases lt8 h with e | e | e | e | e | e | e | e <;> subst e <;> rfl
theorem ixz {p : Nat} (h : p < 8) : dIxA DZ (nd p) = some (.int (sz p)) := by
  rcases lt8 h with e | e | e | e | e | e | e | e <;> subst e <;> rfl
theorem ixl {p : Nat} (h : p < 5) : dIxA DL' (nd p) = some (nd (lenOf p)) := by
  have : p = 0 ∨ p = 1 ∨ p = 2 ∨ p = 3 ∨ p = 4 := by omega
  rcases this with e | e | e | e | e <;> subst e <;> rfl
theorem sz_le {p : Nat} (h : p < 8) : sz p ≤ 3 := by
  rcases lt8 h with e | e | e | e | e | e | e | e <;> subst e <;> decide
section
variable {ns : List Int} {δ : Env}
theorem cell_ok {re : DE} (h0 : δ[0]? = some (.d (.lst (ns.map .int)))) {k : Nat} (hk : re δ = .ok (nd k)) : (rCall 2 G__law_cell [] (rCons (rVar 0) (rCons re (rNil)))) δ = .ok (.int (ns.getD k 0)) := by
  have v0 : rVar 0 δ = .ok (.lst (ns.map .int)) := by unfold rVar; rw [h0]
  exact call_ok (xs := [.lst (ns.map .int), nd k]) (cons_ok v0 (cons_ok hk nil_ok)) rfl (g_cell ns k)
theorem int_ok {re : DE} {c : Int} (h : re δ = .ok (.int c)) : (rB dToInt (rCons re (rNil))) δ = .ok (.int c) := B_ok (cons_ok h nil_ok) rfl
theorem mod_ok {re : DE} {c : Int} {m : Nat} (hm : 0 < m) (h : re δ = .ok (.int c)) : (rOp dMod (rB dToInt (rCons re (rNil))) (rC (.int (m : Int)))) δ = .ok (nd (c % m).toNat) := op_ok (int_ok h) rfl (dMod_nat c hm)
end
variable (ns : List Int)
abbrev E4 (p : Nat) : Env := [.d (.lst (ns.map .int)), .d DN, .d DZ, .d DL', .d (nd p), .un, .un, .un, .un, .un, .un, .un, .un]
theorem sg4 (p0 : Nat) (h0 : p0 < 8) : ∃ p, p < 8 ∧ p_law_4 (E4 ns p0) = .nx (E4 ns p) := by
  have hc : (rCall 2 G__law_cell [] (rCons (rVar 0) (rCons (rC (.int 0)) (rNil)))) (E4 ns p0) = .ok (.int (ns.getD 0 0)) := cell_ok (k := 0) rfl rfl
  have hd : (rOp dFdiv (rCall 2 G__law_cell [] (rCons (rVar 0) (rCons (rC (.int 0)) (rNil)))) (rC (.int 8))) (E4 ns p0) = .ok (.int (ns.getD 0 0 / 8)) := op_ok hc rfl (dFdiv_small _ (m := 8) (by omega) (by omega))
  have ht := opT_ok (g := dNe) (b := !decide ((((ns.getD 0 0 / 8) % (4 : Nat)).toNat : Int) = 0)) (mod_ok (m := 4) (by omega) hd) (rb := rC (.int 0)) rfl rfl
  by_cases e : (((ns.getD 0 0 / 8) % (4 : Nat)).toNat : Int) = 0
  · exact ⟨p0, h0, if_f (ht.trans (congrArg Out.ok (by simp only [e]; rfl))) rfl⟩
  · refine ⟨((ns.getD 0 0 / 8) % (5 : Nat)).toNat, Nat.lt_of_lt_of_le (mod_lt _ (by omega)) (by omega), if_t (ht.trans (congrArg Out.ok (by simp only [e]; rfl))) (set_ok (mod_ok (m := 5) (by omega) hd))⟩
abbrev E5 (p n : Nat) : Env := [.d (.lst (ns.map .int)), .d DN, .d DZ, .d DL', .d (nd p), .d (nd n), .un, .un, .un, .un, .un, .un, .un]
theorem sg5 (p : Nat) (h : p < 8) : ∃ n, n ≤ 4 ∧ p_law_5 (E4 ns p) = .nx (E5 ns p n) := by
  have hs := sz_le h
  refine ⟨if 2 < sz p then 3 else 2, by split <;> omega, set_ok (B_ok (cons_ok rfl (cons_ok (op_ok rfl rfl (ixz h)) nil_ok)) ?_)⟩
  show some (D.int (if sz p > 2 then sz p else 2)) = _
  by_cases e : 2 < sz p
  · rw [if_pos e, if_pos e, show sz p = 3 by omega]; rfl
  · rw [if_neg (by omega), if_neg e]; rfl
theorem sg6 (p n0 : Nat) (h0 : n0 ≤ 4) : ∃ n, n ≤ 4 ∧ p_law_6 (E5 ns p n0) = .nx (E5 ns p n) := by
  have hc : (rCall 2 G__law_cell [] (rCons (rVar 0) (rCons (rC (.int 1)) (rNil)))) (E5 ns p n0) = .ok (.int (ns.getD 1 0)) := cell_ok (k := 1) rfl rfl
  have ht := opT_ok (g := dEq) (b := decide (((ns.getD 1 0 % (4 : Nat)).toNat : Int) = 0)) (mod_ok (m := 4) (by omega) hc) (rb := rC (.int 0)) rfl rfl
  by_cases e : ((ns.getD 1 0 % (4 : Nat)).toNat : Int) = 0
  · refine ⟨((ns.getD 1 0 / 4) % (5 : Nat)).toNat, Nat.le_of_lt_succ (mod_lt _ (by omega)), if_t (ht.trans (congrArg Out.ok (by simp only [e]; rfl))) (set_ok (mod_ok (m := 5) (by omega) (op_ok hc rfl (dFdiv_small _ (m := 4) (by omega) (by omega)))))⟩
  · exact ⟨n0, h0, if_f (ht.trans (congrArg Out.ok (by simp only [e]; rfl))) rfl⟩
abbrev E6 (p n : Nat) (qs : List Int) : Env := [.d (.lst (ns.map .int)), .d DN, .d DZ, .d DL', .d (nd p), .d (nd n), .d (.lst (qs.map .int)), .un, .un, .un, .un, .un, .un]
theorem rng_ok {δ : Env} {n : Nat} (h : δ[5]? = some (.d (nd n))) (hn : n ≤ 4) : iR1 (rVar 5) δ = .ok ((List.range n).map nd) := by
  have v : rVar 5 δ = .ok (nd n) := by unfold rVar; rw [h]
  rw [iR1_ok (j := (n : Int)) v (by omega), rangeD_nat]
theorem sg7 (p n : Nat) (hn : n ≤ 4) : ∃ qs : List Int, qs.length = n ∧ (∀ x ∈ qs, -1 ≤ x ∧ x ≤ 4) ∧ p_law_7 (E5 ns p n) = .nx (E6 ns p n qs) := by
  refine ⟨(List.range n).map fun k => (((ns.getD (2 + k) 0 + k) % (5 : Nat)).toNat : Int), by simp, fun x hx => ?_, set_ok ?_⟩
  · obtain ⟨k, _, rfl⟩ := List.mem_map.mp hx
    have := mod_lt (ns.getD (2 + k) 0 + k) (m := 5) (by omega)
    omega
  · rw [List.map_map]
    refine comp_ok nd _ (List.range n) (rng_ok rfl hn) (by simp; omega) fun k _ => ⟨_, rfl, rfl, ?_⟩
    exact mod_ok (m := 5) (by omega) (op_ok (cell_ok (k := 2 + k) rfl (op_ok rfl rfl (dAdd_nat 2 k))) rfl rfl)
theorem sg8 (p n : Nat) (qs0 : List Int) (hn : n ≤ 4) (h1 : qs0.length = n) (h2 : ∀ x ∈ qs0, -1 ≤ x ∧ x ≤ 4) : ∃ qs : List Int, qs.length = n ∧ (∀ x ∈ qs, -1 ≤ x ∧ x ≤ 4) ∧ p_law_8 (E6 ns p n qs0) = .nx (E6 ns p n qs) := by
  have hc : (rCall 2 G__law_cell [] (rCons (rVar 0) (rCons (rC (.int 6)) (rNil)))) (E6 ns p n qs0) = .ok (.int (ns.getD 6 0)) := cell_ok (k := 6) rfl rfl
  have ht := opT_ok (g := dEq) (b := decide (((ns.getD 6 0 % (4 : Nat)).toNat : Int) = 0)) (mod_ok (m := 4) (by omega) hc) (rb := rC (.int 0)) rfl rfl
  by_cases e : ((ns.getD 6 0 % (4 : Nat)).toNat : Int) = 0
  · refine ⟨(List.range n).map fun k => ((ns.getD (2 + k) 0 % (6 : Nat)).toNat : Int) - 1, by simp, fun x hx => ?_, if_t (ht.trans (congrArg Out.ok (by simp only [e]; rfl))) (set_ok ?_)⟩
    · obtain ⟨k, _, rfl⟩ := List.mem_map.mp hx
      have := mod_lt (ns.getD (2 + k) 0) (m := 6) (by omega)
      omega
    · rw [List.map_map]
      refine comp_ok nd _ (List.range n) (rng_ok rfl hn) (by simp; omega) fun k _ => ⟨_, rfl, rfl, ?_⟩
      exact op_ok (mod_ok (m := 6) (by omega) (cell_ok (k := 2 + k) rfl (op_ok rfl rfl (dAdd_nat 2 k)))) rfl rfl
  · exact ⟨qs0, h1, h2, if_f (ht.trans (congrArg Out.ok (by simp only [e]; rfl))) rfl⟩
end L2.DL.law_k15_macros

/-! ## P15d -/
set_option linter.all false
set_option maxRecDepth 100000
set_option maxHeartbeats 0
namespace L2.DL.law_k15_macros
open L2.DL PySem PySem.W PyProof.Rows
theorem nsim_roots (gs : List NG) (i : Nat) : (nsim gs i).2 ≤ gs.length := by
  have : ∀ (gs : List NG) (s : NA × Nat), (gs.foldl (fun s g => (nafter s.1 g, s.2 + (if g.1 = [72] then 1 else 0))) s).2 ≤ s.2 + gs.length := by
    intro gs
    induction gs with
    | nil => intro s; simp
    | cons g gs ih =>
      intro s
      rw [List.foldl_cons, List.length_cons]
      have := ih (nafter s.1 g, s.2 + (if g.1 = [72] then 1 else 0))
      have h2 : (if g.1 = [72] then 1 else 0) ≤ 1 := by split <;> omega
      simp only at this
      omega
  have h := this gs ([(i, (1, 0, 0, 0))], 0)
  simpa [nsim] using h
theorem cut_take {α : Type} (xs : List α) {k : Nat} (h : k ≤ xs.length) : cutD xs none (some (k : Int)) = xs.take k := by
  unfold cutD
  rw [HT.sIx_none, HT.sIx_nat]
  simp
theorem notIn_ints (x : Int) (ys : List Int) : dNotInA (.int x) (.lst (ys.map .int)) = some (.bl (!decide (x ∈ ys))) := by
  have h1 : (ys.map D.int).all flatD = true := by simp [flatD]
  have h2 : inD (.int x) (ys.map D.int) = decide (x ∈ ys) := by
    unfold inD
    rw [List.any_map, Bool.eq_iff_iff]
    simp only [List.any_eq_true, Function.comp, eqD, beq_iff_eq, decide_eq_true_eq]
    exact ⟨fun ⟨y, h, e⟩ => e ▸ h, fun h => ⟨x, h, rfl⟩⟩
  show ((match (if flatD (.int x) && (ys.map D.int).all flatD then some (inD (.int x) (ys.map D.int)) else none) with | some b => some b | none => dHas (.int x) (.lst (ys.map D.int))).map fun b => D.bl (if true then !b else b)) = _
  rw [h1, h2]
  rfl
theorem ix_ints {qs : List Int} {k : Nat} (h : k < qs.length) : dIxA (.lst (qs.map .int)) (nd k) = some (.int (qs.getD k 0)) := by
  have h3 : atI (qs.map D.int) (k : Int) = some (.int (qs.getD k 0)) := by
    unfold atI ixN
    simp [h]
  show (match atI (qs.map D.int) (k : Int) with | some z => some z | none => _) = _
  rw [h3]
variable (ns : List Int)
abbrev E8 (p n : Nat) (qs : List Int) (i : Nat) : Env := [.d (.lst (ns.map .int)), .d DN, .d DZ, .d DL', .d (nd p), .d (nd n), .d (.lst (qs.map .int)), .un, .d (nd i), .un, .un, .un, .un]
abbrev E9 (p n : Nat) (qs : List Int) (i : Nat) (b : Bool) : Env := [.d (.lst (ns.map .int)), .d DN, .d DZ, .d DL', .d (nd p), .d (nd n), .d (.lst (qs.map .int)), .un, .d (nd i), .d (.bl b), .un, .un, .un]
abbrev E10 (p n : Nat) (qs : List Int) (i : Nat) (b : Bool) (gs : List NG) : Env := [.d (.lst (ns.map .int)), .d DN, .d DZ, .d DL', .d (nd p), .d (nd n), .d (.lst (qs.map .int)), .un, .d (nd i), .d (.bl b), .d (.lst (gs.map gt)), .un, .un]
theorem sg9 (p n : Nat) (qs : List Int) : ∃ i, i < 32 ∧ p_law_9 (E6 ns p n qs) = .nx (E8 ns p n qs i) :=
  ⟨_, mod_lt (ns.getD 7 0) (m := 32) (by omega), set_ok (mod_ok (m := 32) (by omega) (cell_ok (k := 7) rfl rfl))⟩
theorem sg10 (p n : Nat) (qs : List Int) (i : Nat) (hp : p < 8) : p_law_10 (E8 ns p n qs i) = .nx (E9 ns p n qs i (decide ((n : Int) = sz p))) := set_ok (op_ok rfl (op_ok rfl rfl (ixz hp)) rfl)
theorem sg11 (p : Nat) (qs : List Int) (i : Nat) (hn : qs.length ≤ 4) (b : Bool) : p_law_11 (E9 ns p qs.length qs i b) = .nx (E9 ns p qs.length qs i ((List.range qs.length).foldl (stepF qs) b)) := by
  refine for_ok (rng_ok rfl hn) ?_
  refine (forL_mapP (fun _ : Bool => True) nd (E9 ns p qs.length qs i) (stepF qs) (List.range qs.length) (fun b k hk _ => ⟨trivial, [.d (.lst (ns.map .int)), .d DN, .d DZ, .d DL', .d (nd p), .d (nd qs.length), .d (.lst (qs.map .int)), .d (nd k), .d (nd i), .d (.bl b), .un, .un, .un], _, rfl, set_ok (d := .bl (stepF qs b k)) ?_, rfl⟩) b trivial).1
  have hk' : k < qs.length := List.mem_range.mp hk
  cases b with
  | false => exact and_f rfl
  | true =>
    refine and_t rfl ?_
    have ha := op_ok (g := dI fun i j => some (.bl (decide (j ≤ i)))) (ra := rOp dIxA (rVar 6) (rVar 7)) (rb := rC (.int 0)) (δ := [.d (.lst (ns.map .int)), .d DN, .d DZ, .d DL', .d (nd p), .d (nd qs.length), .d (.lst (qs.map .int)), .d (nd k), .d (nd i), .d (.bl true), .un, .un, .un]) (op_ok rfl rfl (ix_ints hk')) rfl rfl
    have hb : (rOp dNotInA (rOp dIxA (rVar 6) (rVar 7)) (rSl (rVar 6) (pNone) (pSome (rVar 7)))) [.d (.lst (ns.map .int)), .d DN, .d DZ, .d DL', .d (nd p), .d (nd qs.length), .d (.lst (qs.map .int)), .d (nd k), .d (nd i), .d (.bl true), .un, .un, .un] = .ok (.bl (!decide (qs.getD k 0 ∈ qs.take k))) := by
      refine op_ok (op_ok rfl rfl (ix_ints hk')) (y := .lst ((qs.take k).map .int)) ?_ (notIn_ints _ _)
      show Out.ok (D.lst (cutD (qs.map D.int) none (some (k : Int)))) = _
      rw [cut_take _ (by simp; omega), List.map_take]
    unfold stepF
    by_cases e : 0 ≤ qs.getD k 0
    · have ha' := ha.trans (congrArg (fun b => Out.ok (D.bl b)) (show decide (0 ≤ qs.getD k 0) = true from decide_eq_true e))
      rw [decide_eq_true e]
      exact and_t ha' hb
    · have ha' := ha.trans (congrArg (fun b => Out.ok (D.bl b)) (show decide (0 ≤ qs.getD k 0) = false from decide_eq_false e))
      rw [decide_eq_false e]
      exact and_f ha'
theorem at1 {p : Nat} {qs : List Int} (hp : p < 8) (hn : qs.length ≤ 4) (hq : ∀ x ∈ qs, -1 ≤ x ∧ x ≤ 4) : chk1 p qs = true ∧ chk3 p qs = true := by
  have h1 := all1
  have h3 := all3
  have hm := mem_Qn qs.length qs rfl hq
  simp only [List.all_eq_true, List.mem_range] at h1 h3
  exact ⟨h1 p hp qs.length (by omega) qs hm, h3 p hp qs.length (by omega) qs hm⟩
end L2.DL.law_k15_macros

/-! ## P15e -/
set_option linter.all false
set_option maxRecDepth 100000
set_option maxHeartbeats 0
namespace L2.DL.law_k15_macros
open L2.DL PySem PySem.W PyProof.Rows
def chk4 (p : Nat) (qs : List Int) : Bool := !valid p qs || (match G__law_list_fits [.lst ((gq p qs).map gt), nd 5] with
  | .ok (.bl b) => b && ((gq p qs).all (gfB 5) && (decide ((gq p qs).length = lenOf p) && decide (p < 5)))
  | _ => false)
def chk5 (p : Nat) (qs : List Int) (i : Nat) : Bool := match G__law_due [.str (nm p), .lst (qs.map .int), nd i] with
  | .ok (.tup [.int m, .int t]) => decide (0 ≤ m) && (decide (0 ≤ t) && (decide (m.toNat < 32) && nsame (nsim (gq p qs) i) ([(m.toNat, turnN (t.toNat % 8) (1, 0, 0, 0))], 0) 0))
  | _ => false
variable (ns : List Int)
theorem sg12a {p : Nat} {qs : List Int} {i : Nat} (hp : p < 8) (hc : chk1 p qs = true) (hv : valid p qs = true) : p_law_12 (E9 ns p qs.length qs i true) = .nx (E10 ns p qs.length qs i true (gq p qs)) := by
  refine try_ok (set_ok (call_ok (xs := [.str (nm p), .tup (qs.map .int)]) (cons_ok (op_ok rfl rfl (ixn hp)) (cons_ok (B_ok (xs := [.lst (qs.map .int)]) rfl rfl) nil_ok)) rfl ?_))
  unfold chk1 at hc
  split at hc
  · rename_i xs e
    simp only [Bool.and_eq_true] at hc
    rw [e, beqDL_eq _ _ hc.2]
  · rw [hv] at hc; simp at hc
  · cases hc
theorem sg12b {p : Nat} {qs : List Int} {i : Nat} (hp : p < 8) (hc : chk1 p qs = true) (hv : valid p qs = false) : ∃ δ, p_law_12 (E9 ns p qs.length qs i false) = .rt (.bl true) δ := by
  unfold chk1 at hc
  split at hc
  · rw [hv] at hc; simp at hc
  · rename_i x e
    simp only [Bool.and_eq_true, beq_iff_eq] at hc
    obtain ⟨_, h1, h2⟩ := hc
    refine ⟨_, try_rt (set_ex (call_ex (xs := [.str (nm p), .tup (qs.map .int)]) (cons_ok (op_ok rfl rfl (ixn hp)) (cons_ok (B_ok (xs := [.lst (qs.map .int)]) rfl rfl) nil_ok)) rfl e)) (by rw [h1]; omega) (by rw [h1]; rfl) (δ2 := (E9 ns p qs.length qs i false).set 11 .exc) ?_⟩
    show (if x.line.isNone = true then _ else SO.stuck) = _
    rw [if_pos h2, h1]
    rfl
  · cases hc
theorem sg13 {p : Nat} {qs : List Int} {i : Nat} (hv : valid p qs = true) (hc : chk4 p qs = true) : p_law_13 (E10 ns p qs.length qs i true (gq p qs)) = .nx (E10 ns p qs.length qs i true (gq p qs)) := by
  unfold chk4 at hc
  rw [hv] at hc
  simp only [Bool.not_true, Bool.false_or] at hc
  split at hc
  · rename_i b e
    simp only [Bool.and_eq_true, decide_eq_true_eq] at hc
    obtain ⟨hb, _, hlen, hp⟩ := hc
    subst hb
    refine if_f (orT_f (notT (b := true) rfl) (orT_f (notT (b := true) (T_ok (call_ok (xs := [.lst ((gq p qs).map gt), nd 5]) rfl rfl e))) (orT_f (opT_ok (B_ok (xs := [.lst ((gq p qs).map gt)]) rfl rfl) (op_ok rfl rfl (ixl hp)) (b := false) ?_) (opT_ok rfl rfl (b := false) rfl)))) rfl
    show some (D.bl (!decide ((((gq p qs).map gt).length : Int) = (lenOf p : Int)))) = _
    rw [List.length_map, hlen]
    simp
  · cases hc
theorem sg15 {p : Nat} {qs : List Int} {i : Nat} (hp : p < 8) (hi : i < 32) (hg : (gq p qs).all (gfB 5) = true) (hl : (gq p qs).length ≤ 100) (hc : chk5 p qs i = true) : ∃ δ, sSeq p_law_14 p_law_15 (E10 ns p qs.length qs i true (gq p qs)) = .rt (.bl true) δ := by
  unfold chk5 at hc
  split at hc
  · rename_i m t e
    simp only [Bool.and_eq_true, decide_eq_true_eq] at hc
    obtain ⟨hm, ht, hm2, hs⟩ := hc
    obtain ⟨m, rfl⟩ := Int.eq_ofNat_of_zero_le hm
    obtain ⟨t, rfl⟩ := Int.eq_ofNat_of_zero_le ht
    simp only [Int.toNat_natCast] at hm2 hs
    obtain ⟨g1, g2⟩ := g_sim (w := 5) (i := i) (gs := gq p qs) (by omega) (fun g hgm => gf_of (List.all_eq_true.mp hg g hgm)) hi
    have hr := nsim_roots (gq p qs) i
    have k2 : KB 5 [(m, turnN (t % 8) (1, 0, 0, 0))] := ⟨by simp, by simpa using hm2⟩
    have gs := g_same (w := 5) (t := 0) (x := nsim (gq p qs) i) (y := ([(m, turnN (t % 8) (1, 0, 0, 0))], 0)) (by omega) g2 k2 (by omega) (by simp)
    rw [hs] at gs
    refine ⟨_, seq_nx (set_ok (call_ok (xs := [.str (nm p), .lst (qs.map .int), nd i]) (cons_ok (op_ok rfl rfl (ixn hp)) (cons_ok rfl (cons_ok rfl nil_ok))) rfl e)) (ret_ok (call_ok (xs := [.tup [.dic (dcl (nsim (gq p qs) i).1), nd (nsim (gq p qs) i).2], .tup [.dic (dcl [(m, turnN (t % 8) (1, 0, 0, 0))]), nd 0], nd 0]) ?_ rfl gs))⟩
    refine cons_ok (call_ok (xs := [.lst ((gq p qs).map gt), nd i]) rfl rfl g1) (cons_ok (tup_ok (cons_ok (disp1 (op_ok rfl rfl ix_tup) (call_ok (xs := [am (1, 0, 0, 0), nd t]) (cons_ok rfl (cons_ok (op_ok rfl rfl ix_tup1) nil_ok)) rfl (g_turn _ _))) (cons_ok rfl nil_ok)) (Nat.le_of_ble_eq_true rfl)) (cons_ok rfl nil_ok))
  · cases hc
theorem plain' (all4 : ((List.range 8).all fun p => (List.range 5).all fun n => (Qn n).all fun qs => chk4 p qs) = true) (all5 : ((List.range 5).all fun p => (List.range 4).all fun n => (Qn n).all fun qs => !valid p qs || (List.range 32).all fun i => chk5 p qs i) = true) (ns : List Int) : G_law [.lst (ns.map D.int)] = .ok (.bl true) := by
  have h3 : p_law_3 (startD 13 [.lst (ns.map D.int)] |>.set 1 (.d DN) |>.set 2 (.d DZ) |>.set 3 (.d DL')) = .nx (E4 ns (ns.getD 0 0 % (8 : Nat)).toNat) := set_ok (mod_ok (m := 8) (by omega) (cell_ok (k := 0) rfl rfl))
  obtain ⟨p, hp, h4⟩ := sg4 ns _ (mod_lt (ns.getD 0 0) (m := 8) (by omega))
  obtain ⟨n0, hn0, h5⟩ := sg5 ns p hp
  obtain ⟨n, hn, h6⟩ := sg6 ns p n0 hn0
  obtain ⟨q0, hq1, hq2, h7⟩ := sg7 ns p n hn
  obtain ⟨qs, hqn, hqr, h8⟩ := sg8 ns p n q0 hn hq1 hq2
  obtain ⟨i, hi, h9⟩ := sg9 ns p n qs
  subst hqn
  have h10 := sg10 ns p qs.length qs i hp
  have h11 := sg11 ns p qs i hn (decide ((qs.length : Int) = sz p))
  obtain ⟨c1, c3⟩ := at1 hp hn hqr
  have e3 : (List.range qs.length).foldl (stepF qs) (decide ((qs.length : Int) = sz p)) = valid p qs := by
    unfold chk3 at c3
    exact beq_iff_eq.mp c3
  rw [e3] at h11
  have pre : ∀ o : SO, sSeq p_law_12 (sSeq p_law_13 (sSeq p_law_14 p_law_15)) (E9 ns p qs.length qs i (valid p qs)) = o → r_law (startD 13 [.lst (ns.map D.int)]) = o := fun o ho =>
    seq_nx (set_ok (d := DN) rfl) (seq_nx (set_ok (d := DZ) rfl) (seq_nx (set_ok (d := DL') rfl) (seq_nx h3 (seq_nx h4 (seq_nx h5 (seq_nx h6 (seq_nx h7 (seq_nx h8 (seq_nx h9 (seq_nx h10 (seq_nx h11 ho)))))))))))
  cases hv : valid p qs with
  | false =>
    obtain ⟨δ, h12⟩ := sg12b ns (i := i) hp c1 hv
    exact fnD_rt (δ := δ) (pre _ (by rw [hv]; exact seq_rt h12))
  | true =>
    have hm := mem_Qn qs.length qs rfl hqr
    simp only [List.all_eq_true, List.mem_range] at all4 all5
    have c4 := all4 p hp qs.length (by omega) qs hm
    have hc4 := c4
    unfold chk4 at hc4
    rw [hv] at hc4
    simp only [Bool.not_true, Bool.false_or] at hc4
    split at hc4
    · simp only [Bool.and_eq_true, decide_eq_true_eq] at hc4
      obtain ⟨_, hg, hlen, hp5⟩ := hc4
      have hn3 : qs.length < 4 := by
        have hsz := sz_le hp
        unfold valid at hv
        simp only [Bool.and_eq_true, decide_eq_true_eq] at hv
        omega
      have c5 := all5 p hp5 qs.length hn3 qs hm
      rw [hv] at c5
      simp only [Bool.not_true, Bool.false_or, List.all_eq_true, List.mem_range] at c5
      have hl100 : (gq p qs).length ≤ 100 := by
        rw [hlen]
        have : p = 0 ∨ p = 1 ∨ p = 2 ∨ p = 3 ∨ p = 4 := by omega
        rcases this with e | e | e | e | e <;> subst e <;> decide
      obtain ⟨δ, h15⟩ := sg15 ns hp hi hg hl100 (c5 i hi)
      exact fnD_rt (δ := δ) (pre _ (by rw [hv]; exact seq_nx (sg12a ns hp c1 hv) (seq_nx (sg13 ns hv c4) h15)))
    · cases hc4
end L2.DL.law_k15_macros

/-! ## P15f -/
set_option linter.all false
set_option maxRecDepth 100000
set_option maxHeartbeats 0
namespace L2.DL.law_k15_macros
open L2.DL PySem PySem.W PyProof.Rows
theorem all4 : ((List.range 8).all fun p => (List.range 5).all fun n => (Qn n).all fun qs => chk4 p qs) = true := by decide +kernel
def vl (p : Nat) : List (List Int) := (Qn (sz p).toNat).filter (valid p)
def part (p j : Nat) : Bool := (((vl p).drop (5 * j)).take 5).all fun qs => (List.range 32).all fun i => chk5 p qs i
theorem c5_0_0 : part 0 0 = true := by decide +kernel
theorem c5_0_1 : part 0 1 = true := by decide +kernel
theorem c5_0_2 : part 0 2 = true := by decide +kernel
theorem c5_0_3 : part 0 3 = true := by decide +kernel
theorem c5_1_0 : part 1 0 = true := by decide +kernel
theorem c5_1_1 : part 1 1 = true := by decide +kernel
theorem c5_1_2 : part 1 2 = true := by decide +kernel
theorem c5_1_3 : part 1 3 = true := by decide +kernel
theorem c5_2_0 : part 2 0 = true := by decide +kernel
theorem c5_2_1 : part 2 1 = true := by decide +kernel
theorem c5_2_2 : part 2 2 = true := by decide +kernel
theorem c5_2_3 : part 2 3 = true := by decide +kernel
theorem c5_2_4 : part 2 4 = true := by decide +kernel
theorem c5_2_5 : part 2 5 = true := by decide +kernel
theorem c5_2_6 : part 2 6 = true := by decide +kernel
theorem c5_2_7 : part 2 7 = true := by decide +kernel
theorem c5_2_8 : part 2 8 = true := by decide +kernel
theorem c5_2_9 : part 2 9 = true := by decide +kernel
theorem c5_2_10 : part 2 10 = true := by decide +kernel
theorem c5_2_11 : part 2 11 = true := by decide +kernel
theorem c5_3_0 : part 3 0 = true := by decide +kernel
theorem c5_3_1 : part 3 1 = true := by decide +kernel
theorem c5_3_2 : part 3 2 = true := by decide +kernel
theorem c5_3_3 : part 3 3 = true := by decide +kernel
theorem c5_3_4 : part 3 4 = true := by decide +kernel
theorem c5_3_5 : part 3 5 = true := by decide +kernel
theorem c5_3_6 : part 3 6 = true := by decide +kernel
theorem c5_3_7 : part 3 7 = true := by decide +kernel
theorem c5_3_8 : part 3 8 = true := by decide +kernel
theorem c5_3_9 : part 3 9 = true := by decide +kernel
theorem c5_3_10 : part 3 10 = true := by decide +kernel
theorem c5_3_11 : part 3 11 = true := by decide +kernel
theorem c5_4_0 : part 4 0 = true := by decide +kernel
theorem c5_4_1 : part 4 1 = true := by decide +kernel
theorem c5_4_2 : part 4 2 = true := by decide +kernel
theorem c5_4_3 : part 4 3 = true := by decide +kernel
theorem c5_4_4 : part 4 4 = true := by decide +kernel
theorem c5_4_5 : part 4 5 = true := by decide +kernel
theorem c5_4_6 : part 4 6 = true := by decide +kernel
theorem c5_4_7 : part 4 7 = true := by decide +kernel
theorem c5_4_8 : part 4 8 = true := by decide +kernel
theorem c5_4_9 : part 4 9 = true := by decide +kernel
theorem c5_4_10 : part 4 10 = true := by decide +kernel
theorem c5_4_11 : part 4 11 = true := by decide +kernel
theorem len_0 : (vl 0).length ≤ 5 * 4 := by decide +kernel
theorem v5_0 : (vl 0).all (fun qs => (List.range 32).all fun i => chk5 0 qs i) = true := chunk_all _ 4 _ len_0 fun j hj => match j, hj with | 0, _ => c5_0_0 | 1, _ => c5_0_1 | 2, _ => c5_0_2 | 3, _ => c5_0_3 | (j + 4), h => absurd h (by omega)
theorem len_1 : (vl 1).length ≤ 5 * 4 := by decide +kernel
theorem v5_1 : (vl 1).all (fun qs => (List.range 32).all fun i => chk5 1 qs i) = true := chunk_all _ 4 _ len_1 fun j hj => match j, hj with | 0, _ => c5_1_0 | 1, _ => c5_1_1 | 2, _ => c5_1_2 | 3, _ => c5_1_3 | (j + 4), h => absurd h (by omega)
theorem len_2 : (vl 2).length ≤ 5 * 12 := by decide +kernel
theorem v5_2 : (vl 2).all (fun qs => (List.range 32).all fun i => chk5 2 qs i) = true := chunk_all _ 12 _ len_2 fun j hj => match j, hj with | 0, _ => c5_2_0 | 1, _ => c5_2_1 | 2, _ => c5_2_2 | 3, _ => c5_2_3 | 4, _ => c5_2_4 | 5, _ => c5_2_5 | 6, _ => c5_2_6 | 7, _ => c5_2_7 | 8, _ => c5_2_8 | 9, _ => c5_2_9 | 10, _ => c5_2_10 | 11, _ => c5_2_11 | (j + 12), h => absurd h (by omega)
theorem len_3 : (vl 3).length ≤ 5 * 12 := by decide +kernel
theorem v5_3 : (vl 3).all (fun qs => (List.range 32).all fun i => chk5 3 qs i) = true := chunk_all _ 12 _ len_3 fun j hj => match j, hj with | 0, _ => c5_3_0 | 1, _ => c5_3_1 | 2, _ => c5_3_2 | 3, _ => c5_3_3 | 4, _ => c5_3_4 | 5, _ => c5_3_5 | 6, _ => c5_3_6 | 7, _ => c5_3_7 | 8, _ => c5_3_8 | 9, _ => c5_3_9 | 10, _ => c5_3_10 | 11, _ => c5_3_11 | (j + 12), h => absurd h (by omega)
theorem len_4 : (vl 4).length ≤ 5 * 12 := by decide +kernel
theorem v5_4 : (vl 4).all (fun qs => (List.range 32).all fun i => chk5 4 qs i) = true := chunk_all _ 12 _ len_4 fun j hj => match j, hj with | 0, _ => c5_4_0 | 1, _ => c5_4_1 | 2, _ => c5_4_2 | 3, _ => c5_4_3 | 4, _ => c5_4_4 | 5, _ => c5_4_5 | 6, _ => c5_4_6 | 7, _ => c5_4_7 | 8, _ => c5_4_8 | 9, _ => c5_4_9 | 10, _ => c5_4_10 | 11, _ => c5_4_11 | (j + 12), h => absurd h (by omega)
theorem all5 : ((List.range 5).all fun p => (List.range 4).all fun n => (Qn n).all fun qs => !valid p qs || (List.range 32).all fun i => chk5 p qs i) = true := by
  simp only [List.all_eq_true, List.mem_range, Bool.or_eq_true, Bool.not_eq_true']
  intro p hp n hn qs hq
  cases hv : valid p qs with
  | false => exact .inl rfl
  | true =>
    refine .inr ?_
    have hmem : qs ∈ vl p := by
      refine List.mem_filter.mpr ⟨?_, hv⟩
      have h1 : (qs.length : Int) = sz p := by
        unfold valid at hv
        simp only [Bool.and_eq_true, decide_eq_true_eq] at hv
        exact hv.1
      have h2 : ∀ (n : Nat) (qs : List Int), qs ∈ Qn n → qs.length = n ∧ ∀ x ∈ qs, -1 ≤ x ∧ x ≤ 4 := by
        intro n
        induction n with
        | zero => intro qs h; simp [Qn] at h; subst h; simp
        | succ n ih =>
          intro qs h
          obtain ⟨q, hq, h⟩ := List.mem_flatMap.mp h
          obtain ⟨x, hx, rfl⟩ := List.mem_map.mp h
          obtain ⟨i1, i2⟩ := ih q hq
          refine ⟨by simp [i1], fun y hy => ?_⟩
          rcases List.mem_cons.mp hy with e | hy
          · subst e
            simp at hx
            omega
          · exact i2 y hy
      obtain ⟨e1, e2⟩ := h2 n qs hq
      have e3 : (sz p).toNat = qs.length := by omega
      rw [e3]
      exact mem_Qn _ qs rfl e2
    have h5 : ∀ p, p < 5 → ∀ qs ∈ vl p, ((List.range 32).all fun i => chk5 p qs i) = true := fun p hp qs hq => match p, hp with
      | 0, _ => List.all_eq_true.mp v5_0 qs hq
      | 1, _ => List.all_eq_true.mp v5_1 qs hq
      | 2, _ => List.all_eq_true.mp v5_2 qs hq
      | 3, _ => List.all_eq_true.mp v5_3 qs hq
      | 4, _ => List.all_eq_true.mp v5_4 qs hq
      | (n + 5), h => absurd h (by omega)
    have := h5 p hp qs hmem
    simpa [List.all_eq_true] using this
theorem plain : ∀ ns : List Int, ns.length ≤ 63 → G_law [.lst (ns.map D.int)] = .ok (.bl true) := fun ns _ => plain' all4 all5 ns
end L2.DL.law_k15_macros

/-! ## H_law_k15_macros -/
set_option linter.all false
open PySem PySem.W PyProof.Rows
set_option maxRecDepth 100000 in
set_option maxHeartbeats 0 in
theorem PySem.Challenge.cw_phasor_k15_macros_holds : PySem.Challenge.rw_phasor_k15_macros.Holds := by
  w_on; o_law; k_head; (case hw => w_witness2)
  k_fill
  refine L2.DL.law_end (F := L2.DL.law_k15_macros.Fx) (G := L2.DL.law_k15_macros.G_law) (k := L2.DL.law_k15_macros.lawLevel) (x := "_law_script") 32 rfl rfl rfl rfl ⟨rfl, by decide, by decide⟩ (fun w h Y => PySem.W.kIn_of Y) (fun w K mg h S => L2.DL.law_k15_macros.ok_law S) L2.DL.law_k15_macros.plain ?a ?b ?c
  case a => intro w; kernel_rfl
  case b => intro w; kernel_rfl
  case c => intro w; kernel_rfl
