import PyProof.Rows.All
import Wide.All
import OpenK.AllK
import Wide.FinOn
import HandS.ForMost
import HandS.TupAny
import HandS.TupMul
import HandS.Style
import HandS.Star
import HandS.IsInst
import HandS.Wide
import HandS.Text
import HandS.WideBits
import HandS.SortInts
import HandS.Conv
import HandS.Zip
import HandS.Flow
import KE.DataMinMax
import HandS.NoneIn
import KE.GoesNew
import KE.GoesEnum
import KE.GoesMore
import HandS.Defaults
import HandS.HeadHook2
import HandS.SetFor
import HandS.Strs
import PySem.Challenge.RW_againandagain_k80_whole_pieces_as_arcs
import KE.KStateDown
import HandS.Ends
import HandS.Head0
import HandS.Head1
import HandS.Head2
import HandS.HeadEnd
import HandS.HeadHook1
set_option Elab.async false
set_option linter.all false
set_option maxRecDepth 100000
/-! Mi: Python values as pure data, a store for what is shared, and how both lie in the abstract heap. -/
namespace Mi
open PySem PySem.Spec PyProof.Rows L2

abbrev St := L2.St
inductive D where
  | non | bl (b : Bool) | int (i : Int) | str (s : Str) | tup (ds : List D) | obj (n : Nat)
inductive O where
  | lst (ds : List D)
  | cst (ds : List D)
  | dic (kvs : List (D × D))
  | ins (c : Nat) (fs : List (Str × D))
inductive R where
  | v (d : D) | l (o : O) | o (o : O) | b (o : O)
abbrev Sto := List O
abbrev M (α : Type) := Sto → Option (α × Sto)
def M.pure {α : Type} (a : α) : M α := fun s => some (a, s)
def M.bind {α β : Type} (m : M α) (f : α → M β) : M β := fun s => match m s with
  | some (a, s') => f a s'
  | none => none
def M.fail {α : Type} : M α := fun _ => none
instance : Monad M where
  pure := M.pure
  bind := M.bind
theorem bind_run {α β : Type} {m : M α} {f : α → M β} {s : Sto} {r : β × Sto} (h : (m >>= f) s = some r) : ∃ a s', m s = some (a, s') ∧ f a s' = some r := by
  have h' : (match m s with | some (a, s') => f a s' | none => none) = some r := h
  cases q : m s with
  | none => rw [q] at h'; cases h'
  | some p => rw [q] at h'; exact ⟨p.1, p.2, rfl, h'⟩
@[simp] theorem bind_some {α β : Type} {m : M α} {f : α → M β} {s s' : Sto} {a : α} (h : m s = some (a, s')) : (m >>= f) s = f a s' := by
  show (match m s with | some (a, s') => f a s' | none => none) = _
  rw [h]
@[simp] theorem pure_run {α : Type} {a : α} {s : Sto} : (Pure.pure a : M α) s = some (a, s) := rfl
theorem pure_inv {α : Type} {a b : α} {s s' : Sto} (h : (Pure.pure a : M α) s = some (b, s')) : b = a ∧ s' = s := by
  have h' : some (a, s) = some (b, s') := h
  injection h' with h'
  injection h' with h1 h2
  exact ⟨h1.symm, h2.symm⟩

def M.ofO {α : Type} (o : Option α) : M α := fun s => match o with
  | some a => some (a, s)
  | none => none
theorem ofO_inv {α : Type} {o : Option α} {b : α} {s s' : Sto} (h : M.ofO o s = some (b, s')) : o = some b ∧ s' = s := by
  cases o with
  | none => cases h
  | some a =>
    have h' : some (a, s) = some (b, s') := h
    injection h' with h'
    injection h' with h1 h2
    exact ⟨congrArg some h1, h2.symm⟩
def M.ite {α : Type} (c : Bool) (a : α) : M α := if c = true then pure a else M.fail
theorem ite_inv {α : Type} {c : Bool} {a b : α} {s s' : Sto} (h : M.ite c a s = some (b, s')) : c = true ∧ b = a ∧ s' = s := by
  unfold M.ite at h
  split at h
  · obtain ⟨rfl, rfl⟩ := pure_inv h
    exact ⟨by assumption, rfl, rfl⟩
  · cases h

abbrev Env := List (Option R)
/-- what is fixed: the written part, where the classes stand -/
structure Kx where
  K : PySem.W.Frag
  cls : List Addr

section
variable (G : Kx) (H : Hp) (α : List Addr)
mutual
inductive Rep (G : Kx) (H : Hp) (α : List Addr) : V → D → Prop
  | non : Rep G H α .non .non
  | bl (b : Bool) : Rep G H α (.bl b) (.bl b)
  | int (i : Int) : Rep G H α (.int i) (.int i)
  | str (s : Str) : Rep G H α (.str s) (.str s)
  | tup {a : Addr} {xs : List V} {ds : List D} : SqT G.K H a xs → RepL G H α xs ds → Rep G H α (.ref a) (.tup ds)
  | obj {a : Addr} {n : Nat} : α[n]? = some a → Rep G H α (.ref a) (.obj n)
inductive RepL (G : Kx) (H : Hp) (α : List Addr) : List V → List D → Prop
  | nil : RepL G H α [] []
  | cons {v : V} {vs : List V} {d : D} {ds : List D} : Rep G H α v d → RepL G H α vs ds → RepL G H α (v :: vs) (d :: ds)
end

def keyD : Key → D
  | .inl i => .int i
  | .inr x => .str x
/-- the fields of an instance -/
inductive RepF : List (Str × V) → List (Str × D) → Prop
  | nil : RepF [] []
  | cons {f : Str} {v : V} {vs : List (Str × V)} {d : D} {ds : List (Str × D)} : Rep G H α v d → RepF vs ds → RepF ((f, v) :: vs) ((f, d) :: ds)
inductive RepK : List (Key × V) → List (D × D) → Prop
  | nil : RepK [] []
  | cons {k : Key} {v : V} {vs : List (Key × V)} {d : D} {ds : List (D × D)} : Rep G H α v d → RepK vs ds → RepK ((k, v) :: vs) ((keyD k, d) :: ds)
inductive RepT : List (List Key × V) → List (D × D) → Prop
  | nil : RepT [] []
  | cons {k : List Key} {v : V} {vs : List (List Key × V)} {d : D} {ds : List (D × D)} : Rep G H α v d → RepT vs ds → RepT ((k, v) :: vs) ((.tup (k.map keyD), d) :: ds)
/-- what stands still through the whole law -/
def Stat (a : Addr) (xs : List V) : Prop :=
  (∃ o, H a = some (.frz o (.lst xs))) ∨ ∃ (o : Obj) (its : Array Value) (n : Nat), G.K.lookup a = some o ∧ o.cls = .type "list" ∧ o.dict = none ∧ o.data = .seq its n ∧ its.size ≤ sizeLine ∧ Vals xs its.toList
/-- what stands at a -/
def RepO (a : Addr) : O → Prop
  | .lst ds => ∃ xs, H a = some (.lst xs) ∧ RepL G H α xs ds
  | .cst ds => ∃ xs, Stat G H a xs ∧ RepL G H α xs ds
  | .dic kvs => (∃ ks, H a = some (.dK ks) ∧ RepK G H α ks kvs) ∨ ∃ ks, H a = some (.dT ks) ∧ RepT G H α ks kvs
  | .ins c fs => ∃ C dx vs, G.cls[c]? = some C ∧ H a = some (.ins C dx vs) ∧ RepF G H α vs fs
def O.mov : O → Prop
  | .cst _ => False
  | _ => True
/-- what is read at a -/
def RepB (own : Addr → Prop) (a : Addr) (o : O) : Prop := RepO G H α a o ∧ (o.mov → a ∉ α ∧ ¬ own a)
def RepR (fr own : Addr → Prop) (v : V) : R → Prop
  | .v d => Rep G H α v d
  | .l o => ∃ a, v = .ref a ∧ fr a ∧ a ∉ α ∧ RepO G H α a o ∧ o.mov
  | .o o => ∃ a, v = .ref a ∧ RepB G H α (fun _ => False) a o
  | .b o => ∃ a, v = .ref a ∧ RepB G H α own a o
structure RepS (st : Sto) : Prop where
  len : α.length = st.length
  nd : α.Nodup
  obj : ∀ (n : Nat) (o : O) (a : Addr), st[n]? = some o → α[n]? = some a → RepO G H α a o
  mv : ∀ (n : Nat) (o : O), st[n]? = some o → o.mov
end
def Own (σ : St) (env : Env) (a : Addr) : Prop := ∃ (i : Nat) (o : O), env[i]? = some (some (.l o)) ∧ σ[i]? = some (some (.ref a))
def RepSlot (G : Kx) (H : Hp) (α : List Addr) (own : Addr → Prop) (v : V) : R → Prop
  | .v d => Rep G H α v d
  | .l o => ∃ a, v = .ref a ∧ a ∉ α ∧ RepO G H α a o ∧ o.mov
  | .o _ => False
  | .b o => ∃ a, v = .ref a ∧ RepB G H α own a o
structure RepE (G : Kx) (H : Hp) (α : List Addr) (σ : St) (env : Env) : Prop where
  len : σ.length = env.length
  val : ∀ (i : Nat) (r : R), env[i]? = some (some r) → ∃ v, σ[i]? = some (some v) ∧ RepSlot G H α (Own σ env) v r
  sep : ∀ (i j : Nat) (a : Addr) (o o' : O), env[i]? = some (some (.l o)) → env[j]? = some (some (.l o')) → σ[i]? = some (some (.ref a)) → σ[j]? = some (some (.ref a)) → i = j
structure Ext (own : Addr → Prop) (α : List Addr) (H : Hp) (α' : List Addr) (H' : Hp) : Prop where
  pre : ∃ β, α' = α ++ β ∧ ∀ b ∈ β, H b = none ∨ own b
  keep : ∀ a o, H a = some o → a ∉ α → ¬ own a → H' a = some o
  dom : ∀ a, H' a = none → H a = none
  tups : ∀ a xs, H a = some (.tup xs) → H' a = some (.tup xs)
  frzs : ∀ a o u, H a = some (.frz o u) → H' a = some (.frz o u)
abbrev Non : Addr → Prop := fun _ => False

section
variable {G : Kx} {H H' H'' : Hp} {α α' α'' : List Addr} {own own' : Addr → Prop} {σ : St} {env : Env} {st : Sto}
theorem Ext.rfl' : Ext own α H α H := ⟨⟨[], by simp, by simp⟩, fun _ _ h _ _ => h, fun _ h => h, fun _ _ h => h, fun _ _ _ h => h⟩
theorem Ext.trans (e1 : Ext own α H α' H') (e2 : Ext own' α' H' α'' H'') (h : ∀ a, own' a → own a ∨ H a = none) : Ext own α H α'' H'' := by
  obtain ⟨β1, rfl, p1⟩ := e1.pre
  obtain ⟨β2, rfl, p2⟩ := e2.pre
  refine ⟨⟨β1 ++ β2, by simp, fun b hb => ?_⟩, fun a o ha hn ho => ?_, fun a h' => e1.dom a (e2.dom a h'), fun a xs ha => e2.tups _ _ (e1.tups _ _ ha), fun a o u ha => e2.frzs _ _ _ (e1.frzs _ _ _ ha)⟩
  · rcases List.mem_append.mp hb with hb | hb
    · exact p1 b hb
    · rcases p2 b hb with q | q
      · exact .inl (e1.dom b q)
      · exact (h b q).symm
  · refine e2.keep a o (e1.keep a o ha hn ho) ?_ ?_
    · intro z
      rcases List.mem_append.mp z with z | z
      · exact hn z
      · rcases p1 a z with q | q
        · rw [ha] at q; cases q
        · exact ho q
    · intro z
      rcases h a z with q | q
      · exact ho q
      · rw [ha] at q; cases q
theorem Ext.trans0 (e1 : Ext Non α H α' H') (e2 : Ext Non α' H' α'' H'') : Ext Non α H α'' H'' := e1.trans e2 fun _ h => h.elim
theorem Ext.mono (e : Ext own α H α' H') (h : ∀ a, own a → own' a) : Ext own' α H α' H' := by
  obtain ⟨⟨β, rfl, p⟩, k, d, t, f⟩ := e
  exact ⟨⟨β, rfl, fun b hb => (p b hb).imp id (h b)⟩, fun a o ha hn ho => k a o ha hn fun z => ho (h a z), d, t, f⟩
theorem Ext.pre0 (e : Ext own α H α' H') {n : Nat} {a : Addr} (h : α[n]? = some a) : α'[n]? = some a := by
  obtain ⟨β, rfl, _⟩ := e.pre
  rw [List.getElem?_append_left (List.getElem?_eq_some_iff.mp h).1]
  exact h
theorem SqT.ext {a : Addr} {xs : List V} (h : SqT G.K H a xs) (e : Ext own α H α' H') : SqT G.K H' a xs := by
  rcases h with h | h
  · rcases h with h | ⟨o, h⟩
    · exact .inl (.inl (e.tups _ _ h))
    · exact .inl (.inr ⟨o, e.frzs _ _ _ h⟩)
  · exact .inr h
theorem Stat.ext {a : Addr} {xs : List V} (h : Stat G H a xs) (e : Ext own α H α' H') : Stat G H' a xs := by
  rcases h with ⟨o, h⟩ | h
  · exact .inl ⟨o, e.frzs _ _ _ h⟩
  · exact .inr h
theorem Stat.sq {a : Addr} {xs : List V} (h : Stat G H a xs) : SqL G.K H a xs := by
  rcases h with ⟨o, h⟩ | h
  · exact .inl (.inr ⟨o, h⟩)
  · exact .inr h
mutual
theorem Rep.ext (e : Ext own α H α' H') : ∀ {v : V} {d : D}, Rep G H α v d → Rep G H' α' v d
  | _, _, .non => .non
  | _, _, .bl b => .bl b
  | _, _, .int i => .int i
  | _, _, .str s => .str s
  | _, _, .tup h r => .tup (SqT.ext h e) (RepL.ext e r)
  | _, _, .obj h => .obj (e.pre0 h)
theorem RepL.ext (e : Ext own α H α' H') : ∀ {vs : List V} {ds : List D}, RepL G H α vs ds → RepL G H' α' vs ds
  | _, _, .nil => .nil
  | _, _, .cons r s => .cons (Rep.ext e r) (RepL.ext e s)
end
theorem RepF.ext (e : Ext own α H α' H') : ∀ {vs : List (Str × V)} {ds : List (Str × D)}, RepF G H α vs ds → RepF G H' α' vs ds
  | _, _, .nil => .nil
  | _, _, .cons r s => .cons (r.ext e) (RepF.ext e s)
theorem RepK.ext (e : Ext own α H α' H') : ∀ {vs : List (Key × V)} {ds : List (D × D)}, RepK G H α vs ds → RepK G H' α' vs ds
  | _, _, .nil => .nil
  | _, _, .cons r s => .cons (r.ext e) (RepK.ext e s)
theorem RepT.ext (e : Ext own α H α' H') : ∀ {vs : List (List Key × V)} {ds : List (D × D)}, RepT G H α vs ds → RepT G H' α' vs ds
  | _, _, .nil => .nil
  | _, _, .cons r s => .cons (r.ext e) (RepT.ext e s)
theorem RepO.has {a : Addr} {o : O} (h : RepO G H α a o) (m : o.mov) : ∃ u, H a = some u := by
  cases o with
  | lst ds => obtain ⟨xs, h, _⟩ := h; exact ⟨_, h⟩
  | cst ds => exact m.elim
  | dic kvs => rcases h with ⟨ks, h, _⟩ | ⟨ks, h, _⟩ <;> exact ⟨_, h⟩
  | ins c fs => obtain ⟨C, dx, vs, _, h, _⟩ := h; exact ⟨_, h⟩
theorem RepO.ext {a : Addr} {o : O} (h : RepO G H α a o) (e : Ext own α H α' H') (hs : o.mov → ∀ u, H a = some u → H' a = some u) : RepO G H' α' a o := by
  cases o with
  | lst ds => obtain ⟨xs, h, r⟩ := h; exact ⟨xs, hs trivial _ h, r.ext e⟩
  | cst ds => obtain ⟨xs, h, r⟩ := h; exact ⟨xs, h.ext e, r.ext e⟩
  | dic kvs =>
    rcases h with ⟨ks, h, r⟩ | ⟨ks, h, r⟩
    · exact .inl ⟨ks, hs trivial _ h, r.ext e⟩
    · exact .inr ⟨ks, hs trivial _ h, r.ext e⟩
  | ins c fs => obtain ⟨C, dx, vs, hc, h, r⟩ := h; exact ⟨C, dx, vs, hc, hs trivial _ h, r.ext e⟩
theorem Ext.notin (e : Ext own α H α' H') {a : Addr} {u : HO} (h : H a = some u) (hn : a ∉ α) (ho : ¬ own a) : a ∉ α' := by
  obtain ⟨β, rfl, p⟩ := e.pre
  intro z
  rcases List.mem_append.mp z with z | z
  · exact hn z
  · rcases p a z with q | q
    · rw [h] at q; cases q
    · exact ho q
theorem RepO.kept {a : Addr} {o : O} (h : RepO G H α a o) (m : o.mov) (hn : a ∉ α) (ho : ¬ own a) (e : Ext own α H α' H') : RepO G H' α' a o ∧ a ∉ α' := by
  obtain ⟨u, hu⟩ := h.has m
  exact ⟨RepO.ext h e fun _ w hw => e.keep _ _ hw hn ho, e.notin hu hn ho⟩
theorem RepB.ext {a : Addr} {o : O} {ow : Addr → Prop} (h : RepB G H α ow a o) (e : Ext own α H α' H') (ho : ∀ a, own a → ow a) : RepB G H' α' ow a o := by
  obtain ⟨h, q⟩ := h
  refine ⟨RepO.ext h e fun m w hw => e.keep _ _ hw (q m).1 fun z => (q m).2 (ho _ z), fun m => ?_⟩
  exact ⟨(RepO.kept h m (q m).1 (fun z => (q m).2 (ho _ z)) e).2, (q m).2⟩
theorem RepE.ext (h : RepE G H α σ env) (e : Ext Non α H α' H') : RepE G H' α' σ env := by
  refine ⟨h.len, fun i r hi => ?_, h.sep⟩
  obtain ⟨v, hv, q⟩ := h.val i r hi
  refine ⟨v, hv, ?_⟩
  cases r with
  | v d => exact Rep.ext e q
  | l o =>
    obtain ⟨a, rfl, hn, q, m⟩ := q
    obtain ⟨h1, h2⟩ := RepO.kept q m hn (fun z => z) e
    exact ⟨a, rfl, h2, h1, m⟩
  | o o => exact q
  | b o =>
    obtain ⟨a, rfl, q⟩ := q
    exact ⟨a, rfl, RepB.ext q e fun _ z => z.elim⟩
theorem RepR.ext {fr ow : Addr → Prop} {v : V} {r : R} (h : RepR G H α fr ow v r) (e : Ext Non α H α' H') : RepR G H' α' fr ow v r := by
  cases r with
  | v d => exact Rep.ext e h
  | l o =>
    obtain ⟨a, rfl, hf, hn, q, m⟩ := h
    obtain ⟨h1, h2⟩ := RepO.kept q m hn (fun z => z) e
    exact ⟨a, rfl, hf, h2, h1, m⟩
  | o o =>
    obtain ⟨a, rfl, q⟩ := h
    exact ⟨a, rfl, RepB.ext q e fun _ z => z.elim⟩
  | b o =>
    obtain ⟨a, rfl, q⟩ := h
    exact ⟨a, rfl, RepB.ext q e fun _ z => z.elim⟩
theorem RepR.mono {fr fr' ow : Addr → Prop} {v : V} {r : R} (h : RepR G H α fr ow v r) (hf : ∀ a, fr a → fr' a) : RepR G H α fr' ow v r := by
  cases r with
  | l o => obtain ⟨a, rfl, h1, h2, q⟩ := h; exact ⟨a, rfl, hf a h1, h2, q⟩
  | _ => exact h
theorem RepL.length : ∀ {vs : List V} {ds : List D}, RepL G H α vs ds → vs.length = ds.length
  | _, _, .nil => rfl
  | _, _, .cons _ s => congrArg (· + 1) (RepL.length s)
theorem RepL.append : ∀ {vs ws : List V} {ds es : List D}, RepL G H α vs ds → RepL G H α ws es → RepL G H α (vs ++ ws) (ds ++ es)
  | _, _, _, _, .nil, h => h
  | _, _, _, _, .cons r s, h => .cons r (RepL.append s h)
theorem RepL.get : ∀ {vs : List V} {ds : List D} {i : Nat} {d : D}, RepL G H α vs ds → ds[i]? = some d → ∃ v, vs[i]? = some v ∧ Rep G H α v d
  | _, _, _, _, .nil, e => by simp at e
  | _, _, 0, _, .cons r _, e => by simp at e; subst e; exact ⟨_, rfl, r⟩
  | _, _, i + 1, d, .cons _ s, e => by
    obtain ⟨v, h1, h2⟩ := RepL.get (i := i) (d := d) s (by simpa using e)
    exact ⟨v, by simpa using h1, h2⟩
theorem RepL.take : ∀ {vs : List V} {ds : List D} (n : Nat), RepL G H α vs ds → RepL G H α (vs.take n) (ds.take n)
  | _, _, 0, _ => .nil
  | _, _, _ + 1, .nil => .nil
  | _, _, n + 1, .cons r s => .cons r (RepL.take n s)
theorem RepL.drop : ∀ {vs : List V} {ds : List D} (n : Nat), RepL G H α vs ds → RepL G H α (vs.drop n) (ds.drop n)
  | _, _, 0, h => h
  | _, _, _ + 1, .nil => .nil
  | _, _, n + 1, .cons _ s => RepL.drop n s
theorem RepL.reverse : ∀ {vs : List V} {ds : List D}, RepL G H α vs ds → RepL G H α vs.reverse ds.reverse
  | _, _, .nil => .nil
  | _, _, .cons r s => by rw [List.reverse_cons, List.reverse_cons]; exact (RepL.reverse s).append (.cons r .nil)
theorem RepL.set {v : V} {d : D} (r : Rep G H α v d) : ∀ {vs : List V} {ds : List D} (i : Nat), RepL G H α vs ds → RepL G H α (vs.set i v) (ds.set i d)
  | _, _, _, .nil => .nil
  | _, _, 0, .cons _ s => .cons r s
  | _, _, i + 1, .cons q s => .cons q (RepL.set r i s)
theorem RepL.repl {v : V} {d : D} (r : Rep G H α v d) : ∀ (n : Nat), RepL G H α (List.replicate n v) (List.replicate n d)
  | 0 => .nil
  | n + 1 => .cons r (RepL.repl r n)
theorem RepL.flat {vs : List V} {ds : List D} (r : RepL G H α vs ds) : ∀ (n : Nat), RepL G H α (List.replicate n vs).flatten (List.replicate n ds).flatten
  | 0 => .nil
  | n + 1 => by
    (rw [List.replicate_succ, List.replicate_succ, List.flatten_cons, List.flatten_cons]); exact r.append (RepL.flat r n)
theorem RepL.dropLast {vs : List V} {ds : List D} (r : RepL G H α vs ds) : RepL G H α vs.dropLast ds.dropLast := by
  rw [List.dropLast_eq_take, List.dropLast_eq_take, r.length]
  exact r.take _
theorem RepL.erase : ∀ {vs : List V} {ds : List D} (i : Nat), RepL G H α vs ds → RepL G H α (vs.eraseIdx i) (ds.eraseIdx i)
  | _, _, _, .nil => .nil
  | _, _, 0, .cons _ s => s
  | _, _, i + 1, .cons q s => .cons q (RepL.erase i s)
theorem RepL.ints : ∀ {vs : List V} {ns : List Int}, RepL G H α vs (ns.map .int) → vs = ns.map .int
  | _, [], .nil => rfl
  | _, n :: ns, .cons r s => by
    cases r
    rw [RepL.ints s]
    rfl
theorem RepL.ofInts : ∀ (ns : List Int), RepL G H α (ns.map .int) (ns.map .int)
  | [] => .nil
  | n :: ns => .cons (.int n) (RepL.ofInts ns)
theorem RepL.bools : ∀ {vs : List V} {ns : List Bool}, RepL G H α vs (ns.map .bl) → vs = ns.map .bl
  | _, [], .nil => rfl
  | _, n :: ns, .cons r s => by
    cases r
    rw [RepL.bools s]
    rfl
/-! ### a new object -/
theorem RepS.fresh {p : Addr} (h : RepS G H α st) (hp : H p = none) : p ∉ α := fun z => by
  obtain ⟨n, hn⟩ := List.mem_iff_getElem?.mp z
  have hl : n < st.length := by rw [← h.len]; exact (List.getElem?_eq_some_iff.mp hn).1
  have ho : st[n]? = some st[n] := List.getElem?_eq_getElem hl
  obtain ⟨u, hu⟩ := (h.obj n _ p ho hn).has (h.mv n _ ho)
  rw [hp] at hu; cases hu
theorem Ext.new {p : Addr} {u : HO} (hp : H p = none) : Ext own α H α (upd H p u) :=
  have ne : ∀ {a : Addr} {o : HO}, H a = some o → upd H p u a = some o := fun h => by rw [upd_ne (ne_of_none h hp)]; exact h
  ⟨⟨[], by simp, by simp⟩, fun a o h _ _ => ne h, fun a h => by
    by_cases e : a = p
    · subst e; exact hp
    · rw [upd_ne e] at h; exact h, fun _ _ h => ne h, fun _ _ _ h => ne h⟩
theorem RepS.ext {α : List Addr} (h : RepS G H α st) (e : Ext own α H α H') (hs : ∀ a u, H a = some u → H' a = some u) : RepS G H' α st :=
  ⟨h.len, h.nd, fun n o a h1 h2 => RepO.ext (h.obj n o a h1 h2) e fun _ u hu => hs a u hu, h.mv⟩
theorem RepS.new {p : Addr} {u : HO} (h : RepS G H α st) (hp : H p = none) : RepS G (upd H p u) α st :=
  h.ext (Ext.new (own := Non) hp) fun a w hw => by rw [upd_ne (ne_of_none hw hp)]; exact hw
end
end Mi
/-! Mi: the readings of expressions as computations over pure data. -/
namespace Mi
open PySem PySem.Spec PyProof.Rows L2

abbrev Fresh (H : Hp) : Addr → Prop := fun a => H a = none
abbrev All : Addr → Prop := fun _ => True
def tE (G : Kx) (m : Env → M R) : TE := fun σ H Q => ∃ α env st r st', RepE G H α σ env ∧ RepS G H α st ∧ m env st = some (r, st') ∧
  ∀ v α' H', Ext Non α H α' H' → RepS G H' α' st' → RepR G H' α' (Fresh H) (Own σ env) v r → Q v H'
def tT (G : Kx) (m : Env → M Bool) : TT := fun σ H Q => ∃ α env st r st', RepE G H α σ env ∧ RepS G H α st ∧ m env st = some (r, st') ∧
  ∀ α' H', Ext Non α H α' H' → RepS G H' α' st' → Q r H'
/-- the new lists among some values -/
def Tmp (vs : List V) (rs : List R) (a : Addr) : Prop := ∃ (i : Nat) (o : O), rs[i]? = some (.l o) ∧ vs[i]? = some (.ref a)
inductive RepRs (G : Kx) (H : Hp) (α : List Addr) (fr own : Addr → Prop) : List V → List R → Prop
  | nil : RepRs G H α fr own [] []
  | cons {v : V} {vs : List V} {r : R} {rs : List R} : RepR G H α fr own v r → RepRs G H α fr own vs rs → (∀ o a, r = .l o → v = .ref a → ¬ Tmp vs rs a) → RepRs G H α fr own (v :: vs) (r :: rs)
def tA (G : Kx) (m : Env → M (List R)) : TA := fun σ H Q => ∃ α env st r st', RepE G H α σ env ∧ RepS G H α st ∧ m env st = some (r, st') ∧
  ∀ vs α' H', Ext Non α H α' H' → RepS G H' α' st' → RepRs G H' α' (Fresh H) (Own σ env) vs r → Q vs H'
theorem RepRs.ext {G : Kx} {H H' : Hp} {α α' : List Addr} {fr own : Addr → Prop} (e : Ext Non α H α' H') : ∀ {vs : List V} {rs : List R}, RepRs G H α fr own vs rs → RepRs G H' α' fr own vs rs
  | _, _, .nil => .nil
  | _, _, .cons r s d => .cons (r.ext e) (s.ext e) d
theorem RepRs.mono {G : Kx} {H : Hp} {α : List Addr} {fr fr' own : Addr → Prop} (h : ∀ a, fr a → fr' a) : ∀ {vs : List V} {rs : List R}, RepRs G H α fr own vs rs → RepRs G H α fr' own vs rs
  | _, _, .nil => .nil
  | _, _, .cons r s d => .cons (r.mono h) (s.mono h) d
theorem RepRs.tmp {G : Kx} {H : Hp} {α : List Addr} {fr own : Addr → Prop} {a : Addr} : ∀ {vs : List V} {rs : List R}, RepRs G H α fr own vs rs → Tmp vs rs a → fr a
  | _, _, .nil, ⟨i, o, h, _⟩ => by simp at h
  | _, _, .cons r s d, ⟨0, o, h1, h2⟩ => by
    simp at h1 h2
    subst h1 h2
    obtain ⟨b, e, hf, _⟩ := r
    cases e
    exact hf
  | _, _, .cons r s d, ⟨i + 1, o, h1, h2⟩ => s.tmp ⟨i, o, by simpa using h1, by simpa using h2⟩
theorem RepRs.length {G : Kx} {H : Hp} {α : List Addr} {fr own : Addr → Prop} : ∀ {vs : List V} {rs : List R}, RepRs G H α fr own vs rs → vs.length = rs.length
  | _, _, .nil => rfl
  | _, _, .cons r s _ => congrArg (· + 1) s.length
theorem _root_.L2.PE.wk {X : Cx} {e : Expr} {t t' : TE} (h : PE X e t) (w : ∀ σ H Q, t' σ H Q → t σ H Q) : PE X e t' := ⟨fun pins s σ H Q I h' => h.run pins s σ H Q I (w _ _ _ h')⟩
theorem _root_.L2.PT.wk {X : Cx} {e : Expr} {t t' : TT} (h : PT X e t) (w : ∀ σ H Q, t' σ H Q → t σ H Q) : PT X e t' := ⟨fun pins s σ H Q I h' => h.run pins s σ H Q I (w _ _ _ h')⟩
theorem _root_.L2.PW.wk {X : Cx} {e : Expr} {t t' : TT} (h : PW X e t) (w : ∀ σ H Q, t' σ H Q → t σ H Q) : PW X e t' := ⟨fun wh pins s σ H Q I h' => h.run wh pins s σ H Q I (w _ _ _ h')⟩
theorem _root_.L2.PA.wk {X : Cx} {e : List Expr} {t t' : TA} (h : PA X e t) (w : ∀ σ H Q, t' σ H Q → t σ H Q) : PA X e t' := ⟨fun p pins s σ H Q I h' => h.run p pins s σ H Q I (w _ _ _ h')⟩
theorem _root_.L2.PS.wk {X : Cx} {e : Stmt} {t t' : TS} (h : PS X e t) (w : ∀ D σ H, t' D σ H → t D σ H) : PS X e t' := ⟨fun pins s σ H D I h' => h.run pins s σ H D I (w _ _ _ h')⟩
theorem _root_.L2.PSs.wk {X : Cx} {e : List Stmt} {t t' : TS} (h : PSs X e t) (w : ∀ D σ H, t' D σ H → t D σ H) : PSs X e t' := ⟨fun pins s σ H D I h' => h.run pins s σ H D I (w _ _ _ h')⟩
abbrev gx (X : Cx) (C : List Addr) : Kx := ⟨X.K, C⟩
abbrev SimE (X : Cx) (C : List Addr) (e : Expr) (m : Env → M R) : Prop := PE X e (tE (gx X C) m)
abbrev SimT (X : Cx) (C : List Addr) (e : Expr) (m : Env → M Bool) : Prop := PT X e (tT (gx X C) m)
abbrev SimW (X : Cx) (C : List Addr) (e : Expr) (m : Env → M Bool) : Prop := PW X e (tT (gx X C) m)
abbrev SimA (X : Cx) (C : List Addr) (e : List Expr) (m : Env → M (List R)) : Prop := PA X e (tA (gx X C) m)

/-! ### names and constants -/
def rdSlot : R → R
  | .v d => .v d
  | .l o => .o o
  | .b o => .b o
  | .o o => .o o
def eVar (i : Nat) : Env → M R := fun env st => match env[i]? with
  | some (some r) => some (rdSlot r, st)
  | _ => none
def eC (d : D) : Env → M R := fun _ st => some (.v d, st)
section
variable {X : Cx} {C : List Addr}
theorem var {i : Nat} {x : Str} {pos : Pos} (hN : X.N[i]? = some x) (hv : Vis X.env.scope x) (hd : (x == ("__debug__" : Str)) = false := by decide) (hcd : (x == ("__classdict__" : Str)) = false := by decide) : SimE X C (.Name x pos) (eVar i) := by
  refine (pe_var hN hv hd hcd).wk fun σ H Q h => ?_
  obtain ⟨α, env, st, r, st', hE, hS, hm, k⟩ := h
  unfold eVar at hm
  cases q : env[i]? with
  | none => rw [q] at hm; cases hm
  | some o =>
    cases o with
    | none => rw [q] at hm; cases hm
    | some r0 =>
      rw [q] at hm
      injection hm with hm
      injection hm with h1 h2
      subst h1 h2
      obtain ⟨v, hv, rs⟩ := hE.val i r0 q
      refine ⟨v, hv, k v α H Ext.rfl' hS ?_⟩
      cases r0 with
      | v d => exact rs
      | l o =>
        obtain ⟨a, rfl, hn, ro, m⟩ := rs
        exact ⟨a, rfl, ro, fun _ => ⟨hn, fun z => z⟩⟩
      | o o => exact rs.elim
      | b o => exact rs
theorem con {e : Expr} {v : V} {d : D} (h : PE X e (tC v)) (r : ∀ H α, Rep (gx X C) H α v d) : SimE X C e (eC d) := by
  refine h.wk fun σ H Q h => ?_
  obtain ⟨α, env, st, r', st', hE, hS, hm, k⟩ := h
  injection hm with hm
  injection hm with h1 h2
  subst h1 h2
  exact k v α H Ext.rfl' hS (r H α)
theorem cint {i : Int} {j : Nat} {pos : Pos} : SimE X C (.Constant (.int i) j pos) (eC (.int i)) := con pe_int fun _ _ => .int i
theorem cbl {b : Bool} {j : Nat} {pos : Pos} : SimE X C (.Constant (.bool b) j pos) (eC (.bl b)) := con pe_bl fun _ _ => .bl b
theorem cnon {j : Nat} {pos : Pos} : SimE X C (.Constant .none j pos) (eC .non) := con pe_non fun _ _ => .non
theorem cstr {x : Str} {j : Nat} {pos : Pos} : SimE X C (.Constant (.str x) j pos) (eC (.str x)) := con pe_str fun _ _ => .str x
theorem glob {x : Str} {v : V} {d : D} {u : Value} {pos : Pos} (hg : Gl X x) (hm : X.mg x = some u) (r : RelV v u) (r2 : ∀ H α, Rep (gx X C) H α v d) (hd : (x == ("__debug__" : Str)) = false := by decide) : SimE X C (.Name x pos) (eC d) := con (pe_glob hg hm r hd) r2

/-! ### operations on values -/
def rU1 (G : Kx) (g : R → M R) : V → Hp → VK → Prop := fun x H Q => ∃ α own st rx r st', RepR G H α All own x rx ∧ RepS G H α st ∧ g rx st = some (r, st') ∧
  ∀ v α' H', Ext Non α H α' H' → RepS G H' α' st' → RepR G H' α' (Fresh H) own v r → Q v H'
def rU2 (G : Kx) (g : R → R → M R) : V → V → Hp → VK → Prop := fun x y H Q => ∃ α own st rx ry r st', RepR G H α All own x rx ∧ RepR G H α All own y ry ∧ RepS G H α st ∧ g rx ry st = some (r, st') ∧
  ∀ v α' H', Ext Non α H α' H' → RepS G H' α' st' → RepR G H' α' (Fresh H) own v r → Q v H'
def eU (g : R → M R) (ma : Env → M R) : Env → M R := fun env => ma env >>= g
def eOp (g : R → R → M R) (ma mb : Env → M R) : Env → M R := fun env => ma env >>= fun a => mb env >>= fun b => g a b
theorem to1 {G : Kx} {g : R → M R} {ma : Env → M R} {σ : St} {H : Hp} {Q : VK} (h : tE G (eU g ma) σ H Q) : tE G ma σ H fun x H1 => rU1 G g x H1 Q := by
  obtain ⟨α, env, st, r, st', hE, hS, hm, k⟩ := h
  obtain ⟨ra, s1, e1, e2⟩ := bind_run hm
  exact ⟨α, env, st, ra, s1, hE, hS, e1, fun x α1 H1 X1 S1 R1 => ⟨α1, Own σ env, s1, ra, r, st', R1.mono (fun _ _ => trivial), S1, e2, fun v α2 H2 X2 S2 R2 =>
    k v α2 H2 (X1.trans0 X2) S2 (R2.mono fun a h => X1.dom _ h)⟩⟩
theorem to2 {G : Kx} {g : R → R → M R} {ma mb : Env → M R} {σ : St} {H : Hp} {Q : VK} (h : tE G (eOp g ma mb) σ H Q) : tOp (rU2 G g) (tE G ma) (tE G mb) σ H Q := by
  obtain ⟨α, env, st, r, st', hE, hS, hm, k⟩ := h
  obtain ⟨ra, s1, e1, hm⟩ := bind_run hm
  obtain ⟨rb, s2, e2, e3⟩ := bind_run hm
  exact ⟨α, env, st, ra, s1, hE, hS, e1, fun x α1 H1 X1 S1 R1 => ⟨α1, env, s1, rb, s2, hE.ext X1, S1, e2, fun y α2 H2 X2 S2 R2 =>
    ⟨α2, Own σ env, s2, ra, rb, r, st', (R1.ext X2).mono (fun _ _ => trivial), R2.mono (fun _ _ => trivial), S2, e3, fun v α3 H3 X3 S3 R3 =>
      k v α3 H3 ((X1.trans0 X2).trans0 X3) S3 (R3.mono fun a h => X1.dom _ (X2.dom _ h))⟩⟩⟩
abbrev OpS (X : Cx) (C : List Addr) (f : Value → Value → Sem Value) (g : R → R → M R) : Prop := OpR X f (rU2 (gx X C) g)
abbrev UnS (X : Cx) (C : List Addr) (f : Value → Sem Value) (g : R → M R) : Prop := UnR X f (rU1 (gx X C) g)
theorem _root_.L2.OpR.wk {f : Value → Value → Sem Value} {r r' : R2} (h : OpR X f r) (w : ∀ x y H Q, r' x y H Q → r x y H Q) : OpR X f r' := fun pins s σ H x y v u Q I rx ry q => h pins s σ H x y v u Q I rx ry (w _ _ _ _ q)
theorem _root_.L2.UnR.wk {f : Value → Sem Value} {r r' : V → Hp → VK → Prop} (h : UnR X f r) (w : ∀ x H Q, r' x H Q → r x H Q) : UnR X f r' := fun pins s σ H x v Q I rx q => h pins s σ H x v Q I rx (w _ _ _ q)
theorem _root_.L2.IxR.wk {r r' : R2} (h : IxR X r) (w : ∀ x y H Q, r' x y H Q → r x y H Q) : IxR X r' := fun a b pins s σ H x y v u Q I rx ry q => h a b pins s σ H x y v u Q I rx ry (w _ _ _ _ q)
theorem _root_.L2.SlR.wk {r r' : V → Option Int → Option Int → Hp → VK → Prop} (h : SlR X r) (w : ∀ x a b H Q, r' x a b H Q → r x a b H Q) : SlR X r' := fun pins s σ H x v vl vu lo hi sl Q I rx h1 h2 h3 q => h pins s σ H x v vl vu lo hi sl Q I rx h1 h2 h3 (w _ _ _ _ _ q)
theorem _root_.L2.CallR.wk {f : Value} {r r' : List V → Hp → VK → Prop} (h : CallR X f r) (w : ∀ xs H Q, r' xs H Q → r xs H Q) : CallR X f r' := fun pins s σ H xs us Q I rx q => h pins s σ H xs us Q I rx (w _ _ _ q)
theorem bin {op : Operator} {g : R → R → M R} {a b : Expr} {ma mb : Env → M R} {pos : Pos} (ho : OpS X C (binaryOp op) g) (ha : SimE X C a ma) (hb : SimE X C b mb) : SimE X C (.BinOp a op b pos) (eOp g ma mb) :=
  (pe_op ho ha hb).wk fun _ _ _ h => to2 h
theorem un {op : UnaryOp} {g : R → M R} {a : Expr} {ma : Env → M R} {pos : Pos} (ho : UnS X C (unaryOp op) g) (ha : SimE X C a ma) : SimE X C (.UnaryOp op a pos) (eU g ma) :=
  (pe_un ho ha).wk fun _ _ _ h => to1 h
theorem cmp {op : CmpOp} {g : R → R → M R} {a b : Expr} {ma mb : Env → M R} {pos : Pos} (ho : OpS X C (compareOp op) g) (ha : SimE X C a ma) (hb : SimE X C b mb) (hm : behindInMarks op b = false) : SimE X C (.Compare a [op] [b] pos) (eOp g ma mb) :=
  (pe_cmpR ho ha hb hm).wk fun _ _ _ h => to2 h

/-! ### the operators -/
def iv : Int → R := fun i => .v (.int i)
def bv : Bool → R := fun b => .v (.bl b)
def gI (c : Int → Int → Bool) (f : Int → Int → R) : R → R → M R
  | .v (.int i), .v (.int j) => if c i j = true then pure (f i j) else M.fail
  | _, _ => M.fail
def lenOk (n : Nat) : Bool := decide (n ≤ 16777216)
theorem lenOk_le {n : Nat} (h : lenOk n = true) : n ≤ sizeLine := by
  have := of_decide_eq_true h
  rw [sizeLine_eq]
  exact this
end

/-- a list that may be changed -/
def asLst : R → M (List D)
  | .l (.lst ds) => pure ds
  | .o (.lst ds) => pure ds
  | .b (.lst ds) => pure ds
  | .v (.obj n) => fun st => match st[n]? with
    | some (.lst ds) => some (ds, st)
    | _ => none
  | _ => M.fail
/-- a list, a tuple -/
def asSeq : R → M (List D)
  | .v (.tup ds) => pure ds
  | .o (.cst ds) => pure ds
  | .b (.cst ds) => pure ds
  | r => asLst r
section
variable {G : Kx} {H : Hp} {α : List Addr} {fr own : Addr → Prop} {st st' : Sto} {v : V} {r : R} {ds : List D}
theorem asLst_ok (hr : RepR G H α fr own v r) (hS : RepS G H α st) (h : asLst r st = some (ds, st')) : st' = st ∧ ∃ a xs, v = .ref a ∧ H a = some (.lst xs) ∧ RepL G H α xs ds := by
  have no : ∀ {p : Prop}, (none : Option (List D × Sto)) = some (ds, st') → p := fun h => nomatch h
  cases r with
  | v d =>
    cases d with
    | obj n =>
      have h' : (match st[n]? with | some (.lst ds) => some (ds, st) | _ => none) = some (ds, st') := h
      split at h'
      · rename_i ds' q
        injection h' with h'
        injection h' with h1 h2
        subst h1 h2
        cases hr with
        | obj ha =>
          obtain ⟨xs, h1, h2⟩ := hS.obj n _ _ q ha
          exact ⟨rfl, _, xs, rfl, h1, h2⟩
      · cases h'
    | _ => exact no h
  | l o =>
    cases o with
    | lst ds =>
      obtain ⟨rfl, rfl⟩ := pure_inv h
      obtain ⟨a, rfl, _, _, ⟨xs, h1, h2⟩, _⟩ := hr
      exact ⟨rfl, a, xs, rfl, h1, h2⟩
    | _ => exact no h
  | o o =>
    cases o with
    | lst ds =>
      obtain ⟨rfl, rfl⟩ := pure_inv h
      obtain ⟨a, rfl, ⟨xs, h1, h2⟩, _⟩ := hr
      exact ⟨rfl, a, xs, rfl, h1, h2⟩
    | _ => exact no h
  | b o =>
    cases o with
    | lst ds =>
      obtain ⟨rfl, rfl⟩ := pure_inv h
      obtain ⟨a, rfl, ⟨xs, h1, h2⟩, _⟩ := hr
      exact ⟨rfl, a, xs, rfl, h1, h2⟩
    | _ => exact no h
theorem asSeq_ok (hr : RepR G H α fr own v r) (hS : RepS G H α st) (h : asSeq r st = some (ds, st')) : st' = st ∧ ∃ a xs, v = .ref a ∧ (SqL G.K H a xs ∨ SqT G.K H a xs) ∧ RepL G H α xs ds := by
  unfold asSeq at h
  split at h
  · obtain ⟨rfl, rfl⟩ := pure_inv h
    cases hr with
    | tup h1 h2 => exact ⟨rfl, _, _, rfl, .inr h1, h2⟩
  · obtain ⟨rfl, rfl⟩ := pure_inv h
    obtain ⟨a, rfl, ⟨xs, h1, h2⟩, _⟩ := hr
    exact ⟨rfl, a, xs, rfl, .inl h1.sq, h2⟩
  · obtain ⟨rfl, rfl⟩ := pure_inv h
    obtain ⟨a, rfl, ⟨xs, h1, h2⟩, _⟩ := hr
    exact ⟨rfl, a, xs, rfl, .inl h1.sq, h2⟩
  · obtain ⟨rfl, a, xs, rfl, h1, h2⟩ := asLst_ok hr hS h
    exact ⟨rfl, a, xs, rfl, .inl (SqL.of h1), h2⟩
/-- the end: a plain value -/
theorem endV {x : V} {d : D} {st : Sto} {Q : VK} (k : ∀ v α' H', Ext Non α H α' H' → RepS G H' α' st → RepR G H' α' (Fresh H) own v (.v d) → Q v H') (hS : RepS G H α st) (h : Rep G H α x d) : Q x H := k x α H Ext.rfl' hS h
/-- the end: a new list -/
theorem endL {p : Addr} {xs : List V} {ds : List D} {st : Sto} {Q : VK} (k : ∀ v α' H', Ext Non α H α' H' → RepS G H' α' st → RepR G H' α' (Fresh H) own v (.l (.lst ds)) → Q v H') (hS : RepS G H α st) (hp : H p = none) (h : RepL G H α xs ds) : Q (.ref p) (upd H p (.lst xs)) :=
  k _ α _ (Ext.new hp) (hS.new hp) ⟨p, rfl, hp, hS.fresh hp, ⟨xs, upd_same, h.ext (Ext.new (own := Non) hp)⟩, trivial⟩
/-- the end: a new tuple -/
theorem endT {p : Addr} {xs : List V} {ds : List D} {st : Sto} {Q : VK} (k : ∀ v α' H', Ext Non α H α' H' → RepS G H' α' st → RepR G H' α' (Fresh H) own v (.v (.tup ds)) → Q v H') (hS : RepS G H α st) (hp : H p = none) (h : RepL G H α xs ds) : Q (.ref p) (upd H p (.tup xs)) :=
  k _ α _ (Ext.new hp) (hS.new hp) (.tup (SqT.of upd_same) (h.ext (Ext.new (own := Non) hp)))
end
section
variable {X : Cx} {C : List Addr}
theorem gI_ok {f : Value → Value → Sem Value} {c : Int → Int → Bool} {P : Int → Int → Prop} {h : Int → Int → V} {d : Int → Int → D} (ho : OpR X f (rI P h)) (hc : ∀ i j, c i j = true → P i j) (hd : ∀ H α i j, Rep (gx X C) H α (h i j) (d i j)) : OpS X C f (gI c fun i j => .v (d i j)) := by
  refine ho.wk fun x y H Q q => ?_
  obtain ⟨α, own, st, rx, ry, r, st', hx, hy, hS, hm, k⟩ := q
  unfold gI at hm
  split at hm
  · rename_i i j
    cases hx
    cases hy
    split at hm
    · rename_i hcc
      obtain ⟨rfl, rfl⟩ := pure_inv hm
      exact ⟨i, j, rfl, rfl, hc i j hcc, endV k hS (hd H α i j)⟩
    · cases hm
  · cases hm
theorem gI_ok0 {f : Value → Value → Sem Value} {h : Int → Int → V} {d : Int → Int → D} (ho : OpR X f (rI0 h)) (hd : ∀ H α i j, Rep (gx X C) H α (h i j) (d i j)) : OpS X C f (gI (fun _ _ => true) fun i j => .v (d i j)) := by
  refine ho.wk fun x y H Q q => ?_
  obtain ⟨α, own, st, rx, ry, r, st', hx, hy, hS, hm, k⟩ := q
  unfold gI at hm
  split at hm
  · rename_i i j
    cases hx
    cases hy
    rw [if_pos rfl] at hm
    obtain ⟨rfl, rfl⟩ := pure_inv hm
    exact ⟨i, j, rfl, rfl, endV k hS (hd H α i j)⟩
  · cases hm
def gAdd : R → R → M R
  | .v (.int i), .v (.int j) => pure (iv (i + j))
  | .v (.str x), .v (.str y) => if lenOk (x.length + y.length) = true then pure (.v (.str (x ++ y))) else M.fail
  | .v (.tup xs), .v (.tup ys) => if lenOk (xs.length + ys.length) = true then pure (.v (.tup (xs ++ ys))) else M.fail
  | a, b => asLst a >>= fun xs => asLst b >>= fun ys => if lenOk (xs.length + ys.length) = true then pure (.l (.lst (xs ++ ys))) else M.fail
theorem op_addD : OpS X C (binaryOp .Add) gAdd := by
  refine (op_add.or (op_add_str.or (op_catA.or op_cat))).wk fun x y H Q q => ?_
  obtain ⟨α, own, st, rx, ry, r, st', hx, hy, hS, hm, k⟩ := q
  unfold gAdd at hm
  split at hm
  · rename_i i j
    cases hx; cases hy
    obtain ⟨rfl, rfl⟩ := pure_inv hm
    exact .inl ⟨i, j, rfl, rfl, endV k hS (.int _)⟩
  · rename_i a b
    cases hx; cases hy
    split at hm
    · rename_i hl
      obtain ⟨rfl, rfl⟩ := pure_inv hm
      exact .inr (.inl ⟨a, b, rfl, rfl, lenOk_le hl, endV k hS (.str _)⟩)
    · cases hm
  · rename_i xs ys
    cases hx with
    | tup h1 h2 =>
      rename_i a xs'
      cases hy with
      | tup g1 g2 =>
        rename_i b ys'
        split at hm
        · rename_i hl
          obtain ⟨rfl, rfl⟩ := pure_inv hm
          refine .inr (.inr (.inl ⟨a, b, xs', ys', rfl, rfl, h1, g1, by rw [h2.length, g2.length]; exact lenOk_le hl, fun e => ?_, fun _ e => ?_, fun _ _ p hp => ?_⟩))
          · subst e
            cases h2
            exact endV k hS (.tup g1 g2)
          · subst e
            cases g2
            refine endV k hS (.tup h1 ?_)
            rw [List.append_nil]
            exact h2
          · exact endT k hS hp (h2.append g2)
        · cases hm
  · obtain ⟨xs, s1, e1, hm1⟩ := bind_run hm
    obtain ⟨ys, s2, e2, hm2⟩ := bind_run hm1
    clear hm hm1
    obtain ⟨rfl, a, xs', rfl, h1, h2⟩ := asLst_ok hx hS e1
    obtain ⟨rfl, b, ys', rfl, g1, g2⟩ := asLst_ok hy hS e2
    split at hm2
    · rename_i hl
      obtain ⟨rfl, rfl⟩ := pure_inv hm2
      exact .inr (.inr (.inr ⟨a, b, xs', ys', rfl, rfl, h1, g1, by rw [h2.length, g2.length]; exact lenOk_le hl, fun p hp => endL k hS hp (h2.append g2)⟩))
    · cases hm2
def gSub := gI (fun _ _ => true) fun i j => .v (.int (i - j))
theorem op_subD : OpS X C (binaryOp .Sub) gSub := gI_ok0 op_sub fun _ _ _ _ => .int _
def cMul (i j : Int) : Bool := ((decide (-18446744073709551616 < i) && decide (i < 18446744073709551616)) || (decide (-18446744073709551616 < j) && decide (j < 18446744073709551616))) || decide ((Builtin.Int.intBits i : Int) + (Builtin.Int.intBits j : Int) ≤ 134217728)
theorem op_mulO : OpR X (binaryOp .Mult) (rI IntMulOk fun i j => .int (i * j)) := opI fun _ _ _ _ _ _ _ hc q => mul_int q hc
theorem op_powO : OpR X (binaryOp .Pow) (rI (fun i j => 0 ≤ j ∧ (Builtin.Int.intBits i : Int) * j ≤ 2 ^ 27) fun i j => .int (i ^ j.toNat)) := opI fun _ _ _ _ _ _ _ hc q => pow_int hc.1 hc.2 q
def gMul : R → R → M R
  | .v (.int i), .v (.int j) => if cMul i j = true then pure (iv (i * j)) else M.fail
  | .v (.tup xs), .v (.int k) => if (decide (2 ≤ k) && decide (k ≤ 1000) && decide (xs.length ≤ 1000) && !xs.isEmpty) = true then pure (.v (.tup (List.replicate k.toNat xs).flatten)) else M.fail
  | a, .v (.int k) => asLst a >>= fun xs => if (decide (-(2 ^ 63) ≤ k) && decide (k < 2 ^ 63) && lenOk (xs.length * k.toNat)) = true then pure (.l (.lst (List.replicate k.toNat xs).flatten)) else M.fail
  | _, _ => M.fail
theorem op_mulD : OpS X C (binaryOp .Mult) gMul := by
  refine (op_mulO.or (op_repT.or op_rep)).wk fun x y H Q q => ?_
  obtain ⟨α, own, st, rx, ry, r, st', hx, hy, hS, hm, k⟩ := q
  unfold gMul at hm
  split at hm
  · rename_i i j
    cases hx; cases hy
    split at hm
    · rename_i hc
      obtain ⟨rfl, rfl⟩ := pure_inv hm
      refine .inl ⟨i, j, rfl, rfl, ?_, endV k hS (.int _)⟩
      unfold cMul at hc
      rw [Bool.or_eq_true] at hc
      rcases hc with hc | hc
      · exact CMul.ok (by simpa [CMul] using hc)
      · have h2 := of_decide_eq_true hc
        exact CMulX.ok h2
    · cases hm
  · rename_i xs n
    cases hx with
    | tup h1 h2 =>
      cases hy
      split at hm
      · rename_i hc
        obtain ⟨rfl, rfl⟩ := pure_inv hm
        simp only [Bool.and_eq_true, decide_eq_true_eq, Bool.not_eq_true', List.isEmpty_eq_false_iff] at hc
        obtain ⟨⟨⟨c1, c2⟩, c3⟩, c4⟩ := hc
        refine .inr (.inl ⟨_, n, _, rfl, rfl, h1, ?_, c1, c2, by rw [h2.length]; exact c3, fun p hp => endT k hS hp (h2.flat _)⟩)
        intro e
        subst e
        cases h2
        exact c4 rfl
      · cases hm
  · rename_i n _ _
    obtain ⟨xs, s1, e1, hm2⟩ := bind_run hm
    clear hm
    obtain ⟨rfl, a, xs', rfl, h1, h2⟩ := asLst_ok hx hS e1
    cases hy
    split at hm2
    · rename_i hc
      obtain ⟨rfl, rfl⟩ := pure_inv hm2
      (simp only [Bool.and_eq_true, decide_eq_true_eq] at hc); obtain ⟨⟨c1, c2⟩, c3⟩ := hc
      exact .inr (.inr ⟨a, n, xs', rfl, rfl, h1, c1, c2, by rw [h2.length]; exact lenOk_le c3, fun p hp => endL k hS hp (h2.flat _)⟩)
    · cases hm2
  · cases hm
def gMod := gI (fun _ j => decide (j ≠ 0)) fun i j => .v (.int (i.fmod j))
theorem op_modD : OpS X C (binaryOp .Mod) gMod := gI_ok op_modN (fun _ _ h => of_decide_eq_true h) fun _ _ _ _ => .int _
def gFdiv := gI (fun _ j => decide (j ≠ 0) && decide (j.natAbs < 1073741824)) fun i j => .v (.int (i.fdiv j))
theorem op_fdivD : OpS X C (binaryOp .FloorDiv) gFdiv := gI_ok op_fdivN (fun _ _ h => by simpa [CDivN] using h) fun _ _ _ _ => .int _
def gPow := gI (fun i j => decide (0 ≤ j) && decide ((Builtin.Int.intBits i : Int) * j ≤ 134217728)) fun i j => .v (.int (i ^ j.toNat))
theorem op_powD : OpS X C (binaryOp .Pow) gPow := gI_ok op_powO (fun _ _ h => by
  (simp only [Bool.and_eq_true, decide_eq_true_eq] at h); exact h) fun _ _ _ _ => .int _
def gLt := gI (fun _ _ => true) fun i j => .v (.bl (decide (i < j)))
def gLe := gI (fun _ _ => true) fun i j => .v (.bl (decide (i ≤ j)))
def gGt := gI (fun _ _ => true) fun i j => .v (.bl (decide (j < i)))
def gGe := gI (fun _ _ => true) fun i j => .v (.bl (decide (j ≤ i)))
theorem op_ltD : OpS X C (compareOp .Lt) gLt := gI_ok0 op_lt fun _ _ _ _ => .bl _
theorem op_leD : OpS X C (compareOp .LtE) gLe := gI_ok0 op_le fun _ _ _ _ => .bl _
theorem op_gtD : OpS X C (compareOp .Gt) gGt := gI_ok0 op_gt fun _ _ _ _ => .bl _
theorem op_geD : OpS X C (compareOp .GtE) gGe := gI_ok0 op_ge fun _ _ _ _ => .bl _
def gNeg : R → M R
  | .v (.int i) => pure (iv (-i))
  | _ => M.fail
theorem op_negD : UnS X C (unaryOp .USub) gNeg := by
  refine un_neg.wk fun x H Q q => ?_
  obtain ⟨α, own, st, rx, r, st', hx, hS, hm, k⟩ := q
  unfold gNeg at hm
  split at hm
  · cases hx
    obtain ⟨rfl, rfl⟩ := pure_inv hm
    exact ⟨_, rfl, endV k hS (.int _)⟩
  · cases hm

/-! ### equality -/
mutual
/-- data without the store: at most so deep -/
def pdD : Nat → Sto → D → Option PyData
  | _, _, .non => some .none
  | _, _, .bl b => some (.bool b)
  | _, _, .int i => some (.int i)
  | _, _, .str x => some (.str x)
  | 0, _, _ => none
  | k + 1, st, .tup ds => (pdL k st ds).map .tuple
  | k + 1, st, .obj n => match st[n]? with
    | some (.lst ds) => (pdL k st ds).map .list
    | _ => none
def pdL : Nat → Sto → List D → Option (List PyData)
  | _, _, [] => some []
  | k, st, d :: ds => match pdD k st d, pdL k st ds with
    | some p, some ps => some (p :: ps)
    | _, _ => none
end
def pdR (st : Sto) : R → Option PyData
  | .v d => pdD 8 st d
  | .l (.lst ds) | .o (.lst ds) | .b (.lst ds) => (pdL 8 st ds).map .list
  | .o (.cst ds) | .b (.cst ds) => (pdL 8 st ds).map .list
  | _ => none
section
variable {G : Kx} {H : Hp} {α : List Addr} {fr own : Addr → Prop} {st st' : Sto} {v : V} {r : R} {ds : List D}
mutual
theorem pdD_ok (hS : RepS G H α st) : ∀ (k : Nat) {d : D} {v : V} {p : PyData}, Rep G H α v d → pdD k st d = some p → Dp G.K H v p
  | k, .non, _, _, .non, e => by cases k <;> (unfold pdD at e; cases e; exact .non)
  | k, .bl b, _, _, .bl _, e => by cases k <;> (unfold pdD at e; cases e; exact .bl b)
  | k, .int i, _, _, .int _, e => by cases k <;> (unfold pdD at e; cases e; exact .int i)
  | k, .str x, _, _, .str _, e => by cases k <;> (unfold pdD at e; cases e; exact .str x)
  | 0, .tup _, _, _, _, e => by unfold pdD at e; cases e
  | 0, .obj _, _, _, _, e => by unfold pdD at e; cases e
  | k + 1, .tup ds, _, _, .tup h1 h2, e => by
    unfold pdD at e
    cases q : pdL k st ds with
    | none => rw [q] at e; cases e
    | some ps =>
      rw [q] at e
      cases e
      exact .tup h1 (pdL_ok hS k h2 q)
  | k + 1, .obj n, _, _, .obj h1, e => by
    unfold pdD at e
    split at e
    · rename_i ds q
      cases q2 : pdL k st ds with
      | none => rw [q2] at e; cases e
      | some ps =>
        rw [q2] at e
        cases e
        obtain ⟨xs, g1, g2⟩ := hS.obj n _ _ q h1
        exact .lst (SqL.of g1) (pdL_ok hS k g2 q2)
    · cases e
theorem pdL_ok (hS : RepS G H α st) : ∀ (k : Nat) {ds : List D} {vs : List V} {ps : List PyData}, RepL G H α vs ds → pdL k st ds = some ps → DpAll G.K H vs ps
  | k, [], _, _, .nil, e => by cases k <;> (unfold pdL at e; cases e; exact .nil)
  | k, d :: ds, _, _, .cons h1 h2, e => by
    unfold pdL at e
    split at e
    · rename_i p ps e1 e2
      cases e
      exact .cons (pdD_ok hS k h1 e1) (pdL_ok hS k h2 e2)
    · cases e
end
theorem pdR_ok (hr : RepR G H α fr own v r) (hS : RepS G H α st) {p : PyData} (h : pdR st r = some p) : Dp G.K H v p := by
  have fin : ∀ {ds : List D} {a : Addr} {xs : List V}, SqL G.K H a xs → RepL G H α xs ds → (pdL 8 st ds).map .list = some p → Dp G.K H (.ref a) p := fun {ds a xs} h1 h2 h => by
    cases q : pdL 8 st ds with
    | none => rw [q] at h; cases h
    | some ps =>
      rw [q] at h
      cases h
      exact .lst h1 (pdL_ok hS 8 h2 q)
  unfold pdR at h
  split at h
  · exact pdD_ok hS 8 hr h
  · obtain ⟨a, rfl, _, _, ⟨xs, h1, h2⟩, _⟩ := hr
    exact fin (SqL.of h1) h2 h
  · obtain ⟨a, rfl, ⟨xs, h1, h2⟩, _⟩ := hr
    exact fin (SqL.of h1) h2 h
  · obtain ⟨a, rfl, ⟨xs, h1, h2⟩, _⟩ := hr
    exact fin (SqL.of h1) h2 h
  · obtain ⟨a, rfl, ⟨xs, h1, h2⟩, _⟩ := hr
    exact fin h1.sq h2 h
  · obtain ⟨a, rfl, ⟨xs, h1, h2⟩, _⟩ := hr
    exact fin h1.sq h2 h
  · cases h
end
end
def gCmp (f : PyData → PyData → Bool) : R → R → M R := fun a b st => match pdR st a, pdR st b with
  | some p, some q => if (SeqAt.shaped p && SeqAt.shaped q) = true then some (bv (f p q), st) else none
  | _, _ => none
def gEq := gCmp PyData.eqv
def gNe := gCmp fun p q => !PyData.eqv p q
section
variable {X : Cx} {C : List Addr}
theorem gCmp_ok {f : Value → Value → Sem Value} {g : PyData → PyData → Bool} (ho : OpR X f (fun x y H Q => ∃ d e, Dp X.K H x d ∧ Dp X.K H y e ∧ SeqAt.shaped d = true ∧ SeqAt.shaped e = true ∧ Q (.bl (g d e)) H)) : OpS X C f (gCmp g) := by
  refine ho.wk fun x y H Q q => ?_
  obtain ⟨α, own, st, rx, ry, r, st', hx, hy, hS, hm, k⟩ := q
  unfold gCmp at hm
  split at hm
  · rename_i p q e1 e2
    split at hm
    · rename_i hc
      injection hm with hm
      injection hm with h1 h2
      subst h1 h2
      rw [Bool.and_eq_true] at hc
      exact ⟨p, q, pdR_ok hx hS e1, pdR_ok hy hS e2, hc.1, hc.2, endV k hS (.bl _)⟩
    · cases hm
  · cases hm
theorem op_eqM {n : Nat} (hr : Room n X.A) : OpS X C (compareOp .Eq) gEq := gCmp_ok (op_eqD hr.units)
theorem op_neM {n : Nat} (hr : Room n X.A) : OpS X C (compareOp .NotEq) gNe := gCmp_ok (op_neD hr.units)
/-- is None -/
def isNon : R → Bool
  | .v .non => true
  | _ => false
def gIsN : R → R → M R := fun a b => match b with
  | .v .non => pure (bv (isNon a))
  | _ => M.fail
def gNotN : R → R → M R := fun a b => match b with
  | .v .non => pure (bv (!isNon a))
  | _ => M.fail
theorem isNon_ok {G : Kx} {H : Hp} {α : List Addr} {fr own : Addr → Prop} {v : V} {r : R} (h : RepR G H α fr own v r) : decide (v = .non) = isNon r := by
  cases r with
  | v d => cases h <;> simp [isNon]
  | l o => obtain ⟨a, rfl, _⟩ := h; simp [isNon]
  | o o => obtain ⟨a, rfl, _⟩ := h; simp [isNon]
  | b o => obtain ⟨a, rfl, _⟩ := h; simp [isNon]
theorem op_isND : OpS X C (compareOp .Is) gIsN := by
  refine op_isN.wk fun x y H Q q => ?_
  obtain ⟨α, own, st, rx, ry, r, st', hx, hy, hS, hm, k⟩ := q
  unfold gIsN at hm
  split at hm
  · cases hy
    obtain ⟨rfl, rfl⟩ := pure_inv hm
    refine ⟨rfl, ?_⟩
    rw [isNon_ok hx]
    exact endV k hS (.bl _)
  · cases hm
theorem op_notND : OpS X C (compareOp .IsNot) gNotN := by
  refine op_notN.wk fun x y H Q q => ?_
  obtain ⟨α, own, st, rx, ry, r, st', hx, hy, hS, hm, k⟩ := q
  unfold gNotN at hm
  split at hm
  · cases hy
    obtain ⟨rfl, rfl⟩ := pure_inv hm
    refine ⟨rfl, ?_⟩
    rw [isNon_ok hx]
    exact endV k hS (.bl _)
  · cases hm

/-! ### items and slices -/
def gIx : R → R → M R
  | .v (.str x), .v (.int i) => M.ofO (if lenOk x.length = true then (atI x.cps.toList i).map fun c => .v (.str ⟨#[c]⟩) else none)
  | a, .v (.int i) => asSeq a >>= fun ds => M.ofO ((atI ds i).map .v)
  | _, _ => M.fail
theorem RepL.at {G : Kx} {H : Hp} {α : List Addr} {xs : List V} {ds : List D} {i : Int} {d : D} (h : RepL G H α xs ds) (e : atI ds i = some d) : ∃ v, atI xs i = some v ∧ Rep G H α v d := by
  unfold atI at e ⊢
  rw [h.length]
  cases q : ixN ds.length i with
  | none => rw [q] at e; cases e
  | some j =>
    rw [q] at e
    exact h.get e
theorem ix_D : IxR X (rU2 (gx X C) gIx) := by
  refine (ix_list.or (ix_tup.or ix_str)).wk fun x y H Q q => ?_
  obtain ⟨α, own, st, rx, ry, r, st', hx, hy, hS, hm, k⟩ := q
  unfold gIx at hm
  split at hm
  · rename_i z i
    cases hx; cases hy
    obtain ⟨e, rfl⟩ := ofO_inv hm
    split at e
    · rename_i hl
      cases q : atI z.cps.toList i with
      | none => rw [q] at e; cases e
      | some c =>
        rw [q] at e
        cases e
        exact .inr (.inr ⟨z, i, c, rfl, rfl, lenOk_le hl, q, endV k hS (.str _)⟩)
    · cases e
  · rename_i i _
    obtain ⟨ds, s1, e1, hm2⟩ := bind_run hm
    clear hm
    obtain ⟨rfl, a, xs, rfl, h1, h2⟩ := asSeq_ok hx hS e1
    cases hy
    obtain ⟨e, rfl⟩ := ofO_inv hm2
    cases q : atI ds i with
    | none => rw [q] at e; cases e
    | some d =>
      rw [q] at e
      cases e
      obtain ⟨v, e', rv⟩ := h2.at q
      rcases h1 with h1 | h1
      · exact .inl ⟨a, xs, i, v, rfl, rfl, h1, e', endV k hS rv⟩
      · exact .inr (.inl ⟨a, xs, i, v, rfl, rfl, h1, e', endV k hS rv⟩)
  · cases hm
theorem ix {a b : Expr} {ma mb : Env → M R} {pos : Pos} (ha : SimE X C a ma) (hb : SimE X C b mb) (hs : PlainIx b) : SimE X C (.Subscript a b pos) (eOp gIx ma mb) :=
  (pe_ix ix_D ha hb hs).wk fun _ _ _ h => to2 h
def cutD (ds : List D) (lo hi : Option Int) : List D := (ds.drop (HT.sIx ds.length 0 lo)).take (HT.sIx ds.length ds.length hi - HT.sIx ds.length 0 lo)
theorem RepL.cut {G : Kx} {H : Hp} {α : List Addr} {xs : List V} {ds : List D} (h : RepL G H α xs ds) (lo hi : Option Int) : RepL G H α (cutV xs lo hi) (cutD ds lo hi) := by
  unfold cutV cutD
  rw [h.length]
  exact (h.drop _).take _
def gSl (a : R) (lo hi : Option Int) : M R := match a with
  | .v (.tup ds) => pure (.v (.tup (cutD ds lo hi)))
  | .v (.str x) => if lenOk x.length = true then pure (.v (.str (cutS x lo hi))) else M.fail
  | .o (.cst ds) => pure (.l (.lst (cutD ds lo hi)))
  | .b (.cst ds) => pure (.l (.lst (cutD ds lo hi)))
  | a => asLst a >>= fun ds => pure (.l (.lst (cutD ds lo hi)))
/-- the bounds of a slice -/
def ePart : Option (Env → M R) → Env → M (Option Int)
  | none => fun _ => pure none
  | some m => fun env => m env >>= fun r => match r with
    | .v (.int i) => pure (some i)
    | _ => M.fail
def tO (G : Kx) (m : Env → M (Option Int)) : TO := fun σ H Q => ∃ α env st r st', RepE G H α σ env ∧ RepS G H α st ∧ m env st = some (r, st') ∧
  ∀ α' H', Ext Non α H α' H' → RepS G H' α' st' → Q r H'
theorem PO.wk {e : Option Expr} {t t' : TO} (h : PO X e t) (w : ∀ σ H Q, t' σ H Q → t σ H Q) : PO X e t' := ⟨fun pins s σ H Q I h' => h.run pins s σ H Q I (w _ _ _ h')⟩
abbrev SimO (X : Cx) (C : List Addr) (e : Option Expr) (m : Env → M (Option Int)) : Prop := PO X e (tO (gx X C) m)
theorem part0 : SimO X C none (ePart none) := PO.wk po_none fun σ H Q h => by
  obtain ⟨α, env, st, r, st', hE, hS, hm, k⟩ := h
  obtain ⟨rfl, rfl⟩ := pure_inv hm
  exact k α H Ext.rfl' hS
theorem part1 {e : Expr} {m : Env → M R} (h : SimE X C e m) : SimO X C (some e) (ePart (some m)) := PO.wk (po_some h) fun σ H Q h => by
  obtain ⟨α, env, st, r, st', hE, hS, hm, k⟩ := h
  obtain ⟨ra, s1, e1, hm⟩ := bind_run hm
  refine ⟨α, env, st, ra, s1, hE, hS, e1, fun v α1 H1 X1 S1 R1 => ?_⟩
  split at hm
  · obtain ⟨rfl, rfl⟩ := pure_inv hm
    cases R1
    exact ⟨_, rfl, k α1 H1 X1 S1⟩
  · cases hm
def eSl (ma : Env → M R) (ml mh : Env → M (Option Int)) : Env → M R := fun env => ma env >>= fun a => ml env >>= fun l => mh env >>= fun h => gSl a l h
theorem to_sl {G : Kx} {ma : Env → M R} {ml mh : Env → M (Option Int)} {σ : St} {H : Hp} {Q : VK} (h : tE G (eSl ma ml mh) σ H Q) :
    tSl (fun x lo hi H Q => ∃ α own st rx r st', RepR G H α All own x rx ∧ RepS G H α st ∧ gSl rx lo hi st = some (r, st') ∧ ∀ v α' H', Ext Non α H α' H' → RepS G H' α' st' → RepR G H' α' (Fresh H) own v r → Q v H')
      (tE G ma) (tO G ml) (tO G mh) σ H Q := by
  obtain ⟨α, env, st, r, st', hE, hS, hm, k⟩ := h
  obtain ⟨ra, s1, e1, hm1⟩ := bind_run hm
  obtain ⟨lo, s2, e2, hm2⟩ := bind_run hm1
  obtain ⟨hi, s3, e3, e4⟩ := bind_run hm2
  exact ⟨α, env, st, ra, s1, hE, hS, e1, fun x α1 H1 X1 S1 R1 => ⟨α1, env, s1, lo, s2, hE.ext X1, S1, e2, fun α2 H2 X2 S2 => ⟨α2, env, s2, hi, s3, (hE.ext X1).ext X2, S2, e3, fun α3 H3 X3 S3 =>
    ⟨α3, Own σ env, s3, ra, r, st', ((R1.ext X2).ext X3).mono (fun _ _ => trivial), S3, e4, fun v α4 H4 X4 S4 R4 =>
      k v α4 H4 (((X1.trans0 X2).trans0 X3).trans0 X4) S4 (R4.mono fun a h => X1.dom _ (X2.dom _ (X3.dom _ h)))⟩⟩⟩⟩
theorem sl_D : SlR X (fun x lo hi H Q => ∃ α own st rx r st', RepR (gx X C) H α All own x rx ∧ RepS (gx X C) H α st ∧ gSl rx lo hi st = some (r, st') ∧ ∀ v α' H', Ext Non α H α' H' → RepS (gx X C) H' α' st' → RepR (gx X C) H' α' (Fresh H) own v r → Q v H') := by
  refine (sl_tupA.or (sl_list.or sl_str)).wk fun x lo hi H Q q => ?_
  obtain ⟨α, own, st, rx, r, st', hx, hS, hm, k⟩ := q
  unfold gSl at hm
  split at hm
  · rename_i ds
    obtain ⟨rfl, rfl⟩ := pure_inv hm
    cases hx with
    | tup h1 h2 =>
      refine .inl ⟨_, _, rfl, h1, fun hw => ?_, fun _ p hp => endT k hS hp (h2.cut lo hi)⟩
      refine endV k hS (.tup h1 ?_)
      have e : cutD ds lo hi = ds := by
        unfold cutD
        rw [← h2.length, hw.1, hw.2, h2.length]
        simp
      rw [e]
      exact h2
  · rename_i z
    cases hx
    split at hm
    · rename_i hl
      obtain ⟨rfl, rfl⟩ := pure_inv hm
      exact .inr (.inr ⟨z, rfl, lenOk_le hl, endV k hS (.str _)⟩)
    · cases hm
  · obtain ⟨rfl, rfl⟩ := pure_inv hm
    obtain ⟨a, rfl, ⟨xs, h1, h2⟩, _⟩ := hx
    exact .inr (.inl ⟨a, xs, rfl, h1.sq, fun p hp => endL k hS hp (h2.cut lo hi)⟩)
  · obtain ⟨rfl, rfl⟩ := pure_inv hm
    obtain ⟨a, rfl, ⟨xs, h1, h2⟩, _⟩ := hx
    exact .inr (.inl ⟨a, xs, rfl, h1.sq, fun p hp => endL k hS hp (h2.cut lo hi)⟩)
  · obtain ⟨ds, s1, e1, hm2⟩ := bind_run hm
    clear hm
    obtain ⟨rfl, rfl⟩ := pure_inv hm2
    obtain ⟨rfl, a, xs, rfl, h1, h2⟩ := asLst_ok hx hS e1
    exact .inr (.inl ⟨a, xs, rfl, SqL.of h1, fun p hp => endL k hS hp (h2.cut lo hi)⟩)
theorem sl {a : Expr} {lo hi : Option Expr} {ma : Env → M R} {ml mh : Env → M (Option Int)} {p2 pos : Pos} (ha : SimE X C a ma) (hl : SimO X C lo ml) (hh : SimO X C hi mh) : SimE X C (.Subscript a (.Slice lo hi none p2) pos) (eSl ma ml mh) :=
  (pe_slice sl_D ha hl hh).wk fun _ _ _ h => to_sl h
/-- xs[::-1] of a list -/
def gRevL (a : R) : M R := asLst a >>= fun ds => pure (.l (.lst ds.reverse))
theorem revL {e : Expr} {m : Env → M R} {k : Nat} {p1 p2 p3 pos : Pos} (he : SimE X C e m) : SimE X C (.Subscript e (.Slice none none (some (.UnaryOp .USub (.Constant (.int 1) k p1) p2)) p3) pos) (eU gRevL m) :=
  (pe_revL he).wk fun σ H Q h => by
    obtain ⟨α, env, st, r, st', hE, hS, hm, k⟩ := to1 h
    refine ⟨α, env, st, r, st', hE, hS, hm, fun v α1 H1 X1 S1 R1 => ?_⟩
    obtain ⟨α2, own, s2, rx, r2, s3, hx, hS2, hm2, k2⟩ := k v α1 H1 X1 S1 R1
    obtain ⟨ds, s4, e4, hm3⟩ := bind_run hm2
    obtain ⟨rfl, rfl⟩ := pure_inv hm3
    obtain ⟨rfl, a, xs, rfl, h1, h2⟩ := asLst_ok hx hS2 e4
    exact ⟨a, xs, rfl, SqL.of h1, fun p hp => endL k2 hS2 hp h2.reverse⟩
end
end Mi
/-! Mi: tests, arguments, displays, calls of built-ins and of defs. -/
namespace Mi
open PySem PySem.Spec PyProof.Rows L2

/-! ### tests -/
/-- a value's truth -/
def truR : R → M Bool
  | .v .non => pure false
  | .v (.bl b) => pure b
  | .v (.int i) => pure (i != 0)
  | .v (.str x) => if lenOk x.length = true then pure ((x.length : Int) != 0) else M.fail
  | r => asSeq r >>= fun ds => pure (!ds.isEmpty)
def tTr (m : Env → M R) : Env → M Bool := fun env => m env >>= truR
/-- a truth value -/
def isBl : R → M Bool
  | .v (.bl b) => pure b
  | _ => M.fail
def tBl (m : Env → M R) : Env → M Bool := fun env => m env >>= isBl
def tAnd2 (a b : Env → M Bool) : Env → M Bool := fun env => a env >>= fun c => if c = true then b env else pure false
def tOr2 (a b : Env → M Bool) : Env → M Bool := fun env => a env >>= fun c => if c = true then pure true else b env
def tNot1 (a : Env → M Bool) : Env → M Bool := fun env => a env >>= fun c => pure (!c)
def eIf (t : Env → M Bool) (a b : Env → M R) : Env → M R := fun env => t env >>= fun c => if c = true then a env else b env
/-- a test as a value -/
def eT (t : Env → M Bool) : Env → M R := fun env => t env >>= fun c => pure (.v (.bl c))
theorem RepL.isEmpty {G : Kx} {H : Hp} {α : List Addr} {vs : List V} {ds : List D} (h : RepL G H α vs ds) : vs.isEmpty = ds.isEmpty := by
  cases h <;> rfl
section
variable {X : Cx} {C : List Addr} {e a b c : Expr} {rest : List Expr} {pos : Pos} {m ma mb : Env → M R} {t u : Env → M Bool}
theorem truV_ok {G : Kx} {H : Hp} {α : List Addr} {fr own : Addr → Prop} {st st' : Sto} {v : V} {r : R} {k : Bool} (hr : RepR G H α fr own v r) (hS : RepS G H α st) (h : truR r st = some (k, st')) : st' = st ∧ TruV G.K v H k := by
  unfold truR at h
  split at h
  · cases hr
    obtain ⟨rfl, rfl⟩ := pure_inv h
    exact ⟨rfl, rfl⟩
  · cases hr
    obtain ⟨rfl, rfl⟩ := pure_inv h
    exact ⟨rfl, rfl⟩
  · cases hr
    obtain ⟨rfl, rfl⟩ := pure_inv h
    exact ⟨rfl, rfl⟩
  · cases hr
    split at h
    · rename_i hl
      obtain ⟨rfl, rfl⟩ := pure_inv h
      exact ⟨rfl, lenOk_le hl, rfl⟩
    · cases h
  · obtain ⟨ds, s1, e1, h2⟩ := bind_run h
    clear h
    obtain ⟨rfl, rfl⟩ := pure_inv h2
    obtain ⟨rfl, a, xs, rfl, h1, h2⟩ := asSeq_ok hr hS e1
    refine ⟨rfl, ?_⟩
    rcases h1 with h1 | h1
    · exact .inl ⟨xs, h1, by rw [h2.isEmpty]⟩
    · exact .inr (.inl ⟨xs, h1, by rw [h2.isEmpty]⟩)
theorem t_truth (he : SimE X C e m) (hw : ∀ whole, isTrue e X.env whole = (do let v ← whole; standAt e.pos; holding [v] (truthy v))) : SimT X C e (tTr m) :=
  (pt_truth he hw).wk fun σ H Q h => by
    obtain ⟨α, env, st, r, st', hE, hS, hm, k⟩ := h
    obtain ⟨ra, s1, e1, e2⟩ := bind_run hm
    refine ⟨α, env, st, ra, s1, hE, hS, e1, fun v α1 H1 X1 S1 R1 => ?_⟩
    obtain ⟨rfl, tv⟩ := truV_ok R1 S1 e2
    exact ⟨r, tv, k α1 H1 X1 S1⟩
/-- a comparison whose answer is a truth value -/
theorem t_bl (h : ∀ t : TE, PE X e t → PT X e (tTest t)) (he : SimE X C e m) : SimT X C e (tBl m) :=
  (h _ he).wk fun σ H Q h => by
    obtain ⟨α, env, st, r, st', hE, hS, hm, k⟩ := h
    obtain ⟨ra, s1, e1, e2⟩ := bind_run hm
    refine ⟨α, env, st, ra, s1, hE, hS, e1, fun v α1 H1 X1 S1 R1 => ?_⟩
    unfold isBl at e2
    split at e2
    · cases R1
      obtain ⟨rfl, rfl⟩ := pure_inv e2
      exact ⟨_, rfl, k α1 H1 X1 S1⟩
    · cases e2
theorem t_cmp {op : CmpOp} {g : R → R → M R} (ho : OpS X C (compareOp op) g) (ha : SimE X C a ma) (hb : SimE X C b mb) (hm : behindInMarks op b = false) : SimT X C (.Compare a [op] [b] pos) (tBl (eOp g ma mb)) :=
  (pt_cmpR ho ha hb hm).wk fun σ H Q h => by
    obtain ⟨α, env, st, r, st', hE, hS, hm, k⟩ := h
    obtain ⟨ra, s1, e1, e2⟩ := bind_run hm
    refine to2 ⟨α, env, st, ra, s1, hE, hS, e1, fun v α1 H1 X1 S1 R1 => ?_⟩
    unfold isBl at e2
    split at e2
    · cases R1
      obtain ⟨rfl, rfl⟩ := pure_inv e2
      exact ⟨_, rfl, k α1 H1 X1 S1⟩
    · cases e2
/-- a op b op' c -/
def eChain (g g' : R → R → M R) (ma mb mc : Env → M R) : Env → M R := fun env => ma env >>= fun x => mb env >>= fun y => g x y >>= fun z => isBl z >>= fun k => if k = true then mc env >>= fun w => g' y w else pure (.v (.bl false))
theorem to_chain {G : Kx} {g g' : R → R → M R} {ma mb mc : Env → M R} {σ : St} {H : Hp} {Q : VK} (h : tE G (eChain g g' ma mb mc) σ H Q) : tChain (rU2 G g) (rU2 G g') (tE G ma) (tE G mb) (tE G mc) σ H Q := by
  obtain ⟨α, env, st, r, st', hE, hS, hm, k⟩ := h
  obtain ⟨ra, s1, e1, hm1⟩ := bind_run hm
  obtain ⟨rb, s2, e2, hm2⟩ := bind_run hm1
  obtain ⟨rz, s3, e3, hm3⟩ := bind_run hm2
  obtain ⟨kk, s4, e4, hm4⟩ := bind_run hm3
  refine ⟨α, env, st, ra, s1, hE, hS, e1, fun x α1 H1 X1 S1 R1 => ⟨α1, env, s1, rb, s2, hE.ext X1, S1, e2, fun y α2 H2 X2 S2 R2 =>
    ⟨α2, Own σ env, s2, ra, rb, rz, s3, (R1.ext X2).mono (fun _ _ => trivial), R2.mono (fun _ _ => trivial), S2, e3, fun z α3 H3 X3 S3 R3 => ?_⟩⟩⟩
  unfold isBl at e4
  split at e4
  · cases R3
    obtain ⟨rfl, rfl⟩ := pure_inv e4
    refine ⟨_, rfl, ?_⟩
    split
    · rename_i hk
      rw [if_pos hk] at hm4
      obtain ⟨rw', s5, e5, e6⟩ := bind_run hm4
      refine ⟨α3, env, _, rw', s5, ((hE.ext X1).ext X2).ext X3, S3, e5, fun w α4 H4 X4 S4 R4 =>
        ⟨α4, Own σ env, s5, rb, rw', r, st', ((R2.ext X3).ext X4).mono (fun _ _ => trivial), R4.mono (fun _ _ => trivial), S4, e6, fun v α5 H5 X5 S5 R5 =>
          k v α5 H5 ((((X1.trans0 X2).trans0 X3).trans0 X4).trans0 X5) S5 (R5.mono fun a h => X1.dom _ (X2.dom _ (X3.dom _ (X4.dom _ h))))⟩⟩
    · rename_i hk
      rw [if_neg hk] at hm4
      obtain ⟨rfl, rfl⟩ := pure_inv hm4
      exact k _ α3 H3 ((X1.trans0 X2).trans0 X3) S3 (.bl false)
  · cases e4
theorem chain {op op' : CmpOp} {g g' : R → R → M R} {mc : Env → M R} (ho : OpS X C (compareOp op) g) (ho' : OpS X C (compareOp op') g') (ha : SimE X C a ma) (hb : SimE X C b mb) (hc : SimE X C c mc)
    (hm : lastMarks [op, op'] [b, c] = false := by with_unfolding_all rfl) : SimE X C (.Compare a [op, op'] [b, c] pos) (eChain g g' ma mb mc) :=
  (pe_chain ho ho' ha hb hc hm).wk fun _ _ _ h => to_chain h
theorem t_chain {op op' : CmpOp} {g g' : R → R → M R} {mc : Env → M R} (ho : OpS X C (compareOp op) g) (ho' : OpS X C (compareOp op') g') (ha : SimE X C a ma) (hb : SimE X C b mb) (hc : SimE X C c mc)
    (hm : lastMarks [op, op'] [b, c] = false := by with_unfolding_all rfl) : SimT X C (.Compare a [op, op'] [b, c] pos) (tBl (eChain g g' ma mb mc)) :=
  (pt_chain ho ho' ha hb hc hm).wk fun σ H Q h => by
    obtain ⟨α, env, st, r, st', hE, hS, hm, k⟩ := h
    obtain ⟨ra, s1, e1, e2⟩ := bind_run hm
    refine to_chain ⟨α, env, st, ra, s1, hE, hS, e1, fun v α1 H1 X1 S1 R1 => ?_⟩
    unfold isBl at e2
    split at e2
    · cases R1
      obtain ⟨rfl, rfl⟩ := pure_inv e2
      exact ⟨_, rfl, k α1 H1 X1 S1⟩
    · cases e2
theorem t_and1 (ha : SimT X C a t) : SimW X C (.BoolOp .And [a] pos) t := pw_and1 ha
theorem t_or1 (ha : SimT X C a t) : SimW X C (.BoolOp .Or [a] pos) t := pw_or1 ha
theorem t_and (ha : SimT X C a t) (hb : SimW X C (.BoolOp .And (b :: rest) pos) u) : SimW X C (.BoolOp .And (a :: b :: rest) pos) (tAnd2 t u) :=
  (pw_and ha hb).wk fun σ H Q h => by
    obtain ⟨α, env, st, r, st', hE, hS, hm, k⟩ := h
    obtain ⟨ra, s1, e1, e2⟩ := bind_run hm
    refine ⟨α, env, st, ra, s1, hE, hS, e1, fun α1 H1 X1 S1 => ?_⟩
    dsimp only
    split
    · rename_i hk
      rw [if_pos hk] at e2
      exact ⟨α1, env, s1, r, st', hE.ext X1, S1, e2, fun α2 H2 X2 S2 => k α2 H2 (X1.trans0 X2) S2⟩
    · rename_i hk
      rw [if_neg hk] at e2
      obtain ⟨rfl, rfl⟩ := pure_inv e2
      exact k α1 H1 X1 S1
theorem t_or (ha : SimT X C a t) (hb : SimW X C (.BoolOp .Or (b :: rest) pos) u) : SimW X C (.BoolOp .Or (a :: b :: rest) pos) (tOr2 t u) :=
  (pw_or ha hb).wk fun σ H Q h => by
    obtain ⟨α, env, st, r, st', hE, hS, hm, k⟩ := h
    obtain ⟨ra, s1, e1, e2⟩ := bind_run hm
    refine ⟨α, env, st, ra, s1, hE, hS, e1, fun α1 H1 X1 S1 => ?_⟩
    dsimp only
    split
    · rename_i hk
      rw [if_pos hk] at e2
      obtain ⟨rfl, rfl⟩ := pure_inv e2
      exact k α1 H1 X1 S1
    · rename_i hk
      rw [if_neg hk] at e2
      exact ⟨α1, env, s1, r, st', hE.ext X1, S1, e2, fun α2 H2 X2 S2 => k α2 H2 (X1.trans0 X2) S2⟩
theorem t_not (ha : SimT X C a t) : SimT X C (.UnaryOp .Not a pos) (tNot1 t) :=
  (pt_not ha).wk fun σ H Q h => by
    obtain ⟨α, env, st, r, st', hE, hS, hm, k⟩ := h
    obtain ⟨ra, s1, e1, e2⟩ := bind_run hm
    obtain ⟨rfl, rfl⟩ := pure_inv e2
    exact ⟨α, env, st, ra, _, hE, hS, e1, fun α1 H1 X1 S1 => k α1 H1 X1 S1⟩
theorem t_w (ha : SimW X C a t) : SimT X C a t := PW.pt ha
theorem ifx (hc : SimT X C c t) (ha : SimE X C a ma) (hb : SimE X C b mb) : SimE X C (.IfExp c a b pos) (eIf t ma mb) :=
  (pe_ifExp hc ha hb).wk fun σ H Q h => by
    obtain ⟨α, env, st, r, st', hE, hS, hm, k⟩ := h
    obtain ⟨ra, s1, e1, e2⟩ := bind_run hm
    refine ⟨α, env, st, ra, s1, hE, hS, e1, fun α1 H1 X1 S1 => ?_⟩
    dsimp only
    split
    · rename_i hk
      rw [if_pos hk] at e2
      exact ⟨α1, env, s1, r, st', hE.ext X1, S1, e2, fun v α2 H2 X2 S2 R2 => k v α2 H2 (X1.trans0 X2) S2 (R2.mono fun a h => X1.dom _ h)⟩
    · rename_i hk
      rw [if_neg hk] at e2
      exact ⟨α1, env, s1, r, st', hE.ext X1, S1, e2, fun v α2 H2 X2 S2 R2 => k v α2 H2 (X1.trans0 X2) S2 (R2.mono fun a h => X1.dom _ h)⟩
/-! bools as values: and, or, not -/
def eAnd (ma mb : Env → M R) : Env → M R := fun env => ma env >>= fun x => isBl x >>= fun k => if k = true then mb env else pure (.v (.bl false))
def eOr (ma mb : Env → M R) : Env → M R := fun env => ma env >>= fun x => isBl x >>= fun k => if k = true then pure (.v (.bl true)) else mb env
def eNot (ma : Env → M R) : Env → M R := fun env => ma env >>= fun x => isBl x >>= fun k => pure (.v (.bl (!k)))
theorem v_one {op : BoolOp} (ha : SimE X C a ma) : SimE X C (.BoolOp op [a] pos) ma := pe_one ha
theorem v_and (ha : SimE X C a ma) (hb : SimE X C (.BoolOp .And (b :: rest) pos) mb) : SimE X C (.BoolOp .And (a :: b :: rest) pos) (eAnd ma mb) :=
  (pe_and ha hb).wk fun σ H Q h => by
    obtain ⟨α, env, st, r, st', hE, hS, hm, k⟩ := h
    obtain ⟨ra, s1, e1, hm1⟩ := bind_run hm
    obtain ⟨kk, s2, e2, hm2⟩ := bind_run hm1
    refine ⟨α, env, st, ra, s1, hE, hS, e1, fun v α1 H1 X1 S1 R1 => ?_⟩
    unfold isBl at e2
    split at e2
    · cases R1
      obtain ⟨rfl, rfl⟩ := pure_inv e2
      refine ⟨_, rfl, ?_⟩
      split
      · rename_i hk
        rw [if_pos hk] at hm2
        exact ⟨α1, env, _, r, st', hE.ext X1, S1, hm2, fun v α2 H2 X2 S2 R2 => k v α2 H2 (X1.trans0 X2) S2 (R2.mono fun a h => X1.dom _ h)⟩
      · rename_i hk
        rw [if_neg hk] at hm2
        obtain ⟨rfl, rfl⟩ := pure_inv hm2
        exact k _ α1 H1 X1 S1 (.bl false)
    · cases e2
theorem v_or (ha : SimE X C a ma) (hb : SimE X C (.BoolOp .Or (b :: rest) pos) mb) : SimE X C (.BoolOp .Or (a :: b :: rest) pos) (eOr ma mb) :=
  (pe_or ha hb).wk fun σ H Q h => by
    obtain ⟨α, env, st, r, st', hE, hS, hm, k⟩ := h
    obtain ⟨ra, s1, e1, hm1⟩ := bind_run hm
    obtain ⟨kk, s2, e2, hm2⟩ := bind_run hm1
    refine ⟨α, env, st, ra, s1, hE, hS, e1, fun v α1 H1 X1 S1 R1 => ?_⟩
    unfold isBl at e2
    split at e2
    · cases R1
      obtain ⟨rfl, rfl⟩ := pure_inv e2
      refine ⟨_, rfl, ?_⟩
      split
      · rename_i hk
        rw [if_pos hk] at hm2
        obtain ⟨rfl, rfl⟩ := pure_inv hm2
        exact k _ α1 H1 X1 S1 (.bl true)
      · rename_i hk
        rw [if_neg hk] at hm2
        exact ⟨α1, env, _, r, st', hE.ext X1, S1, hm2, fun v α2 H2 X2 S2 R2 => k v α2 H2 (X1.trans0 X2) S2 (R2.mono fun a h => X1.dom _ h)⟩
    · cases e2
theorem v_not (ha : SimE X C a ma) : SimE X C (.UnaryOp .Not a pos) (eNot ma) :=
  (pe_not ha).wk fun σ H Q h => by
    obtain ⟨α, env, st, r, st', hE, hS, hm, k⟩ := h
    obtain ⟨ra, s1, e1, hm1⟩ := bind_run hm
    obtain ⟨kk, s2, e2, hm2⟩ := bind_run hm1
    refine ⟨α, env, st, ra, s1, hE, hS, e1, fun v α1 H1 X1 S1 R1 => ?_⟩
    unfold isBl at e2
    split at e2
    · cases R1
      obtain ⟨rfl, rfl⟩ := pure_inv e2
      obtain ⟨rfl, rfl⟩ := pure_inv hm2
      exact ⟨_, rfl, k _ α1 H1 X1 S1 (.bl _)⟩
    · cases e2
end

/-! ### arguments and displays -/
def aNil : Env → M (List R) := fun _ => pure []
def aCons (m : Env → M R) (r : Env → M (List R)) : Env → M (List R) := fun env => m env >>= fun x => r env >>= fun xs => pure (x :: xs)
def aStar (m : Env → M R) (r : Env → M (List R)) : Env → M (List R) := fun env => m env >>= fun x => asSeq x >>= fun ds => r env >>= fun xs => pure (ds.map .v ++ xs)
/-- a value that may be kept -/
def toD : R → M D
  | .v d => pure d
  | _ => M.fail
def toDs : List R → M (List D)
  | [] => pure []
  | r :: rs => toD r >>= fun d => toDs rs >>= fun ds => pure (d :: ds)
def eTup (m : Env → M (List R)) : Env → M R := fun env => m env >>= fun rs => toDs rs >>= fun ds => if lenOk ds.length = true then pure (.v (.tup ds)) else M.fail
def eLst (m : Env → M (List R)) : Env → M R := fun env => m env >>= fun rs => toDs rs >>= fun ds => if lenOk ds.length = true then pure (.l (.lst ds)) else M.fail
theorem RepRs.ofL {G : Kx} {H : Hp} {α : List Addr} {fr own : Addr → Prop} : ∀ {vs : List V} {ds : List D}, RepL G H α vs ds → RepRs G H α fr own vs (ds.map .v)
  | _, _, .nil => .nil
  | _, _, .cons r s => .cons r (RepRs.ofL s) fun _ _ e => nomatch e
theorem RepRs.append {G : Kx} {H : Hp} {α : List Addr} {fr own : Addr → Prop} : ∀ {vs ws : List V} {ds : List D} {qs : List R}, RepL G H α vs ds → RepRs G H α fr own ws qs → RepRs G H α fr own (vs ++ ws) (ds.map .v ++ qs)
  | _, _, _, _, .nil, h => h
  | _, _, _, _, .cons r s, h => .cons r (RepRs.append s h) fun _ _ e => nomatch e
theorem toDs_ok {G : Kx} {H : Hp} {α : List Addr} {fr own : Addr → Prop} : ∀ {vs : List V} {rs : List R} {st st' : Sto} {ds : List D}, RepRs G H α fr own vs rs → toDs rs st = some (ds, st') → st' = st ∧ RepL G H α vs ds
  | _, _, _, _, _, .nil, h => by
    obtain ⟨rfl, rfl⟩ := pure_inv h
    exact ⟨rfl, .nil⟩
  | _, _, _, _, _, .cons (r := r) hr hs _, h => by
    obtain ⟨d, s1, e1, h1⟩ := bind_run h
    obtain ⟨ds, s2, e2, h2⟩ := bind_run h1
    obtain ⟨rfl, rfl⟩ := pure_inv h2
    cases r with
    | v d' =>
      obtain ⟨rfl, rfl⟩ := pure_inv e1
      obtain ⟨rfl, q⟩ := toDs_ok hs e2
      exact ⟨rfl, .cons hr q⟩
    | _ => exact nomatch (show (none : Option (D × Sto)) = some (d, s1) from e1)
section
variable {X : Cx} {C : List Addr} {e a b c : Expr} {es : List Expr} {pos p : Pos} {m ma mb : Env → M R} {ms : Env → M (List R)}
theorem a_nil : SimA X C [] aNil := pa_nil.wk fun σ H Q h => by
  obtain ⟨α, env, st, r, st', hE, hS, hm, k⟩ := h
  obtain ⟨rfl, rfl⟩ := pure_inv hm
  exact k [] α H Ext.rfl' hS .nil
theorem a_cons (ha : SimE X C e m) (hr : SimA X C es ms) (hs : starEach (e :: es) X.env = (false, eval e X.env) :: starEach es X.env := by rfl) : SimA X C (e :: es) (aCons m ms) :=
  (pa_cons ha hr hs).wk fun σ H Q h => by
    obtain ⟨α, env, st, r, st', hE, hS, hm, k⟩ := h
    obtain ⟨ra, s1, e1, hm1⟩ := bind_run hm
    obtain ⟨rs, s2, e2, hm2⟩ := bind_run hm1
    obtain ⟨rfl, rfl⟩ := pure_inv hm2
    exact ⟨α, env, st, ra, s1, hE, hS, e1, fun v α1 H1 X1 S1 R1 => ⟨α1, env, s1, rs, _, hE.ext X1, S1, e2, fun vs α2 H2 X2 S2 R2 =>
      k _ α2 H2 (X1.trans0 X2) S2 (.cons (R1.ext X2) (R2.mono fun a h => X1.dom _ h) fun o a e1 e2 z => by
        subst e1 e2
        obtain ⟨b, e, _, _, ro, m⟩ := R1
        cases e
        obtain ⟨u, hu⟩ := ro.has m
        rw [R2.tmp z] at hu; cases hu)⟩⟩
theorem a_star (ha : SimE X C e m) (hr : SimA X C es ms) (hs : starEach (.Starred e p :: es) X.env = (true, eval e X.env) :: starEach es X.env := by rfl) : SimA X C (.Starred e p :: es) (aStar m ms) :=
  (StX.pa_star ha hr hs).wk fun σ H Q h => by
    obtain ⟨α, env, st, r, st', hE, hS, hm, k⟩ := h
    obtain ⟨ra, s1, e1, hm1⟩ := bind_run hm
    obtain ⟨ds, s2, e2, hm2⟩ := bind_run hm1
    obtain ⟨rs, s3, e3, hm3⟩ := bind_run hm2
    obtain ⟨rfl, rfl⟩ := pure_inv hm3
    refine ⟨α, env, st, ra, s1, hE, hS, e1, fun v α1 H1 X1 S1 R1 => ?_⟩
    obtain ⟨rfl, a, xs, rfl, h1, h2⟩ := asSeq_ok R1 S1 e2
    exact ⟨a, xs, rfl, h1.symm, α1, env, _, rs, _, hE.ext X1, S1, e3, fun vs α2 H2 X2 S2 R2 =>
      k _ α2 H2 (X1.trans0 X2) S2 (RepRs.append (h2.ext X2) (R2.mono fun a h => X1.dom _ h))⟩
theorem tupd {k1 : Nat} (ha : SimA X C es ms) : SimE X C (.Tuple es k1 pos) (eTup ms) :=
  (pe_tup ha).wk fun σ H Q h => by
    obtain ⟨α, env, st, r, st', hE, hS, hm, k⟩ := h
    obtain ⟨rs, s1, e1, hm1⟩ := bind_run hm
    obtain ⟨ds, s2, e2, hm2⟩ := bind_run hm1
    refine ⟨α, env, st, rs, s1, hE, hS, e1, fun vs α1 H1 X1 S1 R1 => ?_⟩
    obtain ⟨rfl, h2⟩ := toDs_ok R1 e2
    split at hm2
    · rename_i hl
      obtain ⟨rfl, rfl⟩ := pure_inv hm2
      refine ⟨by rw [h2.length]; exact lenOk_le hl, fun p hp => ?_⟩
      exact k _ α1 _ (X1.trans0 (Ext.new hp)) (S1.new hp) (.tup (SqT.of upd_same) (h2.ext (Ext.new (own := Non) hp)))
    · cases hm2
theorem lstd (ha : SimA X C es ms) : SimE X C (.List es pos) (eLst ms) :=
  (pe_lst ha).wk fun σ H Q h => by
    obtain ⟨α, env, st, r, st', hE, hS, hm, k⟩ := h
    obtain ⟨rs, s1, e1, hm1⟩ := bind_run hm
    obtain ⟨ds, s2, e2, hm2⟩ := bind_run hm1
    refine ⟨α, env, st, rs, s1, hE, hS, e1, fun vs α1 H1 X1 S1 R1 => ?_⟩
    obtain ⟨rfl, h2⟩ := toDs_ok R1 e2
    split at hm2
    · rename_i hl
      obtain ⟨rfl, rfl⟩ := pure_inv hm2
      refine ⟨by rw [h2.length]; exact lenOk_le hl, fun p hp => ?_⟩
      exact k _ α1 _ (X1.trans0 (Ext.new hp)) (S1.new hp) ⟨p, rfl, X1.dom _ hp, S1.fresh hp, ⟨vs, upd_same, h2.ext (Ext.new (own := Non) hp)⟩, trivial⟩
    · cases hm2

/-! ### calls of built-ins -/
def rUn (G : Kx) (g : List R → M R) : List V → Hp → VK → Prop := fun xs H Q => ∃ α own st rs r st', RepRs G H α All own xs rs ∧ RepS G H α st ∧ g rs st = some (r, st') ∧
  ∀ v α' H', Ext Non α H α' H' → RepS G H' α' st' → RepR G H' α' (Fresh H) own v r → Q v H'
abbrev CallS (X : Cx) (C : List Addr) (f : Value) (g : List R → M R) : Prop := CallR X f (rUn (gx X C) g)
def eB (g : List R → M R) (ms : Env → M (List R)) : Env → M R := fun env => ms env >>= g
theorem to_B {G : Kx} {g : List R → M R} {ms : Env → M (List R)} {σ : St} {H : Hp} {Q : VK} (h : tE G (eB g ms) σ H Q) : tCB (rUn G g) (tA G ms) σ H Q := by
  obtain ⟨α, env, st, r, st', hE, hS, hm, k⟩ := h
  obtain ⟨rs, s1, e1, e2⟩ := bind_run hm
  exact ⟨α, env, st, rs, s1, hE, hS, e1, fun vs α1 H1 X1 S1 R1 => ⟨α1, Own σ env, s1, rs, r, st', R1.mono (fun _ _ => trivial), S1, e2, fun v α2 H2 X2 S2 R2 =>
    k v α2 H2 (X1.trans0 X2) S2 (R2.mono fun a h => X1.dom _ h)⟩⟩
theorem callB {id : String} {x : Str} {g : List R → M R} (hc : CallS X C (.builtin id) g) (hg : Gl X x) (hm : X.mg x = none) (hv : bootBuiltins x = some (.builtin id)) (ha : SimA X C (e :: es) ms) (hn : x ≠ "__name__" := by decide) (hdb : (x == ("__debug__" : Str)) = false := by decide)
    (hs : starEach (e :: es) X.env = (false, eval e X.env) :: starEach es X.env := by rfl) (hpl : (backTo pos (starEach es X.env)).any (·.1) = false := by rfl) : SimE X C (.Call (.Name x p) (e :: es) [] pos) (eB g ms) :=
  (pe_callB hc hg hm hv ha hn hdb hs hpl).wk fun _ _ _ h => to_B h
theorem callTy {T : String} {x : Str} {g : List R → M R} (hc : CallS X C (.type T) g) (hg : Gl X x) (hm : X.mg x = none) (hv : bootBuiltins x = some (.type T)) (ha : SimA X C (e :: es) ms) (hn : x ≠ "__name__" := by decide) (hdb : (x == ("__debug__" : Str)) = false := by decide)
    (hs : starEach (e :: es) X.env = (false, eval e X.env) :: starEach es X.env := by rfl) (hpl : (backTo pos (starEach es X.env)).any (·.1) = false := by rfl) : SimE X C (.Call (.Name x p) (e :: es) [] pos) (eB g ms) :=
  (pe_callTy hc hg hm hv ha hn hdb hs hpl).wk fun _ _ _ h => to_B h
end
end Mi
/-! Mi: the built-ins that are called. -/
namespace Mi
open PySem PySem.Spec PyProof.Rows L2 PySem.W

def allInts : List D → Option (List Int)
  | [] => some []
  | .int i :: r => (allInts r).map (i :: ·)
  | _ => none
theorem allInts_eq : ∀ {ds : List D} {ns : List Int}, allInts ds = some ns → ds = ns.map .int
  | [], ns, h => by cases h; rfl
  | .int i :: r, ns, h => by
    cases q : allInts r with
    | none => rw [allInts, q] at h; cases h
    | some ms =>
      rw [allInts, q] at h
      cases h
      rw [allInts_eq q]
      rfl
  | .non :: _, _, h => nomatch h
  | .bl _ :: _, _, h => nomatch h
  | .str _ :: _, _, h => nomatch h
  | .tup _ :: _, _, h => nomatch h
  | .obj _ :: _, _, h => nomatch h
@[simp] theorem allInts_map : ∀ (ns : List Int), allInts (ns.map .int) = some ns
  | [] => rfl
  | n :: ns => by rw [List.map_cons, allInts, allInts_map ns]; rfl
def allBls : List D → Option (List Bool)
  | [] => some []
  | .bl i :: r => (allBls r).map (i :: ·)
  | _ => none
theorem allBls_eq : ∀ {ds : List D} {ns : List Bool}, allBls ds = some ns → ds = ns.map .bl
  | [], ns, h => by cases h; rfl
  | .bl i :: r, ns, h => by
    cases q : allBls r with
    | none => rw [allBls, q] at h; cases h
    | some ms =>
      rw [allBls, q] at h
      cases h
      rw [allBls_eq q]
      rfl
  | .non :: _, _, h => nomatch h
  | .int _ :: _, _, h => nomatch h
  | .str _ :: _, _, h => nomatch h
  | .tup _ :: _, _, h => nomatch h
  | .obj _ :: _, _, h => nomatch h
@[simp] theorem allBls_map : ∀ (ns : List Bool), allBls (ns.map .bl) = some ns
  | [] => rfl
  | n :: ns => by rw [List.map_cons, allBls, allBls_map ns]; rfl

def bLen : List R → M R
  | [.v (.str x)] => if lenOk x.length = true then pure (.v (.int x.length)) else M.fail
  | [r] => asSeq r >>= fun ds => pure (.v (.int ds.length))
  | _ => M.fail
def bAbs : List R → M R
  | [.v (.int i)] => pure (.v (.int (if i < 0 then -i else i)))
  | _ => M.fail
def bInt : List R → M R
  | [.v (.int i)] => pure (.v (.int i))
  | [.v (.bl b)] => pure (.v (.int (if b then 1 else 0)))
  | _ => M.fail
def maxL : List Int → Int
  | [] => 0
  | n :: ns => ns.foldl max n
def minL : List Int → Int
  | [] => 0
  | n :: ns => ns.foldl min n
def bMax : List R → M R
  | [.v (.int i), .v (.int j)] => pure (.v (.int (if j > i then j else i)))
  | [r] => asSeq r >>= fun ds => M.ofO (allInts ds) >>= fun ns => if ns = [] then M.fail else pure (.v (.int (maxL ns)))
  | _ => M.fail
def bMin : List R → M R
  | [.v (.int i), .v (.int j)] => pure (.v (.int (if j < i then j else i)))
  | [r] => asSeq r >>= fun ds => M.ofO (allInts ds) >>= fun ns => if ns = [] then M.fail else pure (.v (.int (minL ns)))
  | _ => M.fail
/-- a list, not a tuple -/
def asLs : R → M (List D)
  | .v (.tup _) => M.fail
  | r => asSeq r
def bSum : List R → M R
  | [r] => asLs r >>= fun ds => M.ofO (allInts ds) >>= fun ns => pure (.v (.int ns.sum))
  | _ => M.fail
def bAll : List R → M R
  | [r] => asLs r >>= fun ds => M.ofO (allBls ds) >>= fun ns => pure (.v (.bl (ns.all id)))
  | _ => M.fail
def bAny : List R → M R
  | [r] => asLs r >>= fun ds => M.ofO (allBls ds) >>= fun ns => pure (.v (.bl (ns.any id)))
  | _ => M.fail
def sortI (ns : List Int) : List Int := ns.mergeSort fun a b => decide (a ≤ b)
def bSortI : List R → M R
  | [r] => asLs r >>= fun ds => M.ofO (allInts ds) >>= fun ns => pure (.l (.lst ((sortI ns).map .int)))
  | _ => M.fail
def bTup : List R → M R
  | [r] => asSeq r >>= fun ds => pure (.v (.tup ds))
  | _ => M.fail
def bLst : List R → M R
  | [r] => asSeq r >>= fun ds => pure (.l (.lst ds))
  | _ => M.fail
theorem sortI_eq {ns ms : List Int} (h1 : ms.Perm ns) (h2 : ms.Pairwise (· ≤ ·)) : ms = sortI ns := by
  refine List.Perm.eq_of_pairwise (le := (· ≤ ·)) (fun a b _ _ h1 h2 => Int.le_antisymm h1 h2) h2 ?_ (h1.trans (List.mergeSort_perm _ _).symm)
  have := List.pairwise_mergeSort (le := fun a b : Int => decide (a ≤ b)) (fun a b c h1 h2 => by simp at *; omega) (fun a b => by simp; omega) ns
  simpa [sortI] using this
theorem foldl_max : ∀ (ns : List Int) (n : Int), n ≤ ns.foldl max n ∧ (∀ y ∈ ns, y ≤ ns.foldl max n) ∧ (ns.foldl max n = n ∨ ns.foldl max n ∈ ns)
  | [], n => ⟨Int.le_refl _, by simp, .inl rfl⟩
  | a :: r, n => by
    obtain ⟨h1, h2, h3⟩ := foldl_max r (max n a)
    rw [List.foldl_cons]
    refine ⟨by omega, fun y hy => ?_, ?_⟩
    · rcases List.mem_cons.mp hy with rfl | hy
      · omega
      · exact h2 y hy
    · rcases h3 with h3 | h3
      · rw [h3]
        by_cases hc : n ≤ a
        · rw [Int.max_eq_right hc]; exact .inr List.mem_cons_self
        · rw [Int.max_eq_left (by omega)]; exact .inl rfl
      · exact .inr (List.mem_cons_of_mem _ h3)
theorem foldl_min : ∀ (ns : List Int) (n : Int), ns.foldl min n ≤ n ∧ (∀ y ∈ ns, ns.foldl min n ≤ y) ∧ (ns.foldl min n = n ∨ ns.foldl min n ∈ ns)
  | [], n => ⟨Int.le_refl _, by simp, .inl rfl⟩
  | a :: r, n => by
    obtain ⟨h1, h2, h3⟩ := foldl_min r (min n a)
    rw [List.foldl_cons]
    refine ⟨by omega, fun y hy => ?_, ?_⟩
    · rcases List.mem_cons.mp hy with rfl | hy
      · omega
      · exact h2 y hy
    · rcases h3 with h3 | h3
      · rw [h3]
        by_cases hc : n ≤ a
        · rw [Int.min_eq_left hc]; exact .inl rfl
        · rw [Int.min_eq_right (by omega)]; exact .inr List.mem_cons_self
      · exact .inr (List.mem_cons_of_mem _ h3)
theorem maxL_mem {ns : List Int} (h : ns ≠ []) : maxL ns ∈ ns ∧ ∀ y ∈ ns, y ≤ maxL ns := by
  cases ns with
  | nil => exact absurd rfl h
  | cons n r =>
    obtain ⟨h1, h2, h3⟩ := foldl_max r n
    refine ⟨?_, fun y hy => ?_⟩
    · rcases h3 with h3 | h3
      · show r.foldl max n ∈ _; rw [h3]; exact List.mem_cons_self
      · exact List.mem_cons_of_mem _ h3
    · rcases List.mem_cons.mp hy with rfl | hy
      · exact h1
      · exact h2 y hy
theorem minL_mem {ns : List Int} (h : ns ≠ []) : minL ns ∈ ns ∧ ∀ y ∈ ns, minL ns ≤ y := by
  cases ns with
  | nil => exact absurd rfl h
  | cons n r =>
    obtain ⟨h1, h2, h3⟩ := foldl_min r n
    refine ⟨?_, fun y hy => ?_⟩
    · rcases h3 with h3 | h3
      · show r.foldl min n ∈ _; rw [h3]; exact List.mem_cons_self
      · exact List.mem_cons_of_mem _ h3
    · rcases List.mem_cons.mp hy with rfl | hy
      · exact h1
      · exact h2 y hy
section
variable {G : Kx} {H : Hp} {α : List Addr} {fr own : Addr → Prop} {st st' : Sto} {v : V} {vs : List V} {r : R} {ds : List D}
theorem asLs_ok (hr : RepR G H α fr own v r) (hS : RepS G H α st) (h : asLs r st = some (ds, st')) : st' = st ∧ ∃ a xs, v = .ref a ∧ SqL G.K H a xs ∧ RepL G H α xs ds := by
  unfold asLs at h
  split at h
  · exact nomatch (show (none : Option (List D × Sto)) = some (ds, st') from h)
  · rename_i hno
    unfold asSeq at h
    split at h
    · exact absurd rfl (hno _)
    · obtain ⟨rfl, rfl⟩ := pure_inv h
      obtain ⟨a, rfl, ⟨xs, h1, h2⟩, _⟩ := hr
      exact ⟨rfl, a, xs, rfl, h1.sq, h2⟩
    · obtain ⟨rfl, rfl⟩ := pure_inv h
      obtain ⟨a, rfl, ⟨xs, h1, h2⟩, _⟩ := hr
      exact ⟨rfl, a, xs, rfl, h1.sq, h2⟩
    · obtain ⟨rfl, a, xs, rfl, h1, h2⟩ := asLst_ok hr hS h
      exact ⟨rfl, a, xs, rfl, SqL.of h1, h2⟩
theorem reps1 (h : RepRs G H α fr own vs [r]) : ∃ v, vs = [v] ∧ RepR G H α fr own v r := by
  cases h with
  | cons h1 h2 _ => cases h2; exact ⟨_, rfl, h1⟩
theorem reps2 {q : R} (h : RepRs G H α fr own vs [r, q]) : ∃ v w, vs = [v, w] ∧ RepR G H α fr own v r ∧ RepR G H α fr own w q := by
  cases h with
  | cons h1 h2 _ => cases h2 with | cons h2 h3 _ => cases h3; exact ⟨_, _, rfl, h1, h2⟩
end
section
variable {X : Cx} {C : List Addr}
theorem c_len : CallS X C (.builtin "len") bLen := by
  refine (call_len_str.or call_len_seq).wk fun xs H Q q => ?_
  obtain ⟨α, own, st, rs, r, st', hx, hS, hm, k⟩ := q
  unfold bLen at hm
  split at hm
  · obtain ⟨v, rfl, hv⟩ := reps1 hx
    cases hv
    split at hm
    · rename_i hl
      obtain ⟨rfl, rfl⟩ := pure_inv hm
      exact .inl ⟨_, rfl, lenOk_le hl, endV k hS (.int _)⟩
    · cases hm
  · obtain ⟨v, rfl, hv⟩ := reps1 hx
    obtain ⟨ds, s1, e1, hm2⟩ := bind_run hm
    clear hm
    obtain ⟨rfl, rfl⟩ := pure_inv hm2
    obtain ⟨rfl, a, ys, rfl, h1, h2⟩ := asSeq_ok hv hS e1
    refine .inr ⟨a, ys, rfl, h1, ?_⟩
    rw [h2.length]
    exact endV k hS (.int _)
  · cases hm
theorem c_abs : CallS X C (.builtin "abs") bAbs := by
  refine call_abs.wk fun xs H Q q => ?_
  obtain ⟨α, own, st, rs, r, st', hx, hS, hm, k⟩ := q
  unfold bAbs at hm
  split at hm
  · obtain ⟨v, rfl, hv⟩ := reps1 hx
    cases hv
    obtain ⟨rfl, rfl⟩ := pure_inv hm
    exact ⟨_, rfl, endV k hS (.int _)⟩
  · cases hm
theorem c_int : CallS X C (.type "int") bInt := by
  refine call_int1.wk fun xs H Q q => ?_
  obtain ⟨α, own, st, rs, r, st', hx, hS, hm, k⟩ := q
  unfold bInt at hm
  split at hm
  · obtain ⟨v, rfl, hv⟩ := reps1 hx
    cases hv
    obtain ⟨rfl, rfl⟩ := pure_inv hm
    exact .inl ⟨_, rfl, endV k hS (.int _)⟩
  · obtain ⟨v, rfl, hv⟩ := reps1 hx
    cases hv
    obtain ⟨rfl, rfl⟩ := pure_inv hm
    exact .inr ⟨_, rfl, endV k hS (.int _)⟩
  · cases hm
/-- max of a tuple of ints -/
def rMaxT (K : PySem.W.Frag) : List V → Hp → VK → Prop := fun vs H Q => ∃ (a : Addr) (n : Int) (ns : List Int), vs = [V.ref a] ∧ SqT K H a ((n :: ns).map V.int) ∧ Q (.int (ns.foldl max n)) H
def rMinT (K : PySem.W.Frag) : List V → Hp → VK → Prop := fun vs H Q => ∃ (a : Addr) (n : Int) (ns : List Int), vs = [V.ref a] ∧ SqT K H a ((n :: ns).map V.int) ∧ Q (.int (ns.foldl min n)) H
theorem alike_ints' (ns : List Int) : AlikeAll (ns.map PyData.int) := by
  refine ⟨fun x hx y hy => ?_, fun x hx e => ?_⟩
  · obtain ⟨i, _, rfl⟩ := List.mem_map.mp hx
    obtain ⟨j, _, rfl⟩ := List.mem_map.mp hy
    rfl
  · obtain ⟨i, _, rfl⟩ := List.mem_map.mp hx
    cases e
theorem dpAll_ints {K : PySem.W.Frag} {H : Hp} : ∀ (ns : List Int), DpAll K H (ns.map V.int) (ns.map PyData.int)
  | [] => .nil
  | n :: ns => .cons (.int n) (dpAll_ints ns)
theorem depth_ints' : ∀ ns : List Int, PyData.depthAll (ns.map PyData.int) = 0
  | [] => rfl
  | n :: ns => by
    rw [List.map_cons]
    show max 0 (PyData.depthAll (ns.map PyData.int)) = 0
    rw [depth_ints' ns]
    rfl
theorem cr_maxT {n : Nat} (hr : Room n X.A) (hc : X.calm = true) : CallR X (.builtin "max") (rMaxT X.K) := by
  (intro pins s σ H vs us Q I r h); obtain ⟨a, n, ns, rfl, hs, q⟩ := h
  obtain ⟨its, rv, hl, _⟩ := I.tuple hs
  rw [Vals.ref1 r]
  obtain ⟨as, hra⟩ := Dp.readsAll I _ _ _ (dpAll_ints (K := X.K) (H := H) (n :: ns)) rv
  rw [List.map_cons] at hra
  refine max_tuple_data (I.ok.hd hc) hl hra (alike_ints' (n :: ns)) ?_ fun i v h' tk bs _ hrd hk => ?_
  · have := hr.units
    have e := depth_ints' (n :: ns)
    rw [List.map_cons] at e
    rw [e]
    omega
  · rw [maxD_ints] at hrd
    cases hrd
    exact ⟨.int _, H, I.kept hk, ⟨_, rfl⟩, q⟩
theorem cr_minT {n : Nat} (hr : Room n X.A) (hc : X.calm = true) : CallR X (.builtin "min") (rMinT X.K) := by
  (intro pins s σ H vs us Q I r h); obtain ⟨a, n, ns, rfl, hs, q⟩ := h
  obtain ⟨its, rv, hl, _⟩ := I.tuple hs
  rw [Vals.ref1 r]
  obtain ⟨as, hra⟩ := Dp.readsAll I _ _ _ (dpAll_ints (K := X.K) (H := H) (n :: ns)) rv
  rw [List.map_cons] at hra
  refine min_tuple_data (I.ok.hd hc) hl hra (alike_ints' (n :: ns)) ?_ fun i v h' tk bs _ hrd hk => ?_
  · have := hr.units
    have e := depth_ints' (n :: ns)
    rw [List.map_cons] at e
    rw [e]
    omega
  · rw [minD_ints] at hrd
    cases hrd
    exact ⟨.int _, H, I.kept hk, ⟨_, rfl⟩, q⟩
theorem c_max {n : Nat} (hr : Room n X.A) (hc : X.calm = true) : CallS X C (.builtin "max") bMax := by
  refine ((call_max2 hc).or ((cr_max hc).or (cr_maxT hr hc))).wk fun xs H Q q => ?_
  obtain ⟨α, own, st, rs, r, st', hx, hS, hm, k⟩ := q
  unfold bMax at hm
  split at hm
  · obtain ⟨v, w, rfl, hv, hw⟩ := reps2 hx
    cases hv; cases hw
    obtain ⟨rfl, rfl⟩ := pure_inv hm
    exact .inl ⟨_, _, rfl, endV k hS (.int _)⟩
  · obtain ⟨v, rfl, hv⟩ := reps1 hx
    obtain ⟨ds, s1, e1, hm2⟩ := bind_run hm
    obtain ⟨ns, s2, e2, hm3⟩ := bind_run hm2
    clear hm hm2
    obtain ⟨e3, rfl⟩ := ofO_inv e2
    obtain rfl := allInts_eq e3
    obtain ⟨rfl, a, ys, rfl, h1, h2⟩ := asSeq_ok hv hS e1
    obtain rfl := h2.ints
    split at hm3
    · cases hm3
    · rename_i hne
      obtain ⟨rfl, rfl⟩ := pure_inv hm3
      rcases h1 with h1 | h1
      · refine .inr (.inl ⟨a, ns, rfl, h1, List.length_pos_iff.mpr hne, fun m hm hy => ?_⟩)
        have e : m = maxL ns := Int.le_antisymm ((maxL_mem hne).2 m hm) (hy _ (maxL_mem hne).1)
        rw [e]
        exact endV k hS (.int _)
      · cases ns with
        | nil => exact absurd rfl hne
        | cons i r => exact .inr (.inr ⟨a, i, r, rfl, h1, endV k hS (.int _)⟩)
  · cases hm
theorem c_min {n : Nat} (hr : Room n X.A) (hc : X.calm = true) : CallS X C (.builtin "min") bMin := by
  refine ((call_min2 hc).or ((cr_min hc).or (cr_minT hr hc))).wk fun xs H Q q => ?_
  obtain ⟨α, own, st, rs, r, st', hx, hS, hm, k⟩ := q
  unfold bMin at hm
  split at hm
  · obtain ⟨v, w, rfl, hv, hw⟩ := reps2 hx
    cases hv; cases hw
    obtain ⟨rfl, rfl⟩ := pure_inv hm
    exact .inl ⟨_, _, rfl, endV k hS (.int _)⟩
  · obtain ⟨v, rfl, hv⟩ := reps1 hx
    obtain ⟨ds, s1, e1, hm2⟩ := bind_run hm
    obtain ⟨ns, s2, e2, hm3⟩ := bind_run hm2
    clear hm hm2
    obtain ⟨e3, rfl⟩ := ofO_inv e2
    obtain rfl := allInts_eq e3
    obtain ⟨rfl, a, ys, rfl, h1, h2⟩ := asSeq_ok hv hS e1
    obtain rfl := h2.ints
    split at hm3
    · cases hm3
    · rename_i hne
      obtain ⟨rfl, rfl⟩ := pure_inv hm3
      rcases h1 with h1 | h1
      · refine .inr (.inl ⟨a, ns, rfl, h1, List.length_pos_iff.mpr hne, fun m hm hy => ?_⟩)
        have e : m = minL ns := Int.le_antisymm (hy _ (minL_mem hne).1) ((minL_mem hne).2 m hm)
        rw [e]
        exact endV k hS (.int _)
      · cases ns with
        | nil => exact absurd rfl hne
        | cons i r => exact .inr (.inr ⟨a, i, r, rfl, h1, endV k hS (.int _)⟩)
  · cases hm
theorem c_sum (hc : X.calm = true) : CallS X C (.builtin "sum") bSum := by
  refine (cr_sum hc).wk fun xs H Q q => ?_
  obtain ⟨α, own, st, rs, r, st', hx, hS, hm, k⟩ := q
  unfold bSum at hm
  split at hm
  · obtain ⟨v, rfl, hv⟩ := reps1 hx
    obtain ⟨ds, s1, e1, hm2⟩ := bind_run hm
    obtain ⟨ns, s2, e2, hm3⟩ := bind_run hm2
    clear hm hm2
    obtain ⟨e3, rfl⟩ := ofO_inv e2
    obtain rfl := allInts_eq e3
    obtain ⟨rfl, a, ys, rfl, h1, h2⟩ := asLs_ok hv hS e1
    obtain rfl := h2.ints
    obtain ⟨rfl, rfl⟩ := pure_inv hm3
    exact ⟨a, ns, rfl, h1, endV k hS (.int _)⟩
  · cases hm
theorem c_all (hc : X.calm = true) : CallS X C (.builtin "all") bAll := by
  refine (cr_all hc).wk fun xs H Q q => ?_
  obtain ⟨α, own, st, rs, r, st', hx, hS, hm, k⟩ := q
  unfold bAll at hm
  split at hm
  · obtain ⟨v, rfl, hv⟩ := reps1 hx
    obtain ⟨ds, s1, e1, hm2⟩ := bind_run hm
    obtain ⟨ns, s2, e2, hm3⟩ := bind_run hm2
    clear hm hm2
    obtain ⟨e3, rfl⟩ := ofO_inv e2
    obtain rfl := allBls_eq e3
    obtain ⟨rfl, a, ys, rfl, h1, h2⟩ := asLs_ok hv hS e1
    obtain rfl := h2.bools
    obtain ⟨rfl, rfl⟩ := pure_inv hm3
    exact ⟨a, ns, rfl, h1, endV k hS (.bl _)⟩
  · cases hm
theorem c_any (hc : X.calm = true) : CallS X C (.builtin "any") bAny := by
  refine (cr_any hc).wk fun xs H Q q => ?_
  obtain ⟨α, own, st, rs, r, st', hx, hS, hm, k⟩ := q
  unfold bAny at hm
  split at hm
  · obtain ⟨v, rfl, hv⟩ := reps1 hx
    obtain ⟨ds, s1, e1, hm2⟩ := bind_run hm
    obtain ⟨ns, s2, e2, hm3⟩ := bind_run hm2
    clear hm hm2
    obtain ⟨e3, rfl⟩ := ofO_inv e2
    obtain rfl := allBls_eq e3
    obtain ⟨rfl, a, ys, rfl, h1, h2⟩ := asLs_ok hv hS e1
    obtain rfl := h2.bools
    obtain ⟨rfl, rfl⟩ := pure_inv hm3
    exact ⟨a, ns, rfl, h1, endV k hS (.bl _)⟩
  · cases hm
theorem c_sortI : CallS X C (.builtin "sorted") bSortI := by
  refine cr_sortedI.wk fun xs H Q q => ?_
  obtain ⟨α, own, st, rs, r, st', hx, hS, hm, k⟩ := q
  unfold bSortI at hm
  split at hm
  · obtain ⟨v, rfl, hv⟩ := reps1 hx
    obtain ⟨ds, s1, e1, hm2⟩ := bind_run hm
    obtain ⟨ns, s2, e2, hm3⟩ := bind_run hm2
    clear hm hm2
    obtain ⟨e3, rfl⟩ := ofO_inv e2
    obtain rfl := allInts_eq e3
    obtain ⟨rfl, a, ys, rfl, h1, h2⟩ := asLs_ok hv hS e1
    obtain rfl := h2.ints
    obtain ⟨rfl, rfl⟩ := pure_inv hm3
    refine ⟨a, ns, rfl, h1, fun ms p e1 e2 hp => ?_⟩
    rw [sortI_eq e1 e2]
    exact endL k hS hp (.ofInts _)
  · cases hm
theorem c_tuple : CallS X C (.type "tuple") bTup := by
  refine call_tuple_of.wk fun xs H Q q => ?_
  obtain ⟨α, own, st, rs, r, st', hx, hS, hm, k⟩ := q
  unfold bTup at hm
  split at hm
  · obtain ⟨v, rfl, hv⟩ := reps1 hx
    obtain ⟨ds, s1, e1, hm2⟩ := bind_run hm
    clear hm
    obtain ⟨rfl, a, ys, rfl, h1, h2⟩ := asSeq_ok hv hS e1
    obtain ⟨rfl, rfl⟩ := pure_inv hm2
    rcases h1 with h1 | h1
    · exact ⟨a, ys, rfl, .inl ⟨h1, fun l hl => endT k hS hl h2⟩⟩
    · exact ⟨a, ys, rfl, .inr ⟨h1, endV k hS (.tup h1 h2)⟩⟩
  · cases hm
theorem c_list : CallS X C (.type "list") bLst := by
  refine call_list_of.wk fun xs H Q q => ?_
  obtain ⟨α, own, st, rs, r, st', hx, hS, hm, k⟩ := q
  unfold bLst at hm
  split at hm
  · obtain ⟨v, rfl, hv⟩ := reps1 hx
    obtain ⟨ds, s1, e1, hm2⟩ := bind_run hm
    clear hm
    obtain ⟨rfl, a, ys, rfl, h1, h2⟩ := asSeq_ok hv hS e1
    obtain ⟨rfl, rfl⟩ := pure_inv hm2
    exact ⟨a, ys, rfl, h1, fun l hl => endL k hS hl h2⟩
  · cases hm
/-! ### isinstance of a built-in class -/
def tyR (st : Sto) : R → Option String
  | .v .non => some "NoneType"
  | .v (.bl _) => some "bool"
  | .v (.int _) => some "int"
  | .v (.str _) => some "str"
  | .v (.tup _) => some "tuple"
  | .v (.obj n) => match st[n]? with
    | some (.lst _) => some "list"
    | some (.dic _) => some "dict"
    | _ => none
  | .l (.lst _) | .o (.lst _) | .b (.lst _) => some "list"
  | .l (.dic _) | .o (.dic _) | .b (.dic _) => some "dict"
  | _ => none
def gIsT (T : String) : R → M R := fun r st => match tyR st r with
  | some t => match kitB t T with
    | some b => some (.v (.bl b), st)
    | none => none
  | none => none
theorem tyR_ok {G : Kx} {H : Hp} {α : List Addr} {fr own : Addr → Prop} {st : Sto} {v : V} {r : R} {t : String} (hr : RepR G H α fr own v r) (hS : RepS G H α st) (h : tyR st r = some t) : TyX G.K H v (.type t) := by
  have dic : ∀ {a : Addr} {kvs : List (D × D)}, RepO G H α a (.dic kvs) → TyX G.K H (.ref a) (.type "dict") := fun h => by
    rcases h with ⟨ks, h, _⟩ | ⟨ks, h, _⟩
    · exact .base (.dK h)
    · exact .base (.dT h)
  unfold tyR at h
  split at h
  · cases h; cases hr; exact .base .non
  · cases h; cases hr; exact .base (.bl _)
  · cases h; cases hr; exact .base (.int _)
  · cases h; cases hr; exact .base (.str _)
  · cases h
    cases hr with
    | tup h1 h2 =>
      rcases h1 with (h1 | ⟨o, h1⟩) | ⟨o, its, n, h1, h2, _⟩
      · exact .base (.tup h1)
      · exact .fTuple h1
      · exact .kTuple h1 h2
  · split at h
    · rename_i q
      cases h
      cases hr with
      | obj ha =>
        obtain ⟨xs, h1, _⟩ := hS.obj _ _ _ q ha
        exact .base (.lst h1)
    · rename_i q
      cases h
      cases hr with
      | obj ha => exact dic (hS.obj _ _ _ q ha)
    · cases h
  · cases h; obtain ⟨a, rfl, _, _, ⟨xs, h1, _⟩, _⟩ := hr; exact .base (.lst h1)
  · cases h; obtain ⟨a, rfl, ⟨xs, h1, _⟩, _⟩ := hr; exact .base (.lst h1)
  · cases h; obtain ⟨a, rfl, ⟨xs, h1, _⟩, _⟩ := hr; exact .base (.lst h1)
  · cases h; obtain ⟨a, rfl, _, _, h1, _⟩ := hr; exact dic h1
  · cases h; obtain ⟨a, rfl, h1, _⟩ := hr; exact dic h1
  · cases h; obtain ⟨a, rfl, h1, _⟩ := hr; exact dic h1
  · cases h
theorem isT {T : String} {x : Str} {e : Expr} {p p2 pos : Pos} {m : Env → M R} (hg : Gl X "isinstance") (hm : X.mg "isinstance" = none) (hg2 : Gl X x) (hm2 : X.mg x = none) (hv : bootBuiltins x = some (.type T)) (hk : ClsV (.ty T) (.type T)) (he : SimE X C e m)
    (hn : x ≠ "__name__" := by decide) (hdb : (x == ("__debug__" : Str)) = false := by decide)
    (h1 : starEach [e, .Name x p2] X.env = (false, eval e X.env) :: starEach [.Name x p2] X.env := by rfl) (h2 : starEach [.Name x p2] X.env = (false, eval (.Name x p2) X.env) :: starEach [] X.env := by rfl)
    (hpl : (backTo pos (starEach [.Name x p2] X.env)).any (·.1) = false := by rfl) : SimE X C (.Call (.Name "isinstance" p) [e, .Name x p2] [] pos) (eU (gIsT T) m) := by
  refine (pe_callB call_isi hg hm PyProof.Rows.boot_isinstance (pa_cons he (pa_cons (pe_bltn (v := .ty T) hg2 hm2 hv rfl hn hdb) pa_nil h2) h1) (by decide) (by decide) h1 hpl).wk fun σ H Q h => ?_
  obtain ⟨α, env, st, r, st', hE, hS, hm, k⟩ := to1 h
  refine ⟨α, env, st, r, st', hE, hS, hm, fun v α1 H1 X1 S1 R1 => ?_⟩
  obtain ⟨α2, own, s2, rx, r2, s3, hx, hS2, hm2, k2⟩ := k v α1 H1 X1 S1 R1
  unfold gIsT at hm2
  split at hm2
  · rename_i t e1
    split at hm2
    · rename_i b e2
      injection hm2 with hm2
      injection hm2 with g1 g2
      subst g1 g2
      exact ⟨v, .ty T, _, _, b, rfl, hk, tyR_ok hx hS2 e1, kit_ty e2, endV k2 hS2 (.bl b)⟩
    · cases hm2
  · cases hm2
end
end Mi
/-! Mi: statements. -/
namespace Mi
open PySem PySem.Spec PyProof.Rows L2

inductive Fl where
  | nx (env : Env) | bk (env : Env) | ct (env : Env) | rt (r : R)
def EndOk (G : Kx) (H : Hp) (σ : St) (env : Env) (α' : List Addr) (H' : Hp) (D : Ends) : Fl → Prop
  | .nx env' => ∀ σ', RepE G H' α' σ' env' → (∀ a, Own σ' env' a → Own σ env a ∨ H a = none) → D.nx σ' H'
  | .bk env' => ∀ σ', RepE G H' α' σ' env' → (∀ a, Own σ' env' a → Own σ env a ∨ H a = none) → D.bk σ' H'
  | .ct env' => ∀ σ', RepE G H' α' σ' env' → (∀ a, Own σ' env' a → Own σ env a ∨ H a = none) → D.ct σ' H'
  | .rt r => ∀ v, RepR G H' α' (fun a => H a = none ∨ Own σ env a) Non v r → D.rt v H'
def tS (G : Kx) (m : Env → M Fl) : TS := fun D σ H => ∃ α env st fl st', RepE G H α σ env ∧ RepS G H α st ∧ m env st = some (fl, st') ∧
  ∀ α' H', Ext (Own σ env) α H α' H' → RepS G H' α' st' → EndOk G H σ env α' H' D fl
abbrev SimS (X : Cx) (C : List Addr) (s : Stmt) (m : Env → M Fl) : Prop := PS X s (tS (gx X C) m)
abbrev SimSs (X : Cx) (C : List Addr) (s : List Stmt) (m : Env → M Fl) : Prop := PSs X s (tS (gx X C) m)
theorem EndOk.back {G : Kx} {H H1 : Hp} {σ σ1 : St} {env e1 : Env} {α' : List Addr} {H' : Hp} {D : Ends} {fl : Fl} (k : EndOk G H σ env α' H' D fl) (h : ∀ a, Own σ1 e1 a ∨ H1 a = none → Own σ env a ∨ H a = none) : EndOk G H1 σ1 e1 α' H' D fl := by
  cases fl with
  | nx e => exact fun σ' E' O' => k σ' E' fun a ha => h a (O' a ha)
  | bk e => exact fun σ' E' O' => k σ' E' fun a ha => h a (O' a ha)
  | ct e => exact fun σ' E' O' => k σ' E' fun a ha => h a (O' a ha)
  | rt r => exact fun v hv => k v (hv.mono fun a ha => (h a ha.symm).symm)
def sNil : Env → M Fl := fun env => pure (.nx env)
def sSeq (a b : Env → M Fl) : Env → M Fl := fun env => a env >>= fun fl => match fl with
  | .nx e => b e
  | f => pure f
def toO : R → R
  | .b o => .o o
  | r => r
def sRet (m : Env → M R) : Env → M Fl := fun env => m env >>= fun r => pure (.rt (toO r))
/-- return x, x a name: a list of its own is handed over -/
def sRetV (i : Nat) : Env → M Fl := fun env => match env[i]? with
  | some (some r) => pure (.rt (toO r))
  | _ => M.fail
def sRetN : Env → M Fl := fun _ => pure (.rt (.v .non))
def sExpr (m : Env → M R) : Env → M Fl := fun env => m env >>= fun _ => pure (.nx env)
def sIf (t : Env → M Bool) (a b : Env → M Fl) : Env → M Fl := fun env => t env >>= fun c => if c = true then a env else b env
def sNever : Env → M Fl := fun _ => M.fail
section
variable {X : Cx} {C : List Addr} {st : Stmt} {rest : List Stmt} {e : Expr} {pos : Pos} {m : Env → M R} {a b : Env → M Fl} {t : Env → M Bool}
theorem s_nil : SimSs X C [] sNil := pss_nil.wk fun D σ H h => by
  obtain ⟨α, env, st, fl, st', hE, hS, hm, k⟩ := h
  obtain ⟨rfl, rfl⟩ := pure_inv hm
  exact k α H Ext.rfl' hS σ hE fun _ h => .inl h
theorem s_cons (h1 : SimS X C st a) (h2 : SimSs X C rest b) : SimSs X C (st :: rest) (sSeq a b) := (pss_cons h1 h2).wk fun D σ H h => by
  obtain ⟨α, env, s0, fl, st', hE, hS, hm, k⟩ := h
  obtain ⟨f1, s1, e1, hm1⟩ := bind_run hm
  refine ⟨α, env, s0, f1, s1, hE, hS, e1, fun α1 H1 X1 S1 => ?_⟩
  cases f1 with
  | nx env1 =>
    intro σ1 E1 O1
    refine ⟨α1, env1, s1, fl, st', E1, S1, hm1, fun α2 H2 X2 S2 => ?_⟩
    refine (k α2 H2 (X1.trans X2 O1) S2).back fun a ha => ?_
    rcases ha with ha | ha
    · exact O1 a ha
    · exact .inr (X1.dom a ha)
  | _ =>
    obtain ⟨rfl, rfl⟩ := pure_inv hm1
    exact k α1 H1 X1 S1
theorem s_one (h1 : SimS X C st a) : SimSs X C [st] a := pss_one h1
theorem s_never : SimS X C st sNever := ps_never.wk fun D σ H h => by
  obtain ⟨α, env, s0, fl, st', hE, hS, hm, k⟩ := h
  exact nomatch (show (none : Option (Fl × Sto)) = some (fl, st') from hm)
theorem s_pass : SimS X C (.Pass pos) sNil := ps_pass.wk fun D σ H h => by
  obtain ⟨α, env, st, fl, st', hE, hS, hm, k⟩ := h
  obtain ⟨rfl, rfl⟩ := pure_inv hm
  exact k α H Ext.rfl' hS σ hE fun _ h => .inl h
def sBreak : Env → M Fl := fun env => pure (.bk env)
def sCont : Env → M Fl := fun env => pure (.ct env)
theorem s_break : SimS X C (.Break pos) sBreak := ps_break.wk fun D σ H h => by
  obtain ⟨α, env, st, fl, st', hE, hS, hm, k⟩ := h
  obtain ⟨rfl, rfl⟩ := pure_inv hm
  exact k α H Ext.rfl' hS σ hE fun _ h => .inl h
theorem toO_ok {G : Kx} {H : Hp} {α : List Addr} {fr own : Addr → Prop} {v : V} {r : R} (h : RepR G H α fr own v r) : RepR G H α fr Non v (toO r) := by
  cases r with
  | b o =>
    obtain ⟨a, rfl, q, w⟩ := h
    exact ⟨a, rfl, q, fun m => ⟨(w m).1, fun z => z⟩⟩
  | _ => exact h
theorem s_ret (he : SimE X C e m) : SimS X C (.Return (some e) pos) (sRet m) := (ps_ret he).wk fun D σ H h => by
  obtain ⟨α, env, s0, fl, st', hE, hS, hm, k⟩ := h
  obtain ⟨r, s1, e1, hm1⟩ := bind_run hm
  obtain ⟨rfl, rfl⟩ := pure_inv hm1
  exact ⟨α, env, s0, r, _, hE, hS, e1, fun v α1 H1 X1 S1 R1 => k α1 H1 (X1.mono fun _ z => z.elim) S1 v ((toO_ok R1).mono fun a ha => .inl ha)⟩
theorem s_retV {i : Nat} {x : Str} {p : Pos} (hN : X.N[i]? = some x) (hv : Vis X.env.scope x) (hd : (x == ("__debug__" : Str)) = false := by decide) (hcd : (x == ("__classdict__" : Str)) = false := by decide) : SimS X C (.Return (some (.Name x p)) pos) (sRetV i) :=
  (ps_ret (pe_var hN hv hd hcd)).wk fun D σ H h => by
    obtain ⟨α, env, s0, fl, st', hE, hS, hm, k⟩ := h
    unfold sRetV at hm
    cases q : env[i]? with
    | none => rw [q] at hm; exact nomatch (show (none : Option (Fl × Sto)) = some (fl, st') from hm)
    | some o =>
      cases o with
      | none => rw [q] at hm; exact nomatch (show (none : Option (Fl × Sto)) = some (fl, st') from hm)
      | some r =>
        rw [q] at hm
        obtain ⟨rfl, rfl⟩ := pure_inv hm
        obtain ⟨v, hv, rs⟩ := hE.val i r q
        refine ⟨v, hv, k α H Ext.rfl' hS v ?_⟩
        cases r with
        | v d => exact rs
        | l o =>
          obtain ⟨a, rfl, hn, ro, m⟩ := rs
          exact ⟨a, rfl, .inr ⟨i, o, q, hv⟩, hn, ro, m⟩
        | o o => exact rs.elim
        | b o =>
          obtain ⟨a, rfl, q, w⟩ := rs
          exact ⟨a, rfl, q, fun m => ⟨(w m).1, fun z => z⟩⟩
theorem s_retN : SimS X C (.Return none pos) sRetN := ps_retN.wk fun D σ H h => by
  obtain ⟨α, env, s0, fl, st', hE, hS, hm, k⟩ := h
  obtain ⟨rfl, rfl⟩ := pure_inv hm
  exact k α H Ext.rfl' hS _ .non
theorem s_expr (he : SimE X C e m) (hs : swapsWith e none pos.line X.env = pure false := by rfl) : SimS X C (.Expr e pos) (sExpr m) := (ps_expr he hs).wk fun D σ H h => by
  obtain ⟨α, env, s0, fl, st', hE, hS, hm, k⟩ := h
  obtain ⟨r, s1, e1, hm1⟩ := bind_run hm
  obtain ⟨rfl, rfl⟩ := pure_inv hm1
  exact ⟨α, env, s0, r, _, hE, hS, e1, fun v α1 H1 X1 S1 R1 => k α1 H1 (X1.mono fun _ z => z.elim) S1 σ (hE.ext X1) fun _ h => .inl h⟩
theorem s_doc {x : Str} {j : Nat} {p2 : Pos} : SimS X C (.Expr (.Constant (.str x) j p2) pos) sNil := ps_doc.wk fun D σ H h => by
  obtain ⟨α, env, st, fl, st', hE, hS, hm, k⟩ := h
  obtain ⟨rfl, rfl⟩ := pure_inv hm
  exact k α H Ext.rfl' hS σ hE fun _ h => .inl h
theorem s_if {c : Expr} {sa sb : List Stmt} (hc : SimT X C c t) (ha : SimSs X C sa a) (hb : SimSs X C sb b) : SimS X C (.If c sa sb pos) (sIf t a b) := (ps_if hc ha hb).wk fun D σ H h => by
  obtain ⟨α, env, s0, fl, st', hE, hS, hm, k⟩ := h
  obtain ⟨r, s1, e1, hm1⟩ := bind_run hm
  refine ⟨α, env, s0, r, s1, hE, hS, e1, fun α1 H1 X1 S1 => ?_⟩
  have fin : ∀ {m : Env → M Fl}, m env s1 = some (fl, st') → tS (gx X C) m D σ H1 := fun h => ⟨α1, env, s1, fl, st', hE.ext X1, S1, h, fun α2 H2 X2 S2 =>
    (k α2 H2 ((X1.mono (own' := Own σ env) fun _ z => z.elim).trans X2 fun a h => .inl h) S2).back fun a ha => ha.imp id (X1.dom a)⟩
  dsimp only
  split
  · rename_i hk
    rw [if_pos hk] at hm1
    exact fin hm1
  · rename_i hk
    rw [if_neg hk] at hm1
    exact fin hm1
end

/-! ### slots -/
theorem own_set {σ : St} {env : Env} {i : Nat} {v : V} {r : R} {a : Addr} (hi : i < env.length) (h : Own (σ.set i (some v)) (env.set i (some r)) a) : (Own σ env a ∧ True) ∨ (∃ o, r = .l o ∧ v = .ref a) := by
  obtain ⟨j, o, h1, h2⟩ := h
  by_cases e : i = j
  · subst e
    rw [List.getElem?_set_self hi] at h1
    cases h1
    have hl : i < σ.length := by
      have := (List.getElem?_eq_some_iff.mp h2).1
      simpa using this
    rw [List.getElem?_set_self hl] at h2
    cases h2
    exact .inr ⟨o, rfl, rfl⟩
  · rw [List.getElem?_set_ne e] at h1 h2
    exact .inl ⟨⟨j, o, h1, h2⟩, trivial⟩
/-- a value laid into a slot, as it may be kept -/
def keepR : R → Option R
  | .v d => some (.v d)
  | .l o => some (.b o)
  | .b o => some (.b o)
  | .o _ => none
/-- .. a list as its own -/
def keepL : R → Option R
  | .v d => some (.v d)
  | .l o => some (.l o)
  | _ => none
section
variable {G : Kx} {H H0 : Hp} {α α0 : List Addr} {σ : St} {env : Env} {i : Nat} {v : V} {r q : R}
theorem RepSlot.own {ow ow' : Addr → Prop} (h : RepSlot G H α ow v r) (hw : ∀ a, v = .ref a → (∀ o, r = .b o → o.mov → ow' a → ow a)) : RepSlot G H α ow' v r := by
  cases r with
  | b o =>
    obtain ⟨a, rfl, q, w⟩ := h
    exact ⟨a, rfl, q, fun m => ⟨(w m).1, fun z => (w m).2 (hw a rfl o rfl m z)⟩⟩
  | _ => exact h
theorem slot_some {ow : Addr → Prop} {a : Addr} {o : O} (h : RepSlot G H α ow (.ref a) r) (e : r = .l o ∨ r = .b o) (m : o.mov) : ∃ u, H a = some u := by
  rcases e with rfl | rfl
  · obtain ⟨b, e, _, q, _⟩ := h
    cases e
    exact q.has m
  · obtain ⟨b, e, q, _⟩ := h
    cases e
    exact q.has m
/-- a stands in no slot as a list -/
def NoSlot (σ : St) (env : Env) (a : Addr) : Prop := ∀ (j : Nat) (r : R) (o : O), env[j]? = some (some r) → (r = .l o ∨ r = .b o) → o.mov → σ[j]? ≠ some (some (.ref a))
theorem RepE.noSlot (hE : RepE G H0 α0 σ env) {a : Addr} (h : H0 a = none) : NoSlot σ env a := fun j r o h1 e m h2 => by
  obtain ⟨v, g1, g2⟩ := hE.val j r h1
  rw [h2] at g1
  cases g1
  obtain ⟨u, hu⟩ := slot_some g2 e m
  rw [h] at hu; cases hu
theorem NoSlot.own {a : Addr} (h : NoSlot σ env a) (hm : RepE G H α σ env) : ¬ Own σ env a := fun ⟨j, o, h1, h2⟩ => by
  obtain ⟨v, g1, g2⟩ := hm.val j _ h1
  obtain ⟨b, _, _, _, m⟩ := g2
  exact h j _ o h1 (.inl rfl) m h2
theorem RepE.setN (hE : RepE G H α σ env) (hr : RepR G H α (NoSlot σ env) (Own σ env) v r) (hq : keepR r = some q ∨ keepL r = some q) (hi : i < env.length) :
    RepE G H α (σ.set i (some v)) (env.set i (some q)) ∧ ∀ a, Own (σ.set i (some v)) (env.set i (some q)) a → Own σ env a ∨ ∃ o, q = .l o ∧ r = .l o ∧ v = .ref a := by
  have hiσ : i < σ.length := by rw [hE.len]; exact hi
  have hown : ∀ a, Own (σ.set i (some v)) (env.set i (some q)) a → Own σ env a ∨ (∃ o, q = .l o ∧ r = .l o ∧ v = .ref a ∧ NoSlot σ env a) := fun a ha => by
    rcases own_set hi ha with h | ⟨o, rfl, rfl⟩
    · exact .inl h.1
    · rcases hq with hq | hq
      · cases r <;> cases hq
      · cases r with
        | l o' =>
          cases hq
          obtain ⟨b, e, hf, _⟩ := hr
          cases e
          exact .inr ⟨_, rfl, rfl, rfl, hf⟩
        | _ => cases hq
  refine ⟨⟨by rw [List.length_set, List.length_set]; exact hE.len, fun j s hj => ?_, fun j l a o o' h1 h2 h3 h4 => ?_⟩, fun a ha => (hown a ha).imp id fun ⟨o, h1, h2, h3, _⟩ => ⟨o, h1, h2, h3⟩⟩
  · by_cases e : i = j
    · subst e
      rw [List.getElem?_set_self hi] at hj
      cases hj
      refine ⟨v, List.getElem?_set_self hiσ, ?_⟩
      rcases hq with hq | hq
      · cases r with
        | v d => cases hq; exact hr
        | l o =>
          cases hq
          obtain ⟨a, rfl, hf, hn, ro, m⟩ := hr
          refine ⟨a, rfl, ro, fun _ => ⟨hn, fun z => ?_⟩⟩
          rcases hown a z with h | ⟨_, h, _⟩
          · exact hf.own hE h
          · cases h
        | b o =>
          cases hq
          obtain ⟨a, rfl, ro, w⟩ := hr
          refine ⟨a, rfl, ro, fun m => ⟨(w m).1, fun z => ?_⟩⟩
          rcases hown a z with h | ⟨_, h, _⟩
          · exact (w m).2 h
          · cases h
        | o o => cases hq
      · cases r with
        | v d => cases hq; exact hr
        | l o =>
          cases hq
          obtain ⟨a, rfl, hf, hn, ro, m⟩ := hr
          exact ⟨a, rfl, hn, ro, m⟩
        | _ => cases hq
    · rw [List.getElem?_set_ne e] at hj
      obtain ⟨w, g1, g2⟩ := hE.val j s hj
      refine ⟨w, by rw [List.getElem?_set_ne e]; exact g1, g2.own fun a ha o ho m z => ?_⟩
      rcases hown a z with h | ⟨o2, _, _, _, h⟩
      · exact h
      · subst ha
        exact (h j s o hj (.inr ho) m g1).elim
  · have side : ∀ {j l : Nat} {a : Addr} {o o' : O}, i = j → i ≠ l → (env.set i (some q))[j]? = some (some (.l o)) → (env.set i (some q))[l]? = some (some (.l o')) → (σ.set i (some v))[j]? = some (some (.ref a)) → (σ.set i (some v))[l]? = some (some (.ref a)) → False := by
      intro j l a o o' e ne k1 k2 k3 k4
      subst e
      rw [List.getElem?_set_self hi] at k1
      rw [List.getElem?_set_self hiσ] at k3
      rw [List.getElem?_set_ne ne] at k2 k4
      cases k1
      cases k3
      obtain ⟨w, g1, g2⟩ := hE.val l _ k2
      obtain ⟨_, _, _, _, m⟩ := g2
      rcases hq with hq | hq
      · cases r <;> cases hq
      · cases r with
        | l o' =>
          cases hq
          obtain ⟨b, e, hf, _⟩ := hr
          cases e
          exact hf l _ _ k2 (.inl rfl) m k4
        | _ => cases hq
    by_cases e1 : i = j
    · by_cases e2 : i = l
      · omega
      · exact (side e1 e2 h1 h2 h3 h4).elim
    · by_cases e2 : i = l
      · exact (side e2 e1 h2 h1 h4 h3).elim
      · rw [List.getElem?_set_ne e1] at h1 h3
        rw [List.getElem?_set_ne e2] at h2 h4
        exact hE.sep j l a o o' h1 h2 h3 h4
theorem RepE.setR (hE0 : RepE G H0 α0 σ env) (X : Ext Non α0 H0 α H) (hr : RepR G H α (Fresh H0) (Own σ env) v r) (hq : keepR r = some q ∨ keepL r = some q) (hi : i < env.length) :
    RepE G H α (σ.set i (some v)) (env.set i (some q)) ∧ ∀ a, Own (σ.set i (some v)) (env.set i (some q)) a → Own σ env a ∨ H0 a = none := by
  obtain ⟨h1, h2⟩ := (hE0.ext X).setN (hr.mono fun a h => hE0.noSlot h) hq hi
  refine ⟨h1, fun a ha => (h2 a ha).imp id fun ⟨o, _, e, e2⟩ => ?_⟩
  subst e e2
  obtain ⟨b, e, hf, _⟩ := hr
  cases e
  exact hf
end
/-- name = value -/
def sSet (i : Nat) (m : Env → M R) : Env → M Fl := fun env => m env >>= fun r => M.ofO (keepR r) >>= fun q => if i < env.length then pure (.nx (env.set i (some q))) else M.fail
/-- name = a list of its own -/
def sSetL (i : Nat) (m : Env → M R) : Env → M Fl := fun env => m env >>= fun r => M.ofO (keepL r) >>= fun q => if i < env.length then pure (.nx (env.set i (some q))) else M.fail
/-- name = a list that others may change, too -/
def alloc : R → M R
  | .l o => fun st => some (.v (.obj st.length), st ++ [o])
  | .v d => pure (.v d)
  | _ => M.fail
def sSetI (i : Nat) (m : Env → M R) : Env → M Fl := fun env => m env >>= fun r => alloc r >>= fun q => if i < env.length then pure (.nx (env.set i (some q))) else M.fail
section
variable {G : Kx} {D : Ends} {σ : St} {H : Hp} {i : Nat} {m : Env → M R}
theorem set_of (h : tS G (sSet i m) D σ H) : tAsg (tE G m) (gName i) D σ H := by
  obtain ⟨α, env, s0, fl, st', hE, hS, hm, k⟩ := h
  obtain ⟨r, s1, e1, hm1⟩ := bind_run hm
  obtain ⟨q, s2, e2, hm2⟩ := bind_run hm1
  obtain ⟨e3, rfl⟩ := ofO_inv e2
  split at hm2
  · rename_i hi
    obtain ⟨rfl, rfl⟩ := pure_inv hm2
    refine ⟨α, env, s0, r, _, hE, hS, e1, fun v α1 H1 X1 S1 R1 => ?_⟩
    obtain ⟨h1, h2⟩ := hE.setR X1 R1 (.inl e3) hi
    exact k α1 H1 (X1.mono fun _ z => z.elim) S1 _ h1 h2
  · cases hm2
theorem setL_of (h : tS G (sSetL i m) D σ H) : tAsg (tE G m) (gName i) D σ H := by
  obtain ⟨α, env, s0, fl, st', hE, hS, hm, k⟩ := h
  obtain ⟨r, s1, e1, hm1⟩ := bind_run hm
  obtain ⟨q, s2, e2, hm2⟩ := bind_run hm1
  obtain ⟨e3, rfl⟩ := ofO_inv e2
  split at hm2
  · rename_i hi
    obtain ⟨rfl, rfl⟩ := pure_inv hm2
    refine ⟨α, env, s0, r, _, hE, hS, e1, fun v α1 H1 X1 S1 R1 => ?_⟩
    obtain ⟨h1, h2⟩ := hE.setR X1 R1 (.inr e3) hi
    exact k α1 H1 (X1.mono fun _ z => z.elim) S1 _ h1 h2
  · cases hm2
/-- a value gets a number -/
theorem alloc_ok {H0 : Hp} {α0 α : List Addr} {ow : Addr → Prop} {st st' : Sto} {v : V} {r q : R} (X : Ext Non α0 H0 α H) (hS : RepS G H α st) (hr : RepR G H α (Fresh H0) ow v r) (h : alloc r st = some (q, st')) :
    ∃ α', Ext Non α0 H0 α' H ∧ RepS G H α' st' ∧ ∃ d, q = .v d ∧ Rep G H α' v d := by
  cases r with
  | l o =>
    have h : some (R.v (.obj st.length), st ++ [o]) = some (q, st') := h
    injection h with h
    injection h with h1 h2
    subst h1 h2
    obtain ⟨a, rfl, hf, hn, ro, m⟩ := hr
    have X2 : Ext (fun b => b = a) α H (α ++ [a]) H := ⟨⟨[a], rfl, fun b hb => .inr (by simpa using hb)⟩, fun _ _ h _ _ => h, fun _ h => h, fun _ _ h => h, fun _ _ _ h => h⟩
    obtain ⟨β, e, p⟩ := X.pre
    have X3 : Ext Non α0 H0 (α ++ [a]) H := ⟨⟨β ++ [a], by rw [e]; simp, fun b hb => by
      rcases List.mem_append.mp hb with hb | hb
      · exact p b hb
      · have : b = a := by simpa using hb
        subst this
        exact .inl hf⟩, X.keep, X.dom, X.tups, X.frzs⟩
    have ext : ∀ {b : Addr} {o : O}, RepO G H α b o → RepO G H (α ++ [a]) b o := fun h => RepO.ext h X2 fun _ _ h => h
    refine ⟨α ++ [a], X3, ⟨by simp [hS.len], List.nodup_append.mpr ⟨hS.nd, by simp, fun x hx y hy => by
      have : y = a := by simpa using hy
      subst this
      intro e
      subst e
      exact hn hx⟩, fun n o' b h1 h2 => ?_, fun n o' h1 => ?_⟩, .obj st.length, rfl, .obj (by rw [← hS.len]; simp)⟩
    · by_cases hl : n < st.length
      · rw [List.getElem?_append_left hl] at h1
        rw [List.getElem?_append_left (by rw [hS.len]; exact hl)] at h2
        exact ext (hS.obj n o' b h1 h2)
      · have hb := (List.getElem?_eq_some_iff.mp h1).1
        have e : n = st.length := by simp at hb; omega
        subst e
        rw [List.getElem?_append_right (Nat.le_refl _)] at h1
        rw [← hS.len, List.getElem?_append_right (Nat.le_refl _)] at h2
        simp at h1 h2
        subst h1 h2
        exact ext ro
    · by_cases hl : n < st.length
      · rw [List.getElem?_append_left hl] at h1
        exact hS.mv n o' h1
      · have hb := (List.getElem?_eq_some_iff.mp h1).1
        have e : n = st.length := by simp at hb; omega
        subst e
        rw [List.getElem?_append_right (Nat.le_refl _)] at h1
        simp at h1
        subst h1
        exact m
  | v d =>
    obtain ⟨rfl, rfl⟩ := pure_inv h
    exact ⟨α, X, hS, d, rfl, hr⟩
  | _ => exact nomatch (show (none : Option (R × Sto)) = some (q, st') from h)
theorem setI_of (h : tS G (sSetI i m) D σ H) : tAsg (tE G m) (gName i) D σ H := by
  obtain ⟨α, env, s0, fl, st', hE, hS, hm, k⟩ := h
  obtain ⟨r, s1, e1, hm1⟩ := bind_run hm
  obtain ⟨q, s2, e2, hm2⟩ := bind_run hm1
  split at hm2
  · rename_i hi
    obtain ⟨rfl, rfl⟩ := pure_inv hm2
    refine ⟨α, env, s0, r, s1, hE, hS, e1, fun v α1 H1 X1 S1 R1 => ?_⟩
    obtain ⟨α2, X2, S2, d, rfl, rd⟩ := alloc_ok X1 S1 R1 e2
    obtain ⟨h1, h2⟩ := hE.setR X2 (v := v) (r := .v d) rd (.inl rfl) hi
    exact k α2 H1 (X2.mono fun _ z => z.elim) S2 _ h1 h2
  · cases hm2
end
end Mi
/-! Mi: targets, lists that change. -/
namespace Mi
open PySem PySem.Spec PyProof.Rows L2

section
variable {G : Kx} {H : Hp} {α : List Addr} {σ : St} {env : Env} {st : Sto} {a : Addr} {u : HO}
/-- the object at a is changed -/
theorem Ext.upd1 {old : HO} (ha : H a = some old) (hm : ∀ xs, old ≠ .tup xs) (hf : ∀ o w, old ≠ .frz o w) {own : Addr → Prop} (ho : a ∈ α ∨ own a) : Ext own α H α (upd H a u) :=
  ⟨⟨[], by simp, by simp⟩, fun b o hb hn hw => by
    have : b ≠ a := fun e => by
      subst e
      rcases ho with ho | ho
      · exact hn ho
      · exact hw ho
    rw [upd_ne this]; exact hb, fun b h => by
    by_cases e : b = a
    · subst e; rw [upd_same] at h; cases h
    · rw [upd_ne e] at h; exact h, fun b xs h => by
    rw [upd_ne (fun e => by subst e; rw [ha] at h; cases h; exact hm _ rfl)]; exact h, fun b o w h => by
    rw [upd_ne (fun e => by subst e; rw [ha] at h; cases h; exact hf _ _ rfl)]; exact h⟩
theorem RepS.updOwn {old : HO} (hS : RepS G H α st) (ha : H a = some old) (hm : ∀ xs, old ≠ .tup xs) (hf : ∀ o w, old ≠ .frz o w) (hn : a ∉ α) : RepS G (upd H a u) α st :=
  ⟨hS.len, hS.nd, fun n o b h1 h2 => RepO.ext (hS.obj n o b h1 h2) (Ext.upd1 (own := fun c => c = a) ha hm hf (.inr rfl)) fun _ w hw => by
    rw [upd_ne (fun e => by subst e; exact hn (List.mem_of_getElem? h2))]; exact hw, hS.mv⟩
theorem RepE.updOwn {i : Nat} {xs xs' : List V} {ds ds' : List D} (hE : RepE G H α σ env) (hi : env[i]? = some (some (.l (.lst ds)))) (hσ : σ[i]? = some (some (.ref a))) (ha : H a = some (.lst xs)) (hn : a ∉ α) (hr : RepL G H α xs' ds') :
    RepE G (upd H a (.lst xs')) α σ (env.set i (some (.l (.lst ds')))) ∧ ∀ b, Own σ (env.set i (some (.l (.lst ds')))) b → Own σ env b := by
  have X : Ext (fun c => c = a) α H α (upd H a (.lst xs')) := Ext.upd1 ha (fun _ e => nomatch e) (fun _ _ e => nomatch e) (.inr rfl)
  have hlt : i < env.length := (List.getElem?_eq_some_iff.mp hi).1
  have own : ∀ b, Own σ (env.set i (some (.l (.lst ds')))) b → Own σ env b := fun b ⟨j, o, h1, h2⟩ => by
    by_cases e : i = j
    · subst e
      exact ⟨i, _, hi, h2⟩
    · rw [List.getElem?_set_ne e] at h1
      exact ⟨j, o, h1, h2⟩
  refine ⟨⟨by rw [List.length_set]; exact hE.len, fun j r hj => ?_, fun j l b o o' h1 h2 h3 h4 => ?_⟩, own⟩
  · by_cases e : i = j
    · subst e
      rw [List.getElem?_set_self hlt] at hj
      cases hj
      exact ⟨_, hσ, a, rfl, hn, ⟨xs', upd_same, hr.ext X⟩, trivial⟩
    · rw [List.getElem?_set_ne e] at hj
      obtain ⟨v, g1, g2⟩ := hE.val j r hj
      refine ⟨v, g1, ?_⟩
      cases r with
      | v d => exact Rep.ext X g2
      | l o =>
        (obtain ⟨b, rfl, h1, h2, m⟩ := g2); have hb : b ≠ a := fun z => by
          subst z
          exact e (hE.sep i j b _ _ hi hj hσ g1)
        exact ⟨b, rfl, h1, RepO.ext h2 X fun _ w hw => by rw [upd_ne hb]; exact hw, m⟩
      | o o => exact g2
      | b o =>
        obtain ⟨b, rfl, h1, h2⟩ := g2
        (refine ⟨b, rfl, RepO.ext h1 X fun m w hw => ?_, fun m => ⟨(h2 m).1, fun z => (h2 m).2 (own b z)⟩⟩); have hb : b ≠ a := fun z => by
          subst z
          exact (h2 m).2 ⟨i, _, hi, hσ⟩
        rw [upd_ne hb]; exact hw
  · have conv : ∀ {j : Nat} {o : O}, (env.set i (some (.l (.lst ds'))))[j]? = some (some (.l o)) → ∃ o, env[j]? = some (some (.l o)) := fun {j o} h => by
      by_cases e : i = j
      · subst e; exact ⟨_, hi⟩
      · rw [List.getElem?_set_ne e] at h; exact ⟨o, h⟩
    obtain ⟨p, g1⟩ := conv h1
    obtain ⟨q, g2⟩ := conv h2
    exact hE.sep j l b p q g1 g2 h3 h4
/-- a list of the store is changed -/
theorem RepS.updObj {n : Nat} {xs xs' : List V} {ds ds' : List D} (hS : RepS G H α st) (hn : st[n]? = some (.lst ds)) (hα : α[n]? = some a) (ha : H a = some (.lst xs)) (hr : RepL G H α xs' ds') :
    RepS G (upd H a (.lst xs')) α (st.set n (.lst ds')) := by
  have X : Ext (fun c => c = a) α H α (upd H a (.lst xs')) := Ext.upd1 ha (fun _ e => nomatch e) (fun _ _ e => nomatch e) (.inr rfl)
  have hlt : n < st.length := (List.getElem?_eq_some_iff.mp hn).1
  refine ⟨by rw [List.length_set]; exact hS.len, hS.nd, fun j o b h1 h2 => ?_, fun j o h1 => ?_⟩
  · by_cases e : n = j
    · subst e
      rw [List.getElem?_set_self hlt] at h1
      cases h1
      rw [hα] at h2
      cases h2
      exact ⟨xs', upd_same, hr.ext X⟩
    · rw [List.getElem?_set_ne e] at h1
      (refine RepO.ext (hS.obj j o b h1 h2) X fun _ w hw => ?_); have hb : b ≠ a := fun z => by
        subst z
        have l1 : n < α.length := (List.getElem?_eq_some_iff.mp hα).1
        have l2 : j < α.length := (List.getElem?_eq_some_iff.mp h2).1
        exact e ((List.getElem_inj hS.nd).mp ((List.getElem?_eq_some_iff.mp hα).2.trans (List.getElem?_eq_some_iff.mp h2).2.symm))
      rw [upd_ne hb]; exact hw
  · by_cases e : n = j
    · subst e
      rw [List.getElem?_set_self hlt] at h1
      cases h1
      trivial
    · rw [List.getElem?_set_ne e] at h1
      exact hS.mv j o h1
end
section
variable {X : Cx} {C : List Addr} {e : Expr} {pos pos' : Pos} {m : Env → M R} {x : Str} {i : Nat}
theorem s_set (hN : X.N.Nodup) (hi : X.N[i]? = some x) (hx : Loc X.env.scope x) (he : SimE X C e m) (hs : swapsWith e (some (.Name x pos')) pos.line X.env = pure false := by rfl) (hf : X.fn x = true ∨ X.env.scope.names.lookup x = some .local := by first | exact .inl rfl | exact .inr rfl | assumption) :
    SimS X C (.Assign [.Name x pos'] e pos) (sSet i m) := (ps_set hN hi hx he hs hf).wk fun _ _ _ h => set_of h
theorem s_setL (hN : X.N.Nodup) (hi : X.N[i]? = some x) (hx : Loc X.env.scope x) (he : SimE X C e m) (hs : swapsWith e (some (.Name x pos')) pos.line X.env = pure false := by rfl) (hf : X.fn x = true ∨ X.env.scope.names.lookup x = some .local := by first | exact .inl rfl | exact .inr rfl | assumption) :
    SimS X C (.Assign [.Name x pos'] e pos) (sSetL i m) := (ps_set hN hi hx he hs hf).wk fun _ _ _ h => setL_of h
theorem s_setI (hN : X.N.Nodup) (hi : X.N[i]? = some x) (hx : Loc X.env.scope x) (he : SimE X C e m) (hs : swapsWith e (some (.Name x pos')) pos.line X.env = pure false := by rfl) (hf : X.fn x = true ∨ X.env.scope.names.lookup x = some .local := by first | exact .inl rfl | exact .inr rfl | assumption) :
    SimS X C (.Assign [.Name x pos'] e pos) (sSetI i m) := (ps_set hN hi hx he hs hf).wk fun _ _ _ h => setI_of h

/-! ### targets -/
abbrev Tg := D → Env → M Env
/-- slots but those are as they were -/
def Alike (is : List Nat) (σ σ' : St) : Prop := σ'.length = σ.length ∧ ∀ j, j ∉ is → σ'[j]? = σ[j]?
theorem Alike.refl {is : List Nat} {σ : St} : Alike is σ σ := ⟨rfl, fun _ _ => rfl⟩
theorem Alike.trans {is js : List Nat} {σ σ' σ'' : St} (h : Alike is σ σ') (h' : Alike js σ' σ'') : Alike (is ++ js) σ σ'' :=
  ⟨h'.1.trans h.1, fun j hj => by
    simp only [List.mem_append, not_or] at hj
    exact (h'.2 j hj.2).trans (h.2 j hj.1)⟩
def tG (G : Kx) (is : List Nat) (g : Tg) : TG := fun v σ H Q => ∃ α env d st env' st', RepE G H α σ env ∧ RepS G H α st ∧ Rep G H α v d ∧ g d env st = some (env', st') ∧
  ∀ σ' α' H', Ext Non α H α' H' → RepS G H' α' st' → RepE G H' α' σ' env' → (∀ a, Own σ' env' a → Own σ env a ∨ H a = none) → Alike is σ σ' → Q σ' H'
def tGs (G : Kx) (is : List Nat) (g : List D → Env → M Env) : TGs := fun vs σ H Q => ∃ α env ds st env' st', RepE G H α σ env ∧ RepS G H α st ∧ RepL G H α vs ds ∧ g ds env st = some (env', st') ∧
  ∀ σ' α' H', Ext Non α H α' H' → RepS G H' α' st' → RepE G H' α' σ' env' → (∀ a, Own σ' env' a → Own σ env a ∨ H a = none) → Alike is σ σ' → Q σ' H'
abbrev SimG (X : Cx) (C : List Addr) (e : Expr) (is : List Nat) (g : Tg) : Prop := PG X e (tG (gx X C) is g)
abbrev SimGs (X : Cx) (C : List Addr) (e : List Expr) (is : List Nat) (g : List D → Env → M Env) : Prop := PGs X e (tGs (gx X C) is g)
theorem PG.wk {e : Expr} {t t' : TG} (h : PG X e t) (w : ∀ v σ H Q, t' v σ H Q → t v σ H Q) : PG X e t' := ⟨fun pins s σ H v u Q I r h' => h.run pins s σ H v u Q I r (w _ _ _ _ h')⟩
theorem PGs.wk {e : List Expr} {t t' : TGs} (h : PGs X e t) (w : ∀ v σ H Q, t' v σ H Q → t v σ H Q) : PGs X e t' := ⟨fun pins s σ H v u Q I r h' => h.run pins s σ H v u Q I r (w _ _ _ _ h')⟩
def gN (i : Nat) : Tg := fun d env => if i < env.length then pure (env.set i (some (.v d))) else M.fail
def gNl : List D → Env → M Env := fun ds env => if ds.isEmpty = true then pure env else M.fail
def gCs (g : Tg) (r : List D → Env → M Env) : List D → Env → M Env := fun ds env => match ds with
  | d :: ds => g d env >>= fun e => r ds e
  | [] => M.fail
/-- (a, b, ..) of a tuple with as many -/
def gTp (n : Nat) (r : List D → Env → M Env) : Tg := fun d env => match d with
  | .tup ds => if ds.length = n then r ds env else M.fail
  | _ => M.fail
theorem g_name (hN : X.N.Nodup) (hi : X.N[i]? = some x) (hx : Loc X.env.scope x) (hf : X.fn x = true ∨ X.env.scope.names.lookup x = some .local := by first | exact .inl rfl | exact .inr rfl | assumption) : SimG X C (.Name x pos) [i] (gN i) :=
  PG.wk (pg_name hN hi hx hf) fun v σ H Q h => by
    obtain ⟨α, env, d, st, env', st', hE, hS, hr, hm, k⟩ := h
    unfold gN at hm
    split at hm
    · rename_i hl
      obtain ⟨rfl, rfl⟩ := pure_inv hm
      obtain ⟨h1, h2⟩ := hE.setR Ext.rfl' (v := v) (r := .v d) hr (.inl rfl) hl
      exact k _ α H Ext.rfl' hS h1 h2 ⟨by simp, fun j hj => List.getElem?_set_ne (fun e => hj (by simp [e]))⟩
    · cases hm
theorem g_nil : SimGs X C [] [] gNl := PGs.wk pgs_nil fun v σ H Q h => by
  obtain ⟨α, env, ds, st, env', st', hE, hS, hr, hm, k⟩ := h
  unfold gNl at hm
  split at hm
  · rename_i he
    obtain ⟨rfl, rfl⟩ := pure_inv hm
    cases hr with
    | nil => exact ⟨rfl, k σ α H Ext.rfl' hS hE (fun _ h => .inl h) .refl⟩
    | cons _ _ => cases he
  · cases hm
theorem g_cons {es : List Expr} {is js : List Nat} {g : Tg} {r : List D → Env → M Env} (h1 : SimG X C e is g) (h2 : SimGs X C es js r) (hs : (assignEach (e :: es) X.env).map (·.2) = assign e X.env :: (assignEach es X.env).map (·.2) := by rfl) : SimGs X C (e :: es) (is ++ js) (gCs g r) :=
  PGs.wk (pgs_cons h1 h2 hs) fun vs σ H Q h => by
    obtain ⟨α, env, ds, st, env', st', hE, hS, hr, hm, k⟩ := h
    cases hr with
    | nil => exact nomatch (show (none : Option (Env × Sto)) = some (env', st') from hm)
    | cons r1 rs =>
      obtain ⟨e1, s1, g1, hm1⟩ := bind_run hm
      refine ⟨_, _, rfl, α, env, _, st, e1, s1, hE, hS, r1, g1, fun σ1 α1 H1 X1 S1 E1 O1 L1 => ⟨α1, e1, _, s1, env', st', E1, S1, rs.ext X1, hm1, fun σ2 α2 H2 X2 S2 E2 O2 L2 => ?_⟩⟩
      refine k σ2 α2 H2 (X1.trans0 X2) S2 E2 (fun a ha => ?_) (L1.trans L2)
      rcases O2 a ha with h | h
      · exact O1 a h
      · exact .inr (X1.dom a h)
theorem g_tup {es : List Expr} {is : List Nat} {r : List D → Env → M Env} {k n : Nat} (hc : X.calm = true) (h : SimGs X C es is r) (hn : (assignEach es X.env).length = n := by rfl) (hst : (assignEach es X.env).findIdx? (·.1) = none := by rfl) : SimG X C (.Tuple es k pos) is (gTp n r) :=
  PG.wk (pg_tup hc h hn hst) fun v σ H Q h => by
    obtain ⟨α, env, d, st, env', st', hE, hS, hr, hm, k⟩ := h
    cases hr with
    | tup h1 h2 =>
      have hm' : (if _ = n then r _ env else M.fail) st = some (env', st') := hm
      split at hm'
      · rename_i hl
        exact ⟨_, _, rfl, h1, by rw [h2.length]; exact hl, α, env, _, st, env', st', hE, hS, h2, hm', k⟩
      · cases hm'
    | _ => exact nomatch (show (none : Option (Env × Sto)) = some (env', st') from hm)
/-- a target = a value, not a list -/
def sAsg (g : Tg) (m : Env → M R) : Env → M Fl := fun env => m env >>= fun r => toD r >>= fun d => g d env >>= fun e => pure (.nx e)
theorem s_asg {tg : Expr} {is : List Nat} {g : Tg} (he : SimE X C e m) (hg : SimG X C tg is g) (hs : swapsWithSole [tg] e pos.line X.env = pure false := by rfl) (hw : swappedStores [tg] e X.env = pure none := by rfl)
    (h1 : (assignEach [tg] X.env).map (·.2) = [assign tg X.env] := by rfl) : SimS X C (.Assign [tg] e pos) (sAsg g m) := (ps_asg he hg hs hw h1).wk fun D' σ H h => by
  obtain ⟨α, env, s0, fl, st', hE, hS, hm, k⟩ := h
  obtain ⟨r, s1, e1, hm1⟩ := bind_run hm
  obtain ⟨d, s2, e2, hm2⟩ := bind_run hm1
  obtain ⟨env1, s3, e3, hm3⟩ := bind_run hm2
  obtain ⟨rfl, rfl⟩ := pure_inv hm3
  refine ⟨α, env, s0, r, s1, hE, hS, e1, fun v α1 H1 X1 S1 R1 => ?_⟩
  cases r with
  | v d' =>
    obtain ⟨rfl, rfl⟩ := pure_inv e2
    exact ⟨α1, env, _, _, env1, _, hE.ext X1, S1, R1, e3, fun σ2 α2 H2 X2 S2 E2 O2 _ =>
      k α2 H2 ((X1.trans0 X2).mono fun _ z => z.elim) S2 σ2 E2 fun a ha => (O2 a ha).imp id (X1.dom a)⟩
  | _ => exact nomatch (show (none : Option (D × Sto)) = some (d, s2) from e2)

/-! ### a, b = x, y -/
/-- how a value is laid into a name: as a value, as a list of its own, with a number -/
inductive Md where
  | f | l | i
def laid : Md → R → M R
  | _, .v d => pure (.v d)
  | .f, .l o => pure (.b o)
  | .l, .l o => pure (.l o)
  | .i, .l o => alloc (.l o)
  | _, _ => M.fail
def layAll : List (Nat × Md) → List R → Env → M Env
  | [], [], env => pure env
  | (i, k) :: ks, r :: rs, env => laid k r >>= fun q => if i < env.length then layAll ks rs (env.set i (some q)) else M.fail
  | _, _, _ => M.fail
def sPar (ks : List (Nat × Md)) (m : Env → M (List R)) : Env → M Fl := fun env => m env >>= fun rs => layAll ks rs env >>= fun e => pure (.nx e)
def setAll : List Nat → List V → St → St
  | i :: ks, v :: vs, σ => setAll ks vs (σ.set i (some v))
  | _, _, σ => σ
section
variable {G : Kx} {H : Hp} {α : List Addr} {σ : St} {env : Env} {st : Sto} {a : Addr}
theorem Ext.grow (a : Addr) : Ext (fun c => c = a) α H (α ++ [a]) H := ⟨⟨[a], rfl, fun b hb => .inr (by simpa using hb)⟩, fun _ _ h _ _ => h, fun _ h => h, fun _ _ h => h, fun _ _ _ h => h⟩
theorem RepE.grow (hE : RepE G H α σ env) (hn : NoSlot σ env a) : RepE G H (α ++ [a]) σ env := by
  refine ⟨hE.len, fun i r hi => ?_, hE.sep⟩
  obtain ⟨v, hv, q⟩ := hE.val i r hi
  refine ⟨v, hv, ?_⟩
  have ne : ∀ {b : Addr} {o : O}, (r = .l o ∨ r = .b o) → o.mov → v = .ref b → b ≠ a := fun e m h z => by
    subst z
    rw [h] at hv
    exact hn i r _ hi e m hv
  cases r with
  | v d => exact Rep.ext (Ext.grow a) q
  | l o =>
    obtain ⟨b, rfl, h1, h2, m⟩ := q
    exact ⟨b, rfl, by simp [h1, ne (.inl rfl) m rfl], RepO.ext h2 (Ext.grow a) fun _ _ h => h, m⟩
  | o o => exact q
  | b o =>
    obtain ⟨b, rfl, h1, h2⟩ := q
    exact ⟨b, rfl, RepO.ext h1 (Ext.grow a) fun _ _ h => h, fun m => ⟨by simp [(h2 m).1, ne (.inr rfl) m rfl], (h2 m).2⟩⟩
theorem RepRs.grow {fr own : Addr → Prop} : ∀ {vs : List V} {rs : List R}, RepRs G H α fr own vs rs → (∀ r ∈ rs, (∃ d, r = .v d) ∨ ∃ o, r = .l o) → ¬ Tmp vs rs a → RepRs G H (α ++ [a]) fr own vs rs
  | _, _, .nil, _, _ => .nil
  | _, _, .cons (v := v) (r := r) r1 s d, hk, ht => by
    refine .cons ?_ (s.grow (fun r h => hk r (List.mem_cons_of_mem _ h)) fun ⟨i, o, h1, h2⟩ => ht ⟨i + 1, o, by simpa using h1, by simpa using h2⟩) d
    rcases hk r List.mem_cons_self with ⟨d, rfl⟩ | ⟨o, rfl⟩
    · exact Rep.ext (Ext.grow a) r1
    · obtain ⟨b, rfl, h0, h1, h2, m⟩ := r1
      refine ⟨b, rfl, h0, ?_, RepO.ext h2 (Ext.grow a) fun _ _ h => h, m⟩
      have : b ≠ a := fun z => by
        subst z
        exact ht ⟨0, o, rfl, rfl⟩
      simp [h1, this]
theorem RepRs.own {fr own own' fr' : Addr → Prop} (hf : ∀ a, fr a → fr' a) : ∀ {vs : List V} {rs : List R}, RepRs G H α fr own vs rs → (∀ r ∈ rs, (∃ d, r = .v d) ∨ ∃ o, r = .l o) → RepRs G H α fr' own' vs rs
  | _, _, .nil, _ => .nil
  | _, _, .cons (v := v) (r := r) r1 s d, hk => by
    refine .cons ?_ (s.own hf (fun r h => hk r (List.mem_cons_of_mem _ h))) d
    rcases hk r List.mem_cons_self with ⟨d, rfl⟩ | ⟨o, rfl⟩
    · exact r1
    · obtain ⟨b, rfl, h0, h1⟩ := r1
      exact ⟨b, rfl, hf b h0, h1⟩
theorem RepRs.frs {fr fr' own : Addr → Prop} : ∀ {vs : List V} {rs : List R}, RepRs G H α fr own vs rs → (∀ a, fr a → Tmp vs rs a → fr' a) → RepRs G H α fr' own vs rs
  | _, _, .nil, _ => .nil
  | _, _, .cons (v := v) (r := r) r1 s d, hf => by
    refine .cons ?_ (s.frs fun a h ⟨i, o, h1, h2⟩ => hf a h ⟨i + 1, o, by simpa using h1, by simpa using h2⟩) d
    cases r with
    | l o =>
      obtain ⟨b, rfl, h0, h1⟩ := r1
      exact ⟨b, rfl, hf b h0 ⟨0, o, rfl, rfl⟩, h1⟩
    | _ => exact r1
/-- one value is laid -/
theorem laid_ok {st' : Sto} {i : Nat} {k : Md} {v : V} {r q : R} (hE : RepE G H α σ env) (hS : RepS G H α st) (hr : RepR G H α (NoSlot σ env) (Own σ env) v r) (h : laid k r st = some (q, st')) (hl : i < env.length) :
    ((∃ d, r = .v d) ∨ ∃ o, r = .l o) ∧ ∃ α', (α' = α ∨ ∃ a o, r = .l o ∧ v = .ref a ∧ α' = α ++ [a]) ∧ RepS G H α' st' ∧ RepE G H α' (σ.set i (some v)) (env.set i (some q)) ∧
      (∀ b, Own (σ.set i (some v)) (env.set i (some q)) b → Own σ env b ∨ ∃ o, r = .l o ∧ v = .ref b) ∧
      ∀ b, NoSlot σ env b → (∀ o, r = .l o → v ≠ .ref b) → NoSlot (σ.set i (some v)) (env.set i (some q)) b := by
  have nos : ∀ {q : R}, (∀ o, (q = .l o ∨ q = .b o) → o.mov → ∃ o, r = .l o) → ∀ b, NoSlot σ env b → (∀ o, r = .l o → v ≠ .ref b) → NoSlot (σ.set i (some v)) (env.set i (some q)) b := fun {q} hq b hn ht j s o h1 h2 m h3 => by
    by_cases e : i = j
    · subst e
      rw [List.getElem?_set_self hl] at h1
      rw [List.getElem?_set_self (by rw [hE.len]; exact hl)] at h3
      cases h1
      cases h3
      obtain ⟨o, ho⟩ := hq o h2 m
      exact ht o ho rfl
    · rw [List.getElem?_set_ne e] at h1 h3
      exact hn j s o h1 h2 m h3
  cases r with
  | v d =>
    have : q = .v d ∧ st' = st := by
      cases k <;> exact pure_inv h
    obtain ⟨rfl, rfl⟩ := this
    obtain ⟨g1, g2⟩ := hE.setN hr (.inl rfl) hl
    exact ⟨.inl ⟨d, rfl⟩, α, .inl rfl, hS, g1, fun b hb => (g2 b hb).imp id fun ⟨o, e, _⟩ => (nomatch e), nos fun o e _ => by rcases e with e | e <;> cases e⟩
  | l o =>
    refine ⟨.inr ⟨o, rfl⟩, ?_⟩
    cases k with
    | f =>
      obtain ⟨rfl, rfl⟩ := pure_inv h
      obtain ⟨g1, g2⟩ := hE.setN hr (.inl rfl) hl
      exact ⟨α, .inl rfl, hS, g1, fun b hb => (g2 b hb).imp id fun ⟨o, e, _⟩ => (nomatch e), nos fun o _ _ => ⟨_, rfl⟩⟩
    | l =>
      obtain ⟨rfl, rfl⟩ := pure_inv h
      obtain ⟨g1, g2⟩ := hE.setN hr (.inr rfl) hl
      exact ⟨α, .inl rfl, hS, g1, fun b hb => (g2 b hb).imp id fun ⟨o, _, e, e2⟩ => ⟨o, e, e2⟩, nos fun o _ _ => ⟨_, rfl⟩⟩
    | i =>
      obtain ⟨a, rfl, hf, hn, ro, m⟩ := hr
      obtain ⟨α', X', S', d, rfl, rd⟩ := alloc_ok (H0 := fun b => if b = a then none else H b) (α0 := α) (ow := Non) (H := H) (α := α) ⟨⟨[], by simp, by simp⟩, fun b o hb _ _ => by
          split at hb
          · cases hb
          · exact hb, fun b hb => by
          split
          · rfl
          · exact hb, fun b xs hb => by
          split at hb
          · cases hb
          · exact hb, fun b o u hb => by
          split at hb
          · cases hb
          · exact hb⟩ hS (v := .ref a) (r := .l o) ⟨a, rfl, by simp, hn, ro, m⟩ h
      have h' : some (R.v (.obj st.length), st ++ [o]) = some (R.v d, st') := h
      injection h' with h'
      injection h' with h1 h2
      injection h1 with h1
      subst h1 h2
      have e : α' = α ++ [a] := by
        obtain ⟨β, e, _⟩ := X'.pre
        have l1 := S'.len
        rw [e] at l1
        rw [List.length_append, List.length_append, hS.len] at l1
        have l2 : β.length = 1 := by simpa using l1
        cases rd with
        | obj q =>
          rw [e, List.getElem?_append_right (by rw [hS.len]; exact Nat.le_refl _), hS.len, Nat.sub_self] at q
          cases β with
          | nil => cases l2
          | cons b β =>
            cases β with
            | nil =>
              have : b = a := by simpa using q
              rw [e, this]
            | cons _ _ => simp at l2
      subst e
      obtain ⟨g1, g2⟩ := (hE.grow hf).setN (v := .ref a) (r := .v (.obj st.length)) rd (.inl rfl) hl
      exact ⟨_, .inr ⟨a, o, rfl, rfl, rfl⟩, S', g1, fun b hb => (g2 b hb).imp id fun ⟨o, e, _⟩ => (nomatch e), nos fun o e _ => by rcases e with e | e <;> cases e⟩
  | o o => exact (by cases k <;> exact nomatch (show (none : Option (R × Sto)) = some (q, st') from h))
  | b o => exact (by cases k <;> exact nomatch (show (none : Option (R × Sto)) = some (q, st') from h))
theorem plain_of : ∀ {ks : List (Nat × Md)} {rs : List R} {env env' : Env} {st st' : Sto}, layAll ks rs env st = some (env', st') → (∀ r ∈ rs, (∃ d, r = .v d) ∨ ∃ o, r = .l o) ∧ rs.length = ks.length
  | [], [], _, _, _, _, _ => ⟨fun _ h => (nomatch h), rfl⟩
  | [], _ :: _, _, env', _, st', h => nomatch (show (none : Option (Env × Sto)) = some (env', st') from h)
  | _ :: _, [], _, env', _, st', h => nomatch (show (none : Option (Env × Sto)) = some (env', st') from h)
  | (i, k) :: ks, r :: rs, env, env', st, st', h => by
    obtain ⟨q, s1, e1, h1⟩ := bind_run h
    split at h1
    · obtain ⟨p1, p2⟩ := plain_of h1
      (refine ⟨fun x hx => ?_, congrArg (· + 1) p2⟩); rcases List.mem_cons.mp hx with rfl | hx
      · cases x with
        | v d => exact .inl ⟨d, rfl⟩
        | l o => exact .inr ⟨o, rfl⟩
        | o o => cases k <;> exact nomatch (show (none : Option (R × Sto)) = some (q, s1) from e1)
        | b o => cases k <;> exact nomatch (show (none : Option (R × Sto)) = some (q, s1) from e1)
      · exact p1 x hx
    · cases h1
theorem layAll_ok {fr : Addr → Prop} : ∀ {ks : List (Nat × Md)} {vs : List V} {rs : List R} {α : List Addr} {σ : St} {env env' : Env} {st st' : Sto},
    RepE G H α σ env → RepS G H α st → RepRs G H α (fun a => NoSlot σ env a ∧ fr a) (Own σ env) vs rs → layAll ks rs env st = some (env', st') →
    ∃ β, (∀ a ∈ β, fr a) ∧ RepS G H (α ++ β) st' ∧ RepE G H (α ++ β) (setAll (ks.map (·.1)) vs σ) env' ∧ (∀ a, Own (setAll (ks.map (·.1)) vs σ) env' a → Own σ env a ∨ fr a)
  | [], vs, rs, α, σ, env, env', st, st', hE, hS, hr, h => by
    have e := (plain_of h).2
    cases rs with
    | nil =>
      obtain ⟨rfl, rfl⟩ := pure_inv h
      have e2 : setAll (([] : List (Nat × Md)).map (·.1)) vs σ = σ := by cases vs <;> rfl
      exact ⟨[], by simp, by simpa using hS, by rw [e2]; simpa using hE, fun a h => .inl (by rw [e2] at h; exact h)⟩
    | cons _ _ => cases e
  | (i, k) :: ks, vs, rs, α, σ, env, env', st, st', hE, hS, hr, h => by
    obtain ⟨hp, _⟩ := plain_of h
    cases hr with
    | nil => exact nomatch (show (none : Option (Env × Sto)) = some (env', st') from h)
    | @cons v vs r rs r1 rr dd =>
      obtain ⟨q, s1, e1, h1⟩ := bind_run h
      split at h1
      · rename_i hl
        obtain ⟨kd, α1, hα, S1, E1, O1, N1⟩ := laid_ok hE hS (RepR.mono r1 fun a (h : NoSlot σ env a ∧ fr a) => h.1) e1 hl
        have hp' : ∀ r ∈ rs, (∃ d, r = R.v d) ∨ ∃ o, r = R.l o := fun r h => hp r (List.mem_cons_of_mem _ h)
        have frv : ∀ a o, r = R.l o → v = V.ref a → fr a := fun a o e1 e2 => by
          subst e1 e2
          obtain ⟨b, e, h, _⟩ := r1
          cases e
          exact h.2
        have rr1 : RepRs G H α1 (fun a => NoSlot σ env a ∧ fr a) (Own σ env) vs rs := by
          rcases hα with e | ⟨a, o, e1, e2, e⟩
          · rw [e]; exact rr
          · rw [e]; exact rr.grow hp' (dd o a e1 e2)
        have rr2 : RepRs G H α1 (fun a => NoSlot (σ.set i (some v)) (env.set i (some q)) a ∧ fr a) (Own (σ.set i (some v)) (env.set i (some q))) vs rs :=
          RepRs.own (fun _ h => h) (RepRs.frs (fr' := fun a => NoSlot (σ.set i (some v)) (env.set i (some q)) a ∧ fr a) rr1 fun a h ht => ⟨N1 a h.1 fun o e1 e2 => dd o a e1 e2 ht, h.2⟩) hp'
        obtain ⟨β, b1, b2, b3, b4⟩ := layAll_ok E1 S1 rr2 h1
        have own : ∀ a, Own (setAll (((i, k) :: ks).map (·.1)) (v :: vs) σ) env' a → Own σ env a ∨ fr a := fun a ha => by
          rcases b4 a ha with h | h
          · rcases O1 a h with h | ⟨o, e1, e2⟩
            · exact .inl h
            · exact .inr (frv a o e1 e2)
          · exact .inr h
        rcases hα with e | ⟨a, o, e1, e2, e⟩
        · subst e
          exact ⟨β, b1, b2, b3, own⟩
        · subst e
          rw [List.append_assoc] at b2 b3
          exact ⟨[a] ++ β, fun x hx => by
            rcases List.mem_append.mp hx with hx | hx
            · have : x = a := by simpa using hx
              rw [this]
              exact frv a o e1 e2
            · exact b1 x hx, b2, b3, own⟩
      · cases h1
end
section
variable {X : Cx} {C : List Addr} {a b c : Expr} {m : Env → M (List R)} {x y z : Str} {i j l : Nat}
theorem par_of {G : Kx} {D : Ends} {σ : St} {H : Hp} {ks : List (Nat × Md)} {m : Env → M (List R)} (h : tS G (sPar ks m) D σ H) : tA G m σ H fun vs H1 => vs.length = ks.length ∧ D.nx (setAll (ks.map (·.1)) vs σ) H1 := by
  obtain ⟨α, env, s0, fl, st', hE, hS, hm, k⟩ := h
  obtain ⟨rs, s1, e1, hm1⟩ := bind_run hm
  obtain ⟨env', s2, e2, hm2⟩ := bind_run hm1
  obtain ⟨rfl, rfl⟩ := pure_inv hm2
  refine ⟨α, env, s0, rs, s1, hE, hS, e1, fun vs α1 H1 X1 S1 R1 => ?_⟩
  refine ⟨by rw [R1.length]; exact (plain_of e2).2, ?_⟩
  obtain ⟨β, b1, b2, b3, b4⟩ := layAll_ok (fr := Fresh H) (hE.ext X1) S1 (R1.frs fun a h _ => ⟨hE.noSlot h, h⟩) e2
  obtain ⟨β0, p1, p2⟩ := X1.pre
  refine k (α1 ++ β) H1 ?_ b2 _ b3 b4
  exact ⟨⟨β0 ++ β, by rw [p1]; simp, fun b hb => by
    rcases List.mem_append.mp hb with hb | hb
    · exact .inl ((p2 b hb).resolve_right fun z => z)
    · exact .inl (b1 b hb)⟩, fun a o h1 h2 _ => X1.keep a o h1 h2 fun z => z, X1.dom, X1.tups, X1.frzs⟩
theorem s_par2 {k1 k2 : Md} {px py pt pos : Pos} {kt kt2 pt2} (hc : X.calm = true) (hN : X.N.Nodup) (hi : X.N[i]? = some x) (hj : X.N[j]? = some y) (hij : i ≠ j)
    (hx : X.env.scope.names.lookup x = some .local) (hy : X.env.scope.names.lookup y = some .local) (ha : SimA X C [a, b] m)
    (hw : swappedStores [.Tuple [.Name x px, .Name y py] kt pt] (.Tuple [a, b] kt2 pt2) X.env = pure (some [x, y]))
    (hs : swapsWithSole [.Tuple [.Name x px, .Name y py] kt pt] (.Tuple [a, b] kt2 pt2) pos.line X.env = pure false := by rfl) :
    SimS X C (.Assign [.Tuple [.Name x px, .Name y py] kt pt] (.Tuple [a, b] kt2 pt2) pos) (sPar [(i, k1), (j, k2)] m) :=
  (ps_par hc hN hi hj hij hx hy ha hw hs).wk fun D σ H h => by
    obtain ⟨α, env, s0, rs, s1, hE, hS, e1, k⟩ := par_of h
    refine ⟨α, env, s0, rs, s1, hE, hS, e1, fun vs α1 H1 X1 S1 R1 => ?_⟩
    obtain ⟨q1, q2⟩ := k vs α1 H1 X1 S1 R1
    match vs, q1 with
    | [v, w], _ => exact ⟨v, w, rfl, q2⟩
theorem s_par3 {k1 k2 k3 : Md} {px py pz pt pos : Pos} {kt kt2 pt2} (hc : X.calm = true) (hN : X.N.Nodup) (hi : X.N[i]? = some x) (hj : X.N[j]? = some y) (hl : X.N[l]? = some z) (hij : i ≠ j) (hil : i ≠ l) (hjl : j ≠ l)
    (hx : X.env.scope.names.lookup x = some .local) (hy : X.env.scope.names.lookup y = some .local) (hz : X.env.scope.names.lookup z = some .local) (ha : SimA X C [a, b, c] m)
    (hw : swappedStores [.Tuple [.Name x px, .Name y py, .Name z pz] kt pt] (.Tuple [a, b, c] kt2 pt2) X.env = pure (some [x, y, z]))
    (hs : swapsWithSole [.Tuple [.Name x px, .Name y py, .Name z pz] kt pt] (.Tuple [a, b, c] kt2 pt2) pos.line X.env = pure false := by rfl) :
    SimS X C (.Assign [.Tuple [.Name x px, .Name y py, .Name z pz] kt pt] (.Tuple [a, b, c] kt2 pt2) pos) (sPar [(i, k1), (j, k2), (l, k3)] m) :=
  (ps_par3 hc hN hi hj hl hij hil hjl hx hy hz ha hw hs).wk fun D σ H h => by
    obtain ⟨α, env, s0, rs, s1, hE, hS, e1, k⟩ := par_of h
    refine ⟨α, env, s0, rs, s1, hE, hS, e1, fun vs α1 H1 X1 S1 R1 => ?_⟩
    obtain ⟨q1, q2⟩ := k vs α1 H1 X1 S1 R1
    match vs, q1 with
    | [u, v, w], _ => exact ⟨u, v, w, rfl, q2⟩
end
end
end Mi
/-! Mi: lists that change: append, extend, pop, x[i] = v. -/
namespace Mi
open PySem PySem.Spec PyProof.Rows L2

/-- a slot that holds a list of its own -/
def ownAt (i : Nat) (env : Env) : Option (List D) := match env[i]? with
  | some (some (.l (.lst ds))) => some ds
  | _ => none
theorem ownAt_ok {i : Nat} {env : Env} {ds : List D} (h : ownAt i env = some ds) : env[i]? = some (some (.l (.lst ds))) := by
  unfold ownAt at h
  split at h
  · rename_i q; cases h; exact q
  · cases h
def stAt (n : Nat) (st : Sto) : Option (List D) := match st[n]? with
  | some (.lst ds) => some ds
  | _ => none
theorem stAt_ok {n : Nat} {st : Sto} {ds : List D} (h : stAt n st = some ds) : st[n]? = some (.lst ds) := by
  unfold stAt at h
  split at h
  · rename_i q; cases h; exact q
  · cases h
/-- x.m(args) as a statement, x a list of its own: f tells the new list -/
def sOwn (i : Nat) (f : List D → List R → M (List D)) (ms : Env → M (List R)) : Env → M Fl := fun env => ms env >>= fun rs => M.ofO (ownAt i env) >>= fun ds => f ds rs >>= fun ds' => pure (.nx (env.set i (some (.l (.lst ds')))))
/-- x.m(args), x a list with a number: f tells the value and the new list -/
def lstNo : R → M Nat
  | .v (.obj n) => fun st => match stAt n st with
    | some _ => some (n, st)
    | none => none
  | _ => M.fail
def inSt (n : Nat) (f : List D → M (R × List D)) : M R := fun st => match stAt n st with
  | some ds => match f ds st with
    | some ((r, ds'), st') => some (r, st'.set n (.lst ds'))
    | none => none
  | none => none
def eMut (f : List D → List R → M (R × List D)) (mo : Env → M R) (ms : Env → M (List R)) : Env → M R := fun env => mo env >>= fun o => lstNo o >>= fun n => ms env >>= fun rs => inSt n fun ds => f ds rs
theorem lstNo_ok {G : Kx} {H : Hp} {α : List Addr} {fr own : Addr → Prop} {st st' : Sto} {v : V} {r : R} {n : Nat} (hr : RepR G H α fr own v r) (hS : RepS G H α st) (h : lstNo r st = some (n, st')) :
    st' = st ∧ ∃ a xs, v = .ref a ∧ α[n]? = some a ∧ H a = some (.lst xs) := by
  have no : ∀ {p : Prop}, (none : Option (Nat × Sto)) = some (n, st') → p := fun h => nomatch h
  cases r with
  | v d =>
    cases d with
    | obj k =>
      have h' : (match stAt k st with | some _ => some (k, st) | none => none) = some (n, st') := h
      split at h'
      · rename_i ds q
        injection h' with h'
        injection h' with h1 h2
        subst h1 h2
        cases hr with
        | obj ha =>
          obtain ⟨xs, h1, h2⟩ := hS.obj k _ _ (stAt_ok q) ha
          exact ⟨rfl, _, xs, rfl, ha, h1⟩
      · cases h'
    | _ => exact no h
  | _ => exact no h
/-- what a method asks and does, by values: the list ds at a, the arguments -/
def MtD (X : Cx) (C : List Addr) (id : String) (f : List D → List R → M (R × List D)) : Prop := ∃ r : V → List V → Hp → VK → Prop, MtR X id r ∧
  ∀ {H : Hp} {α : List Addr} {own : Addr → Prop} {a : Addr} {xs : List V} {ds : List D} {vs : List V} {rs : List R} {st st' : Sto} {q : R} {ds' : List D} {Q : VK},
    H a = some (.lst xs) → RepL (gx X C) H α xs ds → RepRs (gx X C) H α All own vs rs → RepS (gx X C) H α st → f ds rs st = some ((q, ds'), st') →
    st' = st ∧ ((∀ v xs', RepL (gx X C) H α xs' ds' → (∃ d, q = .v d ∧ Rep (gx X C) H α v d) → Q v (upd H a (.lst xs'))) → r (.ref a) vs H Q)
def fAppend (ds : List D) (rs : List R) : M (R × List D) := match rs with
  | [.v d] => if lenOk (ds.length + 1) = true then pure (.v .non, ds ++ [d]) else M.fail
  | _ => M.fail
def fExtend (ds : List D) (rs : List R) : M (R × List D) := match rs with
  | [r] => asLst r >>= fun es => if lenOk (ds.length + es.length) = true then pure (.v .non, ds ++ es) else M.fail
  | _ => M.fail
def fPop (ds : List D) (rs : List R) : M (R × List D) := match rs with
  | [] => M.ofO (ds.getLast?) >>= fun d => pure (.v d, ds.dropLast)
  | [.v (.int i)] => if (decide (-(2 ^ 63) ≤ i) && decide (i < 2 ^ 63)) = true then M.ofO (seqIndex? i ds.length) >>= fun k => M.ofO ds[k]? >>= fun d => pure (.v d, ds.eraseIdx k) else M.fail
  | _ => M.fail
section
variable {X : Cx} {C : List Addr}
theorem mt_appendD : MtD X C "list.append" fAppend := ⟨rAppend, mt_append, fun {H α own a xs ds vs rs st st' q ds' Q} ha hr hv hS h => by
  unfold fAppend at h
  split at h
  · obtain ⟨v, rfl, hv1⟩ := reps1 hv
    split at h
    · rename_i hl
      obtain ⟨h1, rfl⟩ := pure_inv h
      cases h1
      refine ⟨rfl, fun k => ⟨a, xs, v, rfl, rfl, ha, ?_, k _ _ (hr.append (.cons hv1 .nil)) ⟨_, rfl, .non⟩⟩⟩
      rw [hr.length]
      exact lenOk_le hl
    · cases h
  · exact nomatch (show (none : Option ((R × List D) × Sto)) = some ((q, ds'), st') from h)⟩
theorem mt_extendD : MtD X C "list.extend" fExtend := ⟨rExtend, mt_extend, fun {H α own a xs ds vs rs st st' q ds' Q} ha hr hv hS h => by
  unfold fExtend at h
  split at h
  · obtain ⟨v, rfl, hv1⟩ := reps1 hv
    obtain ⟨es, s1, e1, h1⟩ := bind_run h
    clear h
    obtain ⟨rfl, b, ys, rfl, g1, g2⟩ := asLst_ok hv1 hS e1
    split at h1
    · rename_i hl
      obtain ⟨h2, rfl⟩ := pure_inv h1
      cases h2
      refine ⟨rfl, fun k => ⟨a, b, xs, ys, rfl, rfl, ha, g1, ?_, k _ _ (hr.append g2) ⟨_, rfl, .non⟩⟩⟩
      rw [hr.length, g2.length]
      exact lenOk_le hl
    · cases h1
  · exact nomatch (show (none : Option ((R × List D) × Sto)) = some ((q, ds'), st') from h)⟩
theorem mt_popD : MtD X C "list.pop" fPop := ⟨fun x xs H Q => rPop x xs H Q ∨ rPopAt x xs H Q, MtR.or mt_pop mt_popAt, fun {H α own a xs ds vs rs st st' q ds' Q} ha hr hv hS h => by
  unfold fPop at h
  split at h
  · cases hv
    obtain ⟨d, s1, e1, h1⟩ := bind_run h
    clear h
    obtain ⟨e2, rfl⟩ := ofO_inv e1
    obtain ⟨h2, rfl⟩ := pure_inv h1
    cases h2
    rw [List.getLast?_eq_getElem?] at e2
    obtain ⟨v, g1, g2⟩ := hr.get e2
    refine ⟨rfl, fun k => .inl ⟨a, xs, v, rfl, rfl, ha, by rw [hr.length]; exact g1, k _ _ hr.dropLast ⟨_, rfl, g2⟩⟩⟩
  · rename_i i
    obtain ⟨v, rfl, hv1⟩ := reps1 hv
    cases hv1
    split at h
    · rename_i hc
      rw [Bool.and_eq_true, decide_eq_true_eq, decide_eq_true_eq] at hc
      obtain ⟨j, s1, e1, h1⟩ := bind_run h
      obtain ⟨d, s2, e2, h2⟩ := bind_run h1
      clear h h1
      obtain ⟨e3, rfl⟩ := ofO_inv e1
      obtain ⟨e4, rfl⟩ := ofO_inv e2
      obtain ⟨h3, rfl⟩ := pure_inv h2
      cases h3
      obtain ⟨v, g1, g2⟩ := hr.get e4
      refine ⟨rfl, fun k => .inr ⟨a, xs, i, j, v, rfl, rfl, ha, hc.1, hc.2, by rw [hr.length]; exact e3, g1, k _ _ (hr.erase j) ⟨_, rfl, g2⟩⟩⟩
    · cases h
  · exact nomatch (show (none : Option ((R × List D) × Sto)) = some ((q, ds'), st') from h)⟩
variable {o e : Expr} {es : List Expr} {ms : Env → M (List R)} {mo : Env → M R} {name : Str} {apos cpos pos p : Pos} {id : String} {f : List D → List R → M (R × List D)} {i : Nat} {x : Str}
/-- the list of its own is read, then the arguments -/
theorem own_turn {G : Kx} {D' : Ends} {σ : St} {H : Hp} {T : String} {r : V → List V → Hp → VK → Prop}
    (hT : ∀ {a : Addr} {xs : List V} {H : Hp}, H a = some (.lst xs) → tyV G.K T (.ref a) H)
    (hr : ∀ {H : Hp} {α : List Addr} {own : Addr → Prop} {a : Addr} {xs : List V} {ds : List D} {vs : List V} {rs : List R} {st st' : Sto} {q : R} {ds' : List D} {Q : VK},
      H a = some (.lst xs) → RepL G H α xs ds → RepRs G H α All own vs rs → RepS G H α st → f ds rs st = some ((q, ds'), st') →
      st' = st ∧ ((∀ v xs', RepL G H α xs' ds' → (∃ d, q = .v d ∧ Rep G H α v d) → Q v (upd H a (.lst xs'))) → r (.ref a) vs H Q))
    (h : tS G (sOwn i (fun ds rs => f ds rs >>= fun p => pure p.2) ms) D' σ H) : tBM G.K T r (tVar i) (tA G ms) σ H fun _ H1 => D'.nx σ H1 := by
  obtain ⟨α, env, s0, fl, st', hE, hS, hm, k⟩ := h
  obtain ⟨rs, s1, e1, hm1⟩ := bind_run hm
  obtain ⟨ds, s2, e2, hm2⟩ := bind_run hm1
  obtain ⟨ds', s3, e3, hm3⟩ := bind_run hm2
  obtain ⟨⟨q, ds2⟩, s4, e4, hm4⟩ := bind_run e3
  obtain ⟨rfl, rfl⟩ := pure_inv hm4
  obtain ⟨rfl, rfl⟩ := pure_inv hm3
  obtain ⟨e5, rfl⟩ := ofO_inv e2
  have e6 := ownAt_ok e5
  obtain ⟨v, g1, g2⟩ := hE.val i _ e6
  obtain ⟨a, rfl, hn, ⟨xs, ha, hx⟩, _⟩ := g2
  refine ⟨_, g1, hT ha, α, env, s0, rs, _, hE, hS, e1, fun vs α1 H1 X1 S1 R1 => ?_⟩
  have ha1 := X1.keep a _ ha hn fun z => z
  have hn1 := X1.notin ha hn fun z => z
  obtain ⟨rfl, kk⟩ := hr (Q := fun _ H1 => D'.nx σ H1) ha1 (hx.ext X1) (R1.mono (fun _ _ => trivial)) S1 e4
  refine kk fun v xs' hx' _ => ?_
  have hE1 := hE.ext X1
  obtain ⟨h1, h2⟩ := hE1.updOwn e6 g1 ha1 hn1 hx'
  have oa : Own σ env a := ⟨i, _, e6, g1⟩
  exact k α1 _ ((X1.mono (own' := Own σ env) fun _ z => z.elim).trans (Ext.upd1 (own := Own σ env) ha1 (fun _ e => nomatch e) (fun _ _ e => nomatch e) (.inr oa)) fun a h => .inl h) (S1.updOwn ha1 (fun _ e => nomatch e) (fun _ _ e => nomatch e) hn1) σ h1 fun b hb => .inl (h2 b hb)
theorem tyL {K : PySem.W.Frag} {a : Addr} {xs : List V} {H : Hp} (h : H a = some (.lst xs)) : tyV K "list" (.ref a) H := .inl ⟨rfl, xs, SqL.of h⟩
/-- x.m(args) as a statement, x a list of its own -/
theorem s_own (hm : MtD X C id f) (slot : Slot "list" name id) (hty : typeOf (.builtin id) = pure (.type "method_descriptor")) (hN : X.N[i]? = some x) (hv : Vis X.env.scope x) (ha : SimA X C (e :: es) ms) (hd : (x == ("__debug__" : Str)) = false := by decide) (hcd : (x == ("__classdict__" : Str)) = false := by decide)
    (hbase : attributeBase (.Name x p) name X.env (eval (.Name x p) X.env) = eval (.Name x p) X.env := by rfl) (hfew : ((backTo cpos (starEach (e :: es) X.env)).all (fun x => !x.1) && (backToKw cpos (keywordEach [] X.env)).all (fun x => x.1.isSome) && decide ((e :: es).length + ([] : List Keyword).length + (if ([] : List Keyword).isEmpty then 0 else 1) < 30)) = true := by rfl)
    (hline : (apos.endLine == cpos.line) = true := by rfl) (hs : starEach (e :: es) X.env = (false, eval e X.env) :: starEach es X.env := by rfl) (hplain : (backTo cpos (starEach es X.env)).any (·.1) = false := by rfl)
    (hsw : swapsWith (.Call (.Attribute (.Name x p) name apos) (e :: es) [] cpos) none pos.line X.env = pure false := by rfl) :
    SimS X C (.Expr (.Call (.Attribute (.Name x p) name apos) (e :: es) [] cpos) pos) (sOwn i (fun ds rs => f ds rs >>= fun p => pure p.2) ms) := by
  obtain ⟨r, h1, h2⟩ := hm
  exact (ps_expr (pe_bm PySem.F.plainAttrs_list slot hty h1 (pe_var hN hv hd hcd) ha hbase hfew hline hs hplain) hsw).wk fun D' σ H h => own_turn (G := gx X C) (fun h => tyL h) (fun g1 g2 g3 g4 g5 => h2 g1 g2 g3 g4 g5) h
theorem to_mut {G : Kx} {σ : St} {H : Hp} {Q : VK} {r : V → List V → Hp → VK → Prop}
    (hr : ∀ {H : Hp} {α : List Addr} {own : Addr → Prop} {a : Addr} {xs : List V} {ds : List D} {vs : List V} {rs : List R} {st st' : Sto} {q : R} {ds' : List D} {Q : VK},
      H a = some (.lst xs) → RepL G H α xs ds → RepRs G H α All own vs rs → RepS G H α st → f ds rs st = some ((q, ds'), st') →
      st' = st ∧ ((∀ v xs', RepL G H α xs' ds' → (∃ d, q = .v d ∧ Rep G H α v d) → Q v (upd H a (.lst xs'))) → r (.ref a) vs H Q))
    (h : tE G (eMut f mo ms) σ H Q) : tBM G.K "list" r (tE G mo) (tA G ms) σ H Q := by
  obtain ⟨α, env, s0, rr, st', hE, hS, hm, k⟩ := h
  obtain ⟨ro, s1, e1, hm1⟩ := bind_run hm
  obtain ⟨n, s2, e2, hm2⟩ := bind_run hm1
  obtain ⟨rs, s3, e3, hm3⟩ := bind_run hm2
  refine ⟨α, env, s0, ro, s1, hE, hS, e1, fun v α1 H1 X1 S1 R1 => ?_⟩
  obtain ⟨rfl, a, xs1, rfl, hα, ha1⟩ := lstNo_ok R1 S1 e2
  refine ⟨tyL ha1, α1, env, _, rs, s3, hE.ext X1, S1, e3, fun vs α2 H2 X2 S2 R2 => ?_⟩
  unfold inSt at hm3
  split at hm3
  · rename_i ds q1
    have q2 := stAt_ok q1
    split at hm3
    · rename_i r1 ds' s4 q3
      injection hm3 with hm3
      injection hm3 with z1 z2
      subst z1 z2
      obtain ⟨xs, h1, h2⟩ := S2.obj n _ _ q2 (X2.pre0 hα)
      obtain ⟨rfl, kk⟩ := hr (Q := Q) h1 h2 (R2.mono (fun _ _ => trivial)) S2 q3
      refine kk fun v xs' hx' ⟨d, e, hd⟩ => ?_
      subst e
      have hin : a ∈ α2 := List.mem_of_getElem? (X2.pre0 hα)
      have X3 : Ext Non α2 H2 α2 (upd H2 a (.lst xs')) := Ext.upd1 h1 (fun _ e => nomatch e) (fun _ _ e => nomatch e) (.inl hin)
      exact k v α2 _ ((X1.trans0 X2).trans0 X3) (S2.updObj q2 (X2.pre0 hα) h1 hx') (hd.ext X3)
    · cases hm3
  · cases hm3
theorem mutl (hm : MtD X C id f) (slot : Slot "list" name id) (hty : typeOf (.builtin id) = pure (.type "method_descriptor")) (ho : SimE X C o mo) (ha : SimA X C (e :: es) ms) (hbase : attributeBase o name X.env (eval o X.env) = eval o X.env := by rfl) (hfew : ((backTo cpos (starEach (e :: es) X.env)).all (fun x => !x.1) && (backToKw cpos (keywordEach [] X.env)).all (fun x => x.1.isSome) && decide ((e :: es).length + ([] : List Keyword).length + (if ([] : List Keyword).isEmpty then 0 else 1) < 30)) = true := by rfl) (hline : (apos.endLine == cpos.line) = true := by rfl) (hs : starEach (e :: es) X.env = (false, eval e X.env) :: starEach es X.env := by rfl) (hplain : (backTo cpos (starEach es X.env)).any (·.1) = false := by rfl) :
    SimE X C (.Call (.Attribute o name apos) (e :: es) [] cpos) (eMut f mo ms) := by
  obtain ⟨r, h1, h2⟩ := hm
  exact (pe_bm PySem.F.plainAttrs_list slot hty h1 ho ha hbase hfew hline hs hplain).wk fun σ H Q h => to_mut (G := gx X C) (fun g1 g2 g3 g4 g5 => h2 g1 g2 g3 g4 g5) h
theorem mutl0 (hm : MtD X C id f) (slot : Slot "list" name id) (hty : typeOf (.builtin id) = pure (.type "method_descriptor")) (ho : SimE X C o mo)
    (hbase : attributeBase o name X.env (eval o X.env) = eval o X.env := by rfl) (hline : (apos.endLine == cpos.line) = true := by rfl) :
    SimE X C (.Call (.Attribute o name apos) [] [] cpos) (eMut f mo aNil) := by
  obtain ⟨r, h1, h2⟩ := hm
  refine (pe_bm0 PySem.F.plainAttrs_list slot hty h1 ho hbase hline).wk fun σ H Q h => ?_
  obtain ⟨α, env, s0, ro, s1, hE, hS, e1, k⟩ := to_mut (G := gx X C) (fun g1 g2 g3 g4 g5 => h2 g1 g2 g3 g4 g5) h
  refine ⟨α, env, s0, ro, s1, hE, hS, e1, fun v α1 H1 X1 S1 R1 => ?_⟩
  obtain ⟨t1, α2, env2, st2, r2, s2, _, S2, hm2, k2⟩ := k v α1 H1 X1 S1 R1
  obtain ⟨rfl, rfl⟩ := pure_inv hm2
  exact ⟨t1, k2 [] α2 H1 Ext.rfl' S2 .nil⟩

/-! ### x = y.pop(), y a list of its own -/
/-- x = y.pop(args) where both are names -/
def sPop (j i : Nat) (ms : Env → M (List R)) : Env → M Fl := fun env => ms env >>= fun rs => M.ofO (ownAt i env) >>= fun ds => fPop ds rs >>= fun p => toD p.1 >>= fun d =>
  if j < env.length then pure (.nx ((env.set i (some (.l (.lst p.2)))).set j (some (.v d)))) else M.fail
theorem pop_turn {G : Kx} {D' : Ends} {σ : St} {H : Hp} {r : V → List V → Hp → VK → Prop} {j : Nat}
    (hr : ∀ {H : Hp} {α : List Addr} {own : Addr → Prop} {a : Addr} {xs : List V} {ds : List D} {vs : List V} {rs : List R} {st st' : Sto} {q : R} {ds' : List D} {Q : VK},
      H a = some (.lst xs) → RepL G H α xs ds → RepRs G H α All own vs rs → RepS G H α st → fPop ds rs st = some ((q, ds'), st') →
      st' = st ∧ ((∀ v xs', RepL G H α xs' ds' → (∃ d, q = .v d ∧ Rep G H α v d) → Q v (upd H a (.lst xs'))) → r (.ref a) vs H Q))
    (h : tS G (sPop j i ms) D' σ H) : tBM G.K "list" r (tVar i) (tA G ms) σ H fun v H1 => D'.nx (σ.set j (some v)) H1 := by
  obtain ⟨α, env, s0, fl, st', hE, hS, hm, k⟩ := h
  obtain ⟨rs, s1, e1, hm1⟩ := bind_run hm
  obtain ⟨ds, s2, e2, hm2⟩ := bind_run hm1
  obtain ⟨⟨q, ds'⟩, s3, e3, hm3⟩ := bind_run hm2
  obtain ⟨d, s4, e4, hm4⟩ := bind_run hm3
  split at hm4
  · rename_i hj
    obtain ⟨rfl, rfl⟩ := pure_inv hm4
    obtain ⟨e5, rfl⟩ := ofO_inv e2
    have e6 := ownAt_ok e5
    obtain ⟨v, g1, g2⟩ := hE.val i _ e6
    obtain ⟨a, rfl, hn, ⟨xs, ha, hx⟩, _⟩ := g2
    refine ⟨_, g1, tyL ha, α, env, s0, rs, _, hE, hS, e1, fun vs α1 H1 X1 S1 R1 => ?_⟩
    have ha1 := X1.keep a _ ha hn fun z => z
    have hn1 := X1.notin ha hn fun z => z
    obtain ⟨rfl, kk⟩ := hr (Q := fun v H1 => D'.nx (σ.set j (some v)) H1) ha1 (hx.ext X1) (R1.mono (fun _ _ => trivial)) S1 e3
    refine kk fun v xs' hx' ⟨d', e7, hd⟩ => ?_
    subst e7
    obtain ⟨rfl, rfl⟩ := pure_inv e4
    have hE1 := hE.ext X1
    obtain ⟨h1, h2⟩ := hE1.updOwn e6 g1 ha1 hn1 hx'
    have oa : Own σ env a := ⟨i, _, e6, g1⟩
    have X3 : Ext (Own σ env) α1 H1 α1 (upd H1 a (.lst xs')) := Ext.upd1 ha1 (fun _ e => nomatch e) (fun _ _ e => nomatch e) (.inr oa)
    obtain ⟨h3, h4⟩ := h1.setN (i := j) (v := v) (r := .v d) (hd.ext X3) (.inl rfl) (by rw [List.length_set]; exact hj)
    refine k α1 _ ((X1.mono (own' := Own σ env) fun _ z => z.elim).trans X3 fun a h => .inl h) (S1.updOwn ha1 (fun _ e => nomatch e) (fun _ _ e => nomatch e) hn1) _ h3 fun b hb => ?_
    rcases h4 b hb with h | ⟨o, e, _⟩
    · exact .inl (h2 b h)
    · cases e
  · cases hm4
theorem s_pop0 {y : Str} {j : Nat} {py : Pos} (hN : X.N.Nodup) (hj : X.N[j]? = some y) (hy : Loc X.env.scope y) (hi : X.N[i]? = some x) (hv : Vis X.env.scope x) (hd : (x == ("__debug__" : Str)) = false := by decide) (hcd : (x == ("__classdict__" : Str)) = false := by decide)
    (hbase : attributeBase (.Name x p) "pop" X.env (eval (.Name x p) X.env) = eval (.Name x p) X.env := by rfl) (hline : (apos.endLine == cpos.line) = true := by rfl)
    (hs : swapsWith (.Call (.Attribute (.Name x p) "pop" apos) [] [] cpos) (some (.Name y py)) pos.line X.env = pure false := by rfl) (hf : X.fn y = true ∨ X.env.scope.names.lookup y = some .local := by first | exact .inl rfl | exact .inr rfl | assumption) :
    SimS X C (.Assign [.Name y py] (.Call (.Attribute (.Name x p) "pop" apos) [] [] cpos) pos) (sPop j i aNil) := by
  obtain ⟨r, h1, h2⟩ := mt_popD (X := X) (C := C)
  refine (ps_set hN hj hy (pe_bm0 PySem.F.plainAttrs_list PySem.F.slot_list_pop PySem.F.type_list_pop h1 (pe_var hi hv hd hcd) hbase hline) hs hf).wk fun D' σ H h => ?_
  obtain ⟨v, g1, t1, α, env, s0, rs, s1, hE, hS, e1, k⟩ := pop_turn (G := gx X C) (r := r) (fun g1 g2 g3 g4 g5 => h2 g1 g2 g3 g4 g5) h
  obtain ⟨rfl, rfl⟩ := pure_inv e1
  exact ⟨v, g1, t1, k [] α H Ext.rfl' hS .nil⟩
end
end Mi
/-! Mi: loops, what is walked, comprehensions. -/
namespace Mi
open PySem PySem.Spec PyProof.Rows L2

/-- what is walked: its items; what must hold of the store at every turn (a list of the store stays as it is) -/
structure Itm where
  ds : List D
  ck : Sto → Prop
structure ItOk (G : Kx) (J : It) (it : Itm) (P : List Addr → Hp → Prop) (W : Addr → Prop) : Prop where
  go : ∀ α i H, P α H → i < it.ds.length → J.go i H
  stop : ∀ α i H, P α H → it.ds.length ≤ i → J.stop i H
  yld : ∀ α i H x H', P α H → i < it.ds.length → J.yld i H x H' → (H' = H ∨ ∃ T u, H T = none ∧ H' = upd H T u) ∧ ∃ d, it.ds[i]? = some d ∧ Rep G H' α x d
  keep : ∀ own α H α' H' st, (∀ a, W a → ¬ own a) → Ext own α H α' H' → P α H → RepS G H' α' st → it.ck st → P α' H'
def tI (G : Kx) (m : Env → M Itm) : TI := fun σ H R => ∃ α env st it st', RepE G H α σ env ∧ RepS G H α st ∧ m env st = some (it, st') ∧
  ∀ α' H' J P W, Ext Non α H α' H' → RepS G H' α' st' → ItOk G J it P W → P α' H' → (∀ a, W a → H' a ≠ none ∧ ¬ Own σ env a) → R J H'
theorem PI.wk {X : Cx} {tg e : Expr} {t t' : TI} (h : PI X tg e t) (w : ∀ σ H R, t' σ H R → t σ H R) : PI X tg e t' := ⟨fun pins s σ H R I h' => h.run pins s σ H R I (w _ _ _ h')⟩
abbrev SimI (X : Cx) (C : List Addr) (tg e : Expr) (m : Env → M Itm) : Prop := PI X tg e (tI (gx X C) m)
/-- one turn of what the walk yields -/
theorem Ext.yld {own : Addr → Prop} {α : List Addr} {H H' : Hp} (h : H' = H ∨ ∃ T u, H T = none ∧ H' = upd H T u) : Ext own α H α H' := by
  rcases h with rfl | ⟨T, u, h1, rfl⟩
  · exact Ext.rfl'
  · exact Ext.new h1
theorem RepS.yld {G : Kx} {α : List Addr} {H H' : Hp} {st : Sto} (hS : RepS G H α st) (h : H' = H ∨ ∃ T u, H T = none ∧ H' = upd H T u) : RepS G H' α st := by
  rcases h with rfl | ⟨T, u, h1, rfl⟩
  · exact hS
  · exact hS.new h1

/-! ### for -/
open Classical in
noncomputable def forL (ck : Sto → Prop) (g : Tg) (b : Env → M Fl) : List D → Env → M Fl
  | [], env => fun st => if ck st then some (.nx env, st) else none
  | d :: ds, env => fun st => if ck st then (g d env >>= fun e => b e >>= fun fl => match fl with
      | .nx e' => forL ck g b ds e'
      | .ct e' => forL ck g b ds e'
      | .bk e' => pure (.nx e')
      | .rt r => pure (.rt r)) st else none
/-- a list of its own is locked while it is walked -/
def freeze1 (i : Nat) (env : Env) : Env := match env[i]? with
  | some (some (.l o)) => env.set i (some (.b o))
  | _ => env
def freeze : List Nat → Env → Env
  | [], env => env
  | i :: is, env => freeze is (freeze1 i env)
noncomputable def sFor (fz : List Nat) (mi : Env → M Itm) (g : Tg) (b : Env → M Fl) : Env → M Fl := fun env => mi (freeze fz env) >>= fun it => forL it.ck g b it.ds (freeze fz env)
section
variable {G : Kx} {H : Hp} {α : List Addr} {σ : St} {env : Env}
theorem freeze1_ok {i : Nat} (hE : RepE G H α σ env) : RepE G H α σ (freeze1 i env) ∧ ∀ a, Own σ (freeze1 i env) a → Own σ env a := by
  unfold freeze1
  split
  · rename_i o q
    have hlt : i < env.length := (List.getElem?_eq_some_iff.mp q).1
    have own : ∀ a, Own σ (env.set i (some (.b o))) a → Own σ env a ∧ ∃ j, j ≠ i ∧ ∃ o, env[j]? = some (some (.l o)) ∧ σ[j]? = some (some (.ref a)) := fun a ⟨j, o', h1, h2⟩ => by
      by_cases e : i = j
      · subst e
        rw [List.getElem?_set_self hlt] at h1
        cases h1
      · rw [List.getElem?_set_ne e] at h1
        exact ⟨⟨j, o', h1, h2⟩, j, fun z => e z.symm, o', h1, h2⟩
    refine ⟨⟨by rw [List.length_set]; exact hE.len, fun j r hj => ?_, fun j l a o1 o2 h1 h2 h3 h4 => ?_⟩, fun a h => (own a h).1⟩
    · by_cases e : i = j
      · subst e
        rw [List.getElem?_set_self hlt] at hj
        cases hj
        obtain ⟨v, g1, g2⟩ := hE.val i _ q
        obtain ⟨a, rfl, hn, ro, m⟩ := g2
        refine ⟨_, g1, a, rfl, ro, fun _ => ⟨hn, fun z => ?_⟩⟩
        obtain ⟨_, j, ne, o', h1, h2⟩ := own a z
        exact ne (hE.sep j i a _ _ h1 q h2 g1)
      · rw [List.getElem?_set_ne e] at hj
        obtain ⟨v, g1, g2⟩ := hE.val j r hj
        exact ⟨v, g1, g2.own fun a _ _ _ _ z => (own a z).1⟩
    · have conv : ∀ {j : Nat} {o' : O}, (env.set i (some (.b o)))[j]? = some (some (.l o')) → env[j]? = some (some (.l o')) := fun {j o'} h => by
        by_cases e : i = j
        · subst e; rw [List.getElem?_set_self hlt] at h; cases h
        · rw [List.getElem?_set_ne e] at h; exact h
      exact hE.sep j l a _ _ (conv h1) (conv h2) h3 h4
  · exact ⟨hE, fun _ h => h⟩
theorem freeze_ok : ∀ {fz : List Nat} {env : Env}, RepE G H α σ env → RepE G H α σ (freeze fz env) ∧ ∀ a, Own σ (freeze fz env) a → Own σ env a
  | [], _, hE => ⟨hE, fun _ h => h⟩
  | i :: is, env, hE => by
    obtain ⟨h1, h2⟩ := freeze1_ok (i := i) hE
    obtain ⟨h3, h4⟩ := freeze_ok (fz := is) h1
    exact ⟨h3, fun a h => h2 a (h4 a h)⟩
end
section
variable {X : Cx} {C : List Addr} {tg iter : Expr} {body : List Stmt} {mi : Env → M Itm} {g : Tg} {b : Env → M Fl} {pos : Pos} {is : List Nat}
theorem for_of {G : Kx} {D' : Ends} {σ : St} {H : Hp} {fz : List Nat} (h : tS G (sFor fz mi g b) D' σ H) : tFor (tI G mi) (tG G is g) (tS G b) D' σ H := by
  obtain ⟨α, env0, s0, fl, st', hE0, hS, hm, k⟩ := h
  obtain ⟨hE, hO⟩ := freeze_ok (fz := fz) hE0
  generalize hz : freeze fz env0 = env at *
  obtain ⟨it, s1, e1, hm1⟩ := bind_run (show (mi env >>= fun it => forL it.ck g b it.ds env) s0 = some (fl, st') by rw [← hz]; exact hm)
  refine ⟨α, env, s0, it, s1, hE, hS, e1, fun α1 H1 J P W X1 S1 K1 P1 W1 => ?_⟩
  have W2 : ∀ a, W a → H1 a ≠ none ∧ ¬ Own σ env a := W1
  -- the word of the loop
  refine ⟨fun i m σ2 H2 => ∃ α2 env2 st2, m = it.ds.length - i ∧ i ≤ it.ds.length ∧ RepE G H2 α2 σ2 env2 ∧ RepS G H2 α2 st2 ∧ Ext (Own σ env) α H α2 H2 ∧ (∀ a, H1 a ≠ none → H2 a ≠ none) ∧
      (∀ a, Own σ2 env2 a → Own σ env a ∨ H a = none) ∧ (∀ a, W a → H2 a ≠ none ∧ ¬ Own σ2 env2 a) ∧ (it.ck st2 → P α2 H2) ∧ forL it.ck g b (it.ds.drop i) env2 st2 = some (fl, st'),
    ⟨it.ds.length, α1, env, s1, by simp, Nat.zero_le _, hE.ext X1, S1, X1.mono fun _ z => z.elim, fun _ h => h, fun _ h => .inl h, W2, fun _ => P1, by simpa using hm1⟩, ?_⟩
  rintro i m σ2 H2 ⟨α2, env2, st2, rfl, hi, E2, S2, X2, T2, O2, W3, P2, r2⟩
  by_cases hlt : i < it.ds.length
  · rw [List.drop_eq_getElem_cons hlt] at r2
    unfold forL at r2
    split at r2
    · rename_i hck
      obtain ⟨e3, s3, g3, r3⟩ := bind_run r2
      obtain ⟨f4, s4, g4, r4⟩ := bind_run r3
      have P2' := P2 hck
      refine .inr ⟨K1.go α2 i H2 P2' hlt, fun σ' H' => ∃ α3 env3 st3, RepE G H' α3 σ' env3 ∧ RepS G H' α3 st3 ∧ Ext (Own σ env) α H α3 H' ∧ (∀ a, H1 a ≠ none → H' a ≠ none) ∧
        (∀ a, Own σ' env3 a → Own σ env a ∨ H a = none) ∧ (∀ a, W a → H' a ≠ none ∧ ¬ Own σ' env3 a) ∧ (it.ck st3 → P α3 H') ∧ forL it.ck g b (it.ds.drop (i + 1)) env3 st3 = some (fl, st'), ?_, fun x H3 y3 => ?_⟩
      · rintro σ' H' ⟨α3, env3, st3, E3, S3, X3, T3, O3, W4, P3, r5⟩
        exact ⟨it.ds.length - (i + 1), by omega, α3, env3, st3, rfl, hlt, E3, S3, X3, T3, O3, W4, P3, r5⟩
      · obtain ⟨hy, d, hd, rd⟩ := K1.yld α2 i H2 x H3 P2' hlt y3
        rw [List.getElem?_eq_getElem hlt] at hd
        cases hd
        have E3 := E2.ext (Ext.yld (own := Non) hy)
        have S3 := S2.yld (G := G) hy
        refine ⟨α2, env2, _, st2, e3, s3, E3, S3, rd, g3, fun σ4 α4 H4 X4 S4 E4 O4 _ => ⟨α4, e3, s3, f4, s4, E4, S4, g4, fun α5 H5 X5 S5 => ?_⟩⟩
        have X24 : Ext (Own σ2 env2) α2 H2 α4 H4 := (Ext.yld hy).trans (X4.mono (own' := Own σ2 env2) fun _ z => z.elim) fun a h => .inl h
        have dom3 : ∀ a, H3 a = none → H2 a = none := (Ext.yld (own := Non) (α := α2) hy).dom
        have O4' : ∀ a, Own σ4 e3 a → Own σ2 env2 a ∨ H2 a = none := fun a ha => (O4 a ha).imp id (dom3 a)
        have X25 : Ext (Own σ2 env2) α2 H2 α5 H5 := X24.trans X5 O4'
        have X5' : Ext (Own σ env) α H α5 H5 := X2.trans X25 O2
        have ownW : ∀ σ6 env6, (∀ a, Own σ6 env6 a → Own σ4 e3 a ∨ H4 a = none) → ∀ a, W a → ¬ Own σ6 env6 a := fun σ6 env6 h a hw z => by
          rcases h a z with z | z
          · rcases O4' a z with z | z
            · exact (W3 a hw).2 z
            · exact (W3 a hw).1 z
          · exact (W3 a hw).1 (X24.dom a z)
        have own0 : ∀ σ6 env6, (∀ a, Own σ6 env6 a → Own σ4 e3 a ∨ H4 a = none) → ∀ a, Own σ6 env6 a → Own σ env a ∨ H a = none := fun σ6 env6 h a z => by
          rcases h a z with z | z
          · rcases O4' a z with z | z
            · exact O2 a z
            · exact .inr (X2.dom a z)
          · exact .inr (X2.dom a (X24.dom a z))
        have nx : ∀ env6, forL it.ck g b (it.ds.drop (i + 1)) env6 s4 = some (fl, st') → ∀ σ6, RepE G H5 α5 σ6 env6 → (∀ a, Own σ6 env6 a → Own σ4 e3 a ∨ H4 a = none) →
            ∃ α3 env3 st3, RepE G H5 α3 σ6 env3 ∧ RepS G H5 α3 st3 ∧ Ext (Own σ env) α H α3 H5 ∧ (∀ a, H1 a ≠ none → H5 a ≠ none) ∧ (∀ a, Own σ6 env3 a → Own σ env a ∨ H a = none) ∧ (∀ a, W a → H5 a ≠ none ∧ ¬ Own σ6 env3 a) ∧ (it.ck st3 → P α3 H5) ∧
              forL it.ck g b (it.ds.drop (i + 1)) env3 st3 = some (fl, st') := fun env6 r6 σ6 E6 O6 =>
          ⟨α5, env6, s4, E6, S5, X5', fun a h z => T2 a h (X25.dom a z), own0 σ6 env6 O6, fun a hw => ⟨fun z => (W3 a hw).1 (X25.dom a z), ownW σ6 env6 O6 a hw⟩,
            fun hc => K1.keep _ α2 H2 α5 H5 s4 (fun a hw => (W3 a hw).2) X25 P2' S5 hc, r6⟩
        cases f4 with
        | nx e6 => exact fun σ6 E6 O6 => nx e6 r4 σ6 E6 O6
        | ct e6 => exact fun σ6 E6 O6 => nx e6 r4 σ6 E6 O6
        | bk e6 =>
          obtain ⟨rfl, rfl⟩ := pure_inv r4
          intro σ6 E6 O6
          exact k α5 H5 (X5'.mono hO) S5 σ6 E6 fun a ha => (own0 σ6 e6 O6 a ha).imp (hO a) id
        | rt r =>
          obtain ⟨rfl, rfl⟩ := pure_inv r4
          intro v hv
          refine k α5 H5 (X5'.mono hO) S5 v (hv.mono fun a ha => ?_)
          rcases ha with ha | ha
          · exact .inl (X2.dom a (X24.dom a ha))
          · rcases O4' a ha with z | z
            · exact ((O2 a z).imp (hO a) id).symm
            · exact .inl (X2.dom a z)
    · cases r2
  · have e : it.ds.drop i = [] := List.drop_eq_nil_of_le (by omega)
    rw [e] at r2
    unfold forL at r2
    split at r2
    · rename_i hck
      injection r2 with r2
      injection r2 with z1 z2
      subst z1 z2
      exact .inl ⟨K1.stop α2 i H2 (P2 hck) (by omega), k α2 H2 (X2.mono hO) S2 σ2 E2 fun a ha => (O2 a ha).imp (hO a) id⟩
    · cases r2
theorem s_for {fz : List Nat} (hp : PassesOwn (model X.prog X.w) X.A X.env X.xe) (hc : X.calm = true) (hi : SimI X C tg iter mi) (hg : SimG X C tg is g) (hb : SimSs X C body b)
    (hs : ∀ x, foldedSetIterable iter X.env x = pure x := by intro _; rfl) : SimS X C (.For tg iter body [] pos) (sFor fz mi g b) := (ps_for hp hc hi hg hb hs).wk fun _ _ _ h => for_of h

/-! ### while -/
def whileN : Nat → (Env → M Bool) → (Env → M Fl) → Env → M Fl
  | 0, _, _, _ => M.fail
  | n + 1, t, b, env => t env >>= fun c => if c = true then (b env >>= fun fl => match fl with
      | .nx e => whileN n t b e
      | .ct e => whileN n t b e
      | .bk e => pure (.nx e)
      | .rt r => pure (.rt r)) else pure (.nx env)
open Classical in
noncomputable def sWhile (t : Env → M Bool) (b : Env → M Fl) : Env → M Fl := fun env st => if h : ∃ r, ∃ n, whileN n t b env st = some r then some (Classical.choose h) else none
theorem whileN_mono {t : Env → M Bool} {b : Env → M Fl} : ∀ {n m : Nat} {env : Env} {st : Sto} {r : Fl × Sto}, n ≤ m → whileN n t b env st = some r → whileN m t b env st = some r
  | 0, _, _, _, _, _, h => nomatch h
  | n + 1, 0, _, _, _, hl, _ => absurd hl (by omega)
  | n + 1, m + 1, env, st, r, hl, h => by
    obtain ⟨c, s1, e1, h1⟩ := bind_run h
    show (t env >>= _) st = some r
    rw [bind_some e1]
    split at h1
    · rename_i hc
      rw [if_pos hc]
      obtain ⟨fl, s2, e2, h2⟩ := bind_run h1
      rw [bind_some e2]
      cases fl with
      | nx e => exact whileN_mono (by omega) h2
      | ct e => exact whileN_mono (by omega) h2
      | bk e => exact h2
      | rt q => exact h2
    · rename_i hc
      rw [if_neg hc]
      exact h1
theorem while_some {n : Nat} {t : Env → M Bool} {b : Env → M Fl} {env : Env} {st : Sto} {r : Fl × Sto} (h : whileN n t b env st = some r) : sWhile t b env st = some r := by
  have hx : ∃ r, ∃ n, whileN n t b env st = some r := ⟨r, n, h⟩
  unfold sWhile
  rw [dif_pos hx]
  obtain ⟨m, hm⟩ := Classical.choose_spec hx
  have h1 := whileN_mono (Nat.le_max_left n m) h
  have h2 := whileN_mono (Nat.le_max_right n m) hm
  rw [h1] at h2
  exact h2.symm
theorem while_inv {t : Env → M Bool} {b : Env → M Fl} {env : Env} {st : Sto} {r : Fl × Sto} (h : sWhile t b env st = some r) : ∃ n, whileN n t b env st = some r := by
  unfold sWhile at h
  split at h
  · rename_i hx
    obtain ⟨m, hm⟩ := Classical.choose_spec hx
    rw [h] at hm
    exact ⟨m, hm⟩
  · cases h
theorem while_of {G : Kx} {D' : Ends} {σ : St} {H : Hp} {t : Env → M Bool} (h : tS G (sWhile t b) D' σ H) : tWhile (tT G t) (tS G b) D' σ H := by
  obtain ⟨α, env, s0, fl, st', hE, hS, hm, k⟩ := h
  obtain ⟨n, hn⟩ := while_inv hm
  refine ⟨fun m σ2 H2 => ∃ α2 env2 st2, RepE G H2 α2 σ2 env2 ∧ RepS G H2 α2 st2 ∧ Ext (Own σ env) α H α2 H2 ∧ (∀ a, Own σ2 env2 a → Own σ env a ∨ H a = none) ∧ whileN m t b env2 st2 = some (fl, st'),
    ⟨n, α, env, s0, hE, hS, Ext.rfl', fun _ h => .inl h, hn⟩, ?_⟩
  rintro m σ2 H2 ⟨α2, env2, st2, E2, S2, X2, O2, r2⟩
  cases m with
  | zero => exact nomatch (show (none : Option (Fl × Sto)) = some (fl, st') from r2)
  | succ m =>
    obtain ⟨c, s3, e3, r3⟩ := bind_run r2
    refine ⟨α2, env2, st2, c, s3, E2, S2, e3, fun α3 H3 X3 S3 => ?_⟩
    have X3' : Ext (Own σ2 env2) α2 H2 α3 H3 := X3.mono fun _ z => z.elim
    dsimp only
    split
    · rename_i hc
      rw [if_pos hc] at r3
      obtain ⟨f4, s4, e4, r4⟩ := bind_run r3
      refine ⟨fun σ' H' => ∃ α5 env5 st5, RepE G H' α5 σ' env5 ∧ RepS G H' α5 st5 ∧ Ext (Own σ env) α H α5 H' ∧ (∀ a, Own σ' env5 a → Own σ env a ∨ H a = none) ∧ whileN m t b env5 st5 = some (fl, st'),
        fun σ' H' ⟨α5, env5, st5, h⟩ => ⟨m, Nat.lt_succ_self m, α5, env5, st5, h⟩, α3, env2, s3, f4, s4, E2.ext X3, S3, e4, fun α5 H5 X5 S5 => ?_⟩
      have X25 : Ext (Own σ2 env2) α2 H2 α5 H5 := X3'.trans X5 fun a h => .inl h
      have X5' : Ext (Own σ env) α H α5 H5 := X2.trans X25 O2
      have own0 : ∀ σ6 env6, (∀ a, Own σ6 env6 a → Own σ2 env2 a ∨ H3 a = none) → ∀ a, Own σ6 env6 a → Own σ env a ∨ H a = none := fun σ6 env6 h a z => by
        rcases h a z with z | z
        · exact O2 a z
        · exact .inr (X2.dom a (X3.dom a z))
      cases f4 with
      | nx e6 => exact fun σ6 E6 O6 => ⟨α5, e6, s4, E6, S5, X5', own0 σ6 e6 O6, r4⟩
      | ct e6 => exact fun σ6 E6 O6 => ⟨α5, e6, s4, E6, S5, X5', own0 σ6 e6 O6, r4⟩
      | bk e6 =>
        obtain ⟨rfl, rfl⟩ := pure_inv r4
        exact fun σ6 E6 O6 => k α5 H5 X5' S5 σ6 E6 (own0 σ6 e6 O6)
      | rt r =>
        obtain ⟨rfl, rfl⟩ := pure_inv r4
        intro v hv
        refine k α5 H5 X5' S5 v (hv.mono fun a ha => ?_)
        rcases ha with ha | ha
        · exact .inl (X2.dom a (X3.dom a ha))
        · exact (O2 a ha).symm
    · rename_i hc
      rw [if_neg hc] at r3
      obtain ⟨rfl, rfl⟩ := pure_inv r3
      exact k α3 H3 (X2.trans X3' O2) S3 σ2 (E2.ext X3) fun a ha => O2 a ha
theorem s_while {c : Expr} {t : Env → M Bool} (hp : PassesOwn (model X.prog X.w) X.A X.env X.xe) (hc : SimT X C c t) (hb : SimSs X C body b) : SimS X C (.While c body [] pos) (sWhile t b) := (ps_while hp hc hb).wk fun _ _ _ h => while_of h
end
end Mi
/-! Mi: what is walked: lists, tuples, ranges, enumerate, zip. -/
namespace Mi
open PySem PySem.Spec PyProof.Rows L2

/-! ### lists and tuples alike: b tells a list -/
def SqK (b : Bool) (K : PySem.W.Frag) (H : Hp) (a : Addr) (xs : List V) : Prop := cond b (SqL K H a xs) (SqT K H a xs)
def ItK (b : Bool) (h : Heap) (it a : Addr) (i : Nat) : Prop := cond b (h.IsListIter it a i) (h.IsTupleIter it a i)
def IsK (b : Bool) (h : Heap) (a : Addr) (its : Array Value) : Prop := cond b (h.IsList a its) (h.IsTuple a its)
def itObj (b : Bool) (a : Addr) : Obj := { cls := .type (cond b "list_iterator" "tuple_iterator"), data := .fields #[.ref a, .int 0 0] }
section
variable {X : Cx} {pins : List (Addr × Obj)} {σ : St} {H : Hp} {s : Shared} {a it : Addr} {xs ys : List V} {b : Bool}
theorem sqK_is (I : Inv X pins σ H s) (h : SqK b X.K H a xs) : ∃ its : List Value, Vals xs its ∧ IsK b s.heap a its.toArray ∧ a < s.heap.objs.size := by
  cases b with
  | true =>
    obtain ⟨its, rv, p, _⟩ := I.list h
    exact ⟨its, rv, p.isList, p.lt⟩
  | false =>
    obtain ⟨its, rv, p, _⟩ := I.tuple h
    exact ⟨its, rv, p, p.lt⟩
theorem sqK_inj (I : Inv X pins σ H s) (h : SqK b X.K H a xs) (h' : SqK b X.K H a ys) : xs = ys := by
  cases b with
  | true => exact I.list_inj h h'
  | false => exact I.tuple_inj h h'
theorem begins_K (b : Bool) (a : Addr) (its : Array Value) : Begins (.ref a) (itObj b a) fun h => IsK b h a its := by
  cases b with
  | true => exact begins_list a its
  | false => exact begins_tuple a its
theorem draws_K {prog : Program} {w : World} {A : Around} (hh : A.handled = none) (b : Bool) (it a : Addr) (hne : a ≠ it) (its : Array Value) :
    Draws prog w A it [it, a] its.size (fun i v => its[i]? = some v) (fun i h => ItK b h it a i ∧ IsK b h a its) := by
  cases b with
  | true => exact Draws.list hh it a hne its
  | false => exact Draws.tuple hh it a hne its
theorem ItK.obj {h : Heap} {i : Nat} (x : ItK b h it a i) : ∃ o, h.get? it = some o ∧ ∀ v, o.data ≠ .cell v := by
  cases b with
  | true => obtain ⟨o, e, _, d⟩ := x; exact ⟨o, e, fun v z => by rw [d] at z; cases z⟩
  | false => obtain ⟨o, e, _, d⟩ := x; exact ⟨o, e, fun v z => by rw [d] at z; cases z⟩
theorem ItK.move {h h' : Heap} {i : Nat} (x : ItK b h it a i) (k : ∀ o, h.get? it = some o → h'.get? it = some o) : ItK b h' it a i := by
  cases b with
  | true => obtain ⟨o, e, c, d⟩ := x; exact ⟨o, k o e, c, d⟩
  | false => obtain ⟨o, e, c, d⟩ := x; exact ⟨o, k o e, c, d⟩
theorem itK_new {h : Heap} (e : h.get? it = some (itObj b a)) : ItK b h it a 0 := by
  cases b with
  | true => exact ⟨_, e, rfl, rfl⟩
  | false => exact ⟨_, e, rfl, rfl⟩
end

/-! ### for x in a list or a tuple -/
def iSeq (K : PySem.W.Frag) (tl : TE) : TI := fun σ H R => tl σ H fun x H1 => ∃ a, x = .ref a ∧ (((∃ xs, SqL K H1 a xs) ∧ R (Itl K a) H1) ∨ ((∃ xs, SqT K H1 a xs) ∧ R (Itt K a) H1))
theorem pi_seq {X : Cx} {tg l : Expr} {tl : TE} (hl : PE X l tl) : PI X tg l (iSeq X.K tl) := by
  (refine ⟨fun pins s σ H R I h => ?_⟩); refine thn (hl.run pins s σ H _ I h) fun v s1 ⟨x, H1, I1, r1, a, e, q⟩ => ?_
  subst e
  cases r1
  have new : ∀ c ∈ [s1.heap.objs.size], FpOk X pins H1 c := fun c hc => by
    have e : c = s1.heap.objs.size := by simpa using hc
    (subst e); exact I1.fpOk (Nat.le_refl _) (I1.hok.fresh (Nat.le_refl _))
  rcases q with ⟨⟨xs, hq⟩, q⟩ | ⟨⟨xs, hq⟩, q⟩
  · obtain ⟨its, rv, p, hz⟩ := I1.list hq
    exact wpAny_pyIter_list p.isList ⟨s1.heap.objs.size, [s1.heap.objs.size], _, _, H1, rfl, I1.kept (t' := s1.toks) fun b o e => Heap.get?_push_of_some _ e, turn_list a _, ⟨_, Heap.get?_push_size _ rfl, rfl, rfl⟩, new, q⟩
  · obtain ⟨its, rv, p, hz⟩ := I1.tuple hq
    exact wpAny_pyIter_tuple (show s1.heap.IsTuple a its.toArray from p) ⟨s1.heap.objs.size, [s1.heap.objs.size], _, _, H1, rfl, I1.kept (t' := s1.toks) fun b o e => Heap.get?_push_of_some _ e, turn_tuple a _, ⟨_, Heap.get?_push_size _ rfl, rfl, rfl⟩, new, q⟩

/-! ### enumerate -/
def IteK (b : Bool) (K : PySem.W.Frag) (a : Addr) (n : Nat) : It :=
  ⟨fun i H => i < n ∧ ∃ xs, SqK b K H a xs ∧ xs.length = n, fun i H v H' => ∃ T x, v = .ref T ∧ H T = none ∧ H' = upd H T (.tup [.int (i : Nat), x]) ∧ ∀ xs, SqK b K H a xs → xs[i]? = some x, fun i H => n ≤ i ∧ ∃ xs, SqK b K H a xs ∧ xs.length = n⟩
theorem tupOk {X : Cx} {pins : List (Addr × Obj)} {σ : St} {H : Hp} {s : Shared} {h' : Heap} {tk : Nat} {ch : List Addr} {T : Addr} {xs : List V} {us : Array Value} (I : Inv X pins σ H s) (hf : ∀ b ∈ ch, FpOk X pins H b)
    (k : ∀ b o, b ∉ ch → s.heap.get? b = some o → h'.get? b = some o) (hT : s.heap.objs.size ≤ T) (ht : h'.IsTuple T us) (hv : Vals xs us.toList) (hl : xs.length ≤ sizeLine) :
    Inv X pins σ (upd H T (.tup xs)) { s with heap := h', toks := tk } :=
  I.turnedNew k hf hT ⟨hl, us.toList, hv, by
    have e : us.toList.toArray = us := by simp
    rw [e]
    exact ht⟩
theorem turn_enumK {P : Program} {w : World} {K : PySem.W.Frag} {elts : List Expr} {kk : Nat} {tpos : Pos} (b : Bool) (a e it : Addr) (n : Nat) :
    Turn P w K (.Tuple elts kk tpos) (IteK b K a n) [e, it] e (fun i h => (∃ old, IsEnum h e it (0 + ((i : Nat) : Int)) old) ∧ ItK b h it a i ∧ e ≠ it ∧ a ≠ it ∧ e ≠ a ∧ i ≤ n) where
  mem := by simp
  obj := fun i h st c hc => by
    obtain ⟨⟨old, he⟩, hi, _⟩ := st
    rcases (show c = e ∨ c = it by simpa using hc) with z | z
    · rw [z]; exact ⟨_, he, fun v q => nomatch q⟩
    · rw [z]; exact hi.obj
  keep := fun i h h' st k => let ⟨⟨old, he⟩, hi, r⟩ := st; ⟨⟨old, k e (by simp) _ he⟩, hi.move fun o q => k it (by simp) o q, r⟩
  item := by
    (intro X hP hw hK hc i pins s σ H E I hf st hg); subst hP hw hK
    obtain ⟨he, hit, n1, n2, n3, hin⟩ := st
    obtain ⟨hlt, xs, hq, hn⟩ := hg
    obtain ⟨its, rv, p, hz⟩ := sqK_is I hq
    have hsz : its.toArray.size = n := by simp [← rv.length, hn]
    have Gs := GoesN.enumFrom (prog := X.prog) (w := X.w) (A := X.A) (elts := elts) (x1 := kk) (pos := tpos) 0 (draws_K (A := X.A.in1) (I.ok.hd hc) b it a n2 its.toArray) e n1 (by simp [n1, n3]) (by simp)
    refine thn (Gs.goes i s (fun v s2 => ∃ x H', Inv X pins σ H' s2 ∧ RelV x v ∧ (IteK b X.K a n).yld i H x H' ∧ ((∃ old, IsEnum s2.heap e it (0 + ((i + 1 : Nat) : Int)) old) ∧ ItK b s2.heap it a (i + 1) ∧ e ≠ it ∧ a ≠ it ∧ e ≠ a ∧ i + 1 ≤ n) ∧ ∀ c ∈ [e, it], H' c = none) E (by rw [hsz]; exact hlt) ⟨he, hit, p⟩ fun v h' tk Y st' hk htk => ?_) fun _ _ h => h
    obtain ⟨T, t, u, rfl, hT, hu, hTup⟩ := Y
    obtain ⟨he', hit', _⟩ := st'
    (have hu' : its[i]? = some u := by simpa using hu); have hxi : i < xs.length := by rw [hn]; exact hlt
    obtain ⟨u2, g1, g2⟩ := rv.get (List.getElem?_eq_getElem hxi)
    rw [hu'] at g1
    cases g1
    refine ⟨.ref T, _, tupOk (xs := [.int (i : Nat), xs[i]]) I hf hk hT hTup (.cons ⟨t, by simp⟩ (.cons g2 .nil)) (by show 2 ≤ sizeLine; decide), rfl, ⟨T, xs[i], rfl, I.hok.fresh hT, rfl, fun ys hy => by rw [sqK_inj I hy hq]; exact List.getElem?_eq_getElem hxi⟩, ⟨he', hit', n1, n2, n3, hlt⟩, fun c hcm => ?_⟩
    have hlt2 : c < s.heap.objs.size := by
      rcases (show c = e ∨ c = it by simpa using hcm) with z | z
      · obtain ⟨_, q⟩ := he; rw [z]; exact Heap.lt_size q
      · obtain ⟨o, q, _⟩ := hit.obj; rw [z]; exact Heap.lt_size q
    rw [upd_ne (Nat.ne_of_lt (Nat.lt_of_lt_of_le hlt2 hT))]
    exact (hf c hcm).1
  done := by
    (intro X hP hw hK hc i pins s σ H E I hf st hg); subst hP hw hK
    obtain ⟨he, hit, n1, n2, n3, hin⟩ := st
    obtain ⟨hle, xs, hq, hn⟩ := hg
    have ei : i = n := Nat.le_antisymm hin hle
    subst ei
    obtain ⟨its, rv, p, hz⟩ := sqK_is I hq
    have hsz : its.toArray.size = i := by simp [← rv.length, hn]
    have Gs := GoesN.enumFrom (prog := X.prog) (w := X.w) (A := X.A) (elts := elts) (x1 := kk) (pos := tpos) 0 (draws_K (A := X.A.in1) (I.ok.hd hc) b it a n2 its.toArray) e n1 (by simp [n1, n3]) (by simp)
    rw [hsz] at Gs
    refine Gs.stops s (fun s1 => Inv X pins σ H s1) E ⟨he, hit, p⟩ fun h' tk hk _ => ?_
    exact I.turnedL (ch := [e, it]) hk hf
  self := fun A i s Q E st h => let ⟨⟨_, he⟩, _⟩ := st; wpAny_pyIter_enum he h
set_option maxHeartbeats 1000000 in
/-- enumerate(v) makes an iterator of v and the counter -/
theorem enum_new1 {v : Value} {o : Obj} {Hv : Heap → Prop} (B : Begins v o Hv) :
    Meets (Builtin.«enumerate.__new__» ⟨[.type "enumerate", v], []⟩) (fun _ R s => Hv s.heap ∧
      R (.ok (.ret (.ref (s.heap.push o).objs.size))) { s with heap := (s.heap.push o).push { cls := .type "enumerate", data := .fields #[.none, .bool false, .ref s.heap.objs.size, rawInt 0, .none, .none] } }) :=
  .of_wp fun prog w A R s h => by
    (obtain ⟨hp, g, d, tk, os⟩ := s); obtain ⟨hv, hR⟩ := h
    have self := sub_enumerate
    have begun : ∀ {A' : Around} {E Q : Value → Shared → Prop}, Q (.ref hp.objs.size) ⟨hp.push o, g, d, tk, os⟩ → wpAny (model prog w) A' (pyIter v) Q E ⟨hp, g, d, tk, os⟩ := fun q => B.iter prog w _ _ _ _ hv q
    wp_walk using begun
    (refine wpAny_stack_any fun st => wpAny_pure ?_); split
    · rename_i c _ _ _ _ _
      cases (c == Value.type "enumerate") <;> (wp_walk using begun; exact ⟨_, rfl, hR⟩)
    · wp_walk using begun
      exact ⟨_, rfl, hR⟩
theorem enum_call1 {prog : Program} {w : World} {A : Around} {E : Value → Shared → Prop} {s : Shared} {v : Value} {o : Obj} {Hv : Heap → Prop} {Q : Value → Shared → Prop} (B : Begins v o Hv) (hv : Hv s.heap)
    (k : ∀ h', IsEnum h' (s.heap.objs.size + 1) s.heap.objs.size 0 .none → h'.get? s.heap.objs.size = some o → (∀ b o, s.heap.get? b = some o → h'.get? b = some o) → Q (.ref (s.heap.objs.size + 1)) { s with heap := h' }) :
    wpAny (model prog w) A (call (.type "enumerate") [v]) Q E s := by
  refine callType_new F.called_enumerate (by decide) (F.typeCall_enumerate_1 _) (F.newCall_enumerate_1 _) (fun obj => F.args_object_init_2 obj _) F.entry_enumerate_new (enum_new1 B) ⟨hv, ?_⟩
  have sz : (s.heap.push o).objs.size = s.heap.objs.size + 1 := Heap.size_push ..
  have at1 : ((s.heap.push o).push { cls := .type "enumerate", data := .fields #[.none, .bool false, .ref s.heap.objs.size, rawInt 0, .none, .none] }).get? (s.heap.objs.size + 1) = some { cls := .type "enumerate", data := .fields #[.none, .bool false, .ref s.heap.objs.size, rawInt 0, .none, .none] } := by
    (rw [← sz]); exact Heap.get?_push_size _ rfl
  show _ ∧ _
  rw [sz]
  exact ⟨⟨_, at1, rfl⟩, k _ at1 (Heap.get?_push_of_some _ (Heap.get?_push_size _ B.free)) fun b o x => Heap.get?_push_of_some _ (Heap.get?_push_of_some _ x)⟩
theorem fresh_some {X : Cx} {pins : List (Addr × Obj)} {σ : St} {H : Hp} {s : Shared} (I : Inv X pins σ H s) {ch : List Addr} (h : ∀ c ∈ ch, s.heap.objs.size ≤ c) : ∀ c ∈ ch, FpOk X pins H c := fun c hc => I.fpOk (h c hc) (I.hok.fresh (h c hc))
def iEnumK (K : PySem.W.Frag) (te : TE) : TI := fun σ H R => te σ H fun x H1 => ∃ b a xs, [x] = [V.ref a] ∧ SqK b K H1 a xs ∧ R (IteK b K a xs.length) H1
theorem pi_enumK {X : Cx} {e : Expr} {te : TE} {p pos tpos : Pos} {elts : List Expr} {kk : Nat} (hg : Gl X "enumerate") (hm : X.mg "enumerate" = none) (he : PE X e te) (hs : starEach [e] X.env = (false, eval e X.env) :: starEach [] X.env := by rfl) :
    PI X (.Tuple elts kk tpos) (.Call (.Name "enumerate" p) [e] [] pos) (iEnumK X.K te) := by
  (refine ⟨fun pins s σ H R I h => ?_⟩); refine Call_ (ld_blt I hg hm boot_enumerate (PyProof.Rows.callWith_type1 (thn ((pa_cons he pa_nil hs).run pos pins s σ H (fun vs H1 => ∃ b a xs, vs = [V.ref a] ∧ SqK b X.K H1 a xs ∧ R (IteK b X.K a xs.length) H1) I h) fun us s1 ⟨vs, H1, I1, r1, q1⟩ => ?_) hs rfl))
  obtain ⟨b, a, xs, ex, hq, q⟩ := q1
  subst ex
  (obtain ⟨u, rfl, ru⟩ := vals1 r1); cases ru
  obtain ⟨its, rv, p', hlt⟩ := sqK_is I1 hq
  refine enum_call1 (begins_K b a its.toArray) p' fun h' he' ho hk => wpAny_pyIter_enum he' ?_
  (have I2 : Inv X pins σ H1 { s1 with heap := h' } := I1.kept (t' := s1.toks) hk); refine ⟨s1.heap.objs.size + 1, [s1.heap.objs.size + 1, s1.heap.objs.size], _, _, H1, rfl, I2, turn_enumK b a (s1.heap.objs.size + 1) s1.heap.objs.size xs.length,
    ⟨⟨.none, by simpa using he'⟩, itK_new ho, Nat.succ_ne_self _, Nat.ne_of_lt hlt, Nat.ne_of_gt (Nat.lt_succ_of_lt hlt), Nat.zero_le _⟩, fresh_some I1 fun c hc => ?_, q⟩
  rcases (show c = s1.heap.objs.size + 1 ∨ c = s1.heap.objs.size by simpa using hc) with z | z
  · rw [z]; exact Nat.le_succ _
  · rw [z]; exact Nat.le_refl _

/-! ### zip of two, in any mix -/
def ItzK (b1 b2 : Bool) (K : PySem.W.Frag) (a1 a2 : Addr) (n1 n2 : Nat) : It :=
  ⟨fun i H => i < min n1 n2 ∧ (∃ xs, SqK b1 K H a1 xs ∧ xs.length = n1) ∧ ∃ ys, SqK b2 K H a2 ys ∧ ys.length = n2,
    fun i H v H' => ∃ T x y, v = .ref T ∧ H T = none ∧ H' = upd H T (.tup [x, y]) ∧ (∀ xs, SqK b1 K H a1 xs → xs[i]? = some x) ∧ ∀ ys, SqK b2 K H a2 ys → ys[i]? = some y,
    fun i H => min n1 n2 ≤ i ∧ (∃ xs, SqK b1 K H a1 xs ∧ xs.length = n1) ∧ ∃ ys, SqK b2 K H a2 ys ∧ ys.length = n2⟩
structure Zs2 (h : Heap) (b1 b2 : Bool) (a1 a2 z TI TO i1 i2 : Addr) (i n1 n2 : Nat) : Prop where
  zip : IsZip h z TI TO .none
  ti : IsTupOf2 h TI (.ref i1) (.ref i2)
  to : ∃ x y, IsTupOf2 h TO x y
  it1 : ItK b1 h i1 a1 i
  it2 : ItK b2 h i2 a2 i
  sep : ZipSep2 z TI TO i1 i2 [i1, a1] [i2, a2]
  ne1 : a1 ≠ i1
  ne2 : a2 ≠ i2
  le : i ≤ min n1 n2
theorem turn_zipK {P : Program} {w : World} {K : PySem.W.Frag} {elts : List Expr} {kk : Nat} {tpos : Pos} (b1 b2 : Bool) (a1 a2 z TI TO i1 i2 : Addr) (n1 n2 : Nat) :
    Turn P w K (.Tuple elts kk tpos) (ItzK b1 b2 K a1 a2 n1 n2) [z, TI, TO, i1, i2] z (fun i h => Zs2 h b1 b2 a1 a2 z TI TO i1 i2 i n1 n2) where
  mem := by simp
  obj := fun i h st c hc => by
    obtain ⟨⟨x, y, hto⟩, ti⟩ := And.intro st.to st.ti
    rcases (show c = z ∨ c = TI ∨ c = TO ∨ c = i1 ∨ c = i2 by simpa using hc) with q | q | q | q | q
    · rw [q]; exact ⟨_, st.zip, fun v q => nomatch q⟩
    · rw [q]; exact ⟨_, ti, fun v q => nomatch q⟩
    · rw [q]; exact ⟨_, hto, fun v q => nomatch q⟩
    · rw [q]; exact st.it1.obj
    · rw [q]; exact st.it2.obj
  keep := fun i h h' st k => by
    obtain ⟨x, y, hto⟩ := st.to
    exact ⟨k z (by simp) _ st.zip, k TI (by simp) _ st.ti, ⟨x, y, k TO (by simp) _ hto⟩, st.it1.move fun o q => k i1 (by simp) o q, st.it2.move fun o q => k i2 (by simp) o q, st.sep, st.ne1, st.ne2, st.le⟩
  item := by
    (intro X hP hw hK hc i pins s σ H E I hf st hg); subst hP hw hK
    obtain ⟨hlt, ⟨xs, hq, hn⟩, ys, hq2, hn2⟩ := hg
    obtain ⟨its, rv, p, hz⟩ := sqK_is I hq
    obtain ⟨its2, rv2, p2, hz2⟩ := sqK_is I hq2
    have hsz : its.toArray.size = n1 := by simp [← rv.length, hn]
    have hsz2 : its2.toArray.size = n2 := by simp [← rv2.length, hn2]
    have Gs := GoesN.zip2 (prog := X.prog) (w := X.w) (A := X.A) (elts := elts) (x1 := kk) (pos := tpos) st.sep (draws_K (A := X.A.in1) (I.ok.hd hc) b1 i1 a1 st.ne1 its.toArray) (draws_K (A := X.A.in1) (I.ok.hd hc) b2 i2 a2 st.ne2 its2.toArray)
    rw [hsz, hsz2] at Gs
    refine thn (Gs.goes i s (fun v s2 => ∃ x H', Inv X pins σ H' s2 ∧ RelV x v ∧ (ItzK b1 b2 X.K a1 a2 n1 n2).yld i H x H' ∧ Zs2 s2.heap b1 b2 a1 a2 z TI TO i1 i2 (i + 1) n1 n2 ∧ ∀ c ∈ [z, TI, TO, i1, i2], H' c = none) E hlt ⟨st.zip, st.ti, st.to, ⟨st.it1, p⟩, ⟨st.it2, p2⟩⟩ fun v h' tk Y st' hk htk => ?_) fun _ _ h => h
    obtain ⟨T, u, u2, rfl, hT, hu, hu2, hTup⟩ := Y
    obtain ⟨zz, tt, too, ⟨q1, _⟩, q2, _⟩ := st'
    (have hu' : its[i]? = some u := by simpa using hu); have hu2' : its2[i]? = some u2 := by simpa using hu2
    have hxi : i < xs.length := by omega
    have hyi : i < ys.length := by omega
    obtain ⟨w1, g1, g2⟩ := rv.get (List.getElem?_eq_getElem hxi)
    rw [hu'] at g1
    cases g1
    obtain ⟨w2, g3, g4⟩ := rv2.get (List.getElem?_eq_getElem hyi)
    rw [hu2'] at g3
    cases g3
    refine ⟨.ref T, _, tupOk (xs := [xs[i], ys[i]]) I hf (fun c o hcn => hk c o fun hcm => hcn ?_) hT hTup (.cons g2 (.cons g4 .nil)) (by show 2 ≤ sizeLine; decide), rfl,
      ⟨T, xs[i], ys[i], rfl, I.hok.fresh hT, rfl, fun l hl => by rw [sqK_inj I hl hq]; exact List.getElem?_eq_getElem hxi, fun l hl => by rw [sqK_inj I hl hq2]; exact List.getElem?_eq_getElem hyi⟩, ⟨zz, tt, too, q1, q2, st.sep, st.ne1, st.ne2, hlt⟩, fun c hcm => ?_⟩
    · rcases (show c = z ∨ c = TO ∨ c = i1 ∨ c = i2 by simpa using hcm) with z' | z' | z' | z' <;> simp [z']
    · have hlt2 : c < s.heap.objs.size := by
        obtain ⟨x, y, hto⟩ := st.to
        rcases (show c = z ∨ c = TI ∨ c = TO ∨ c = i1 ∨ c = i2 by simpa using hcm) with q | q | q | q | q
        · rw [q]; exact Heap.lt_size st.zip
        · rw [q]; exact Heap.lt_size st.ti
        · rw [q]; exact Heap.lt_size hto
        · obtain ⟨o, e, _⟩ := st.it1.obj; rw [q]; exact Heap.lt_size e
        · obtain ⟨o, e, _⟩ := st.it2.obj; rw [q]; exact Heap.lt_size e
      rw [upd_ne (Nat.ne_of_lt (Nat.lt_of_lt_of_le hlt2 hT))]
      exact (hf c hcm).1
  done := by
    (intro X hP hw hK hc i pins s σ H E I hf st hg); subst hP hw hK
    obtain ⟨hle, ⟨xs, hq, hn⟩, ys, hq2, hn2⟩ := hg
    obtain ⟨its, rv, p, hz⟩ := sqK_is I hq
    obtain ⟨its2, rv2, p2, hz2⟩ := sqK_is I hq2
    have hsz : its.toArray.size = n1 := by simp [← rv.length, hn]
    have hsz2 : its2.toArray.size = n2 := by simp [← rv2.length, hn2]
    have Gs := GoesN.zip2 (prog := X.prog) (w := X.w) (A := X.A) (elts := elts) (x1 := kk) (pos := tpos) st.sep (draws_K (A := X.A.in1) (I.ok.hd hc) b1 i1 a1 st.ne1 its.toArray) (draws_K (A := X.A.in1) (I.ok.hd hc) b2 i2 a2 st.ne2 its2.toArray)
    rw [hsz, hsz2] at Gs
    have ei : i = min n1 n2 := Nat.le_antisymm st.le hle
    refine Gs.stops s (fun s1 => Inv X pins σ H s1) E ?_ fun h' tk hk _ => ?_
    · rw [← ei]
      exact ⟨st.zip, st.ti, st.to, ⟨st.it1, p⟩, ⟨st.it2, p2⟩⟩
    · refine I.turnedL (ch := [z, TI, TO, i1, i2]) (fun c o hcn => hk c o fun hcm => hcn ?_) hf
      rcases (show c = z ∨ c = TO ∨ c = i1 ∨ c = i2 by simpa using hcm) with z' | z' | z' | z' <;> simp [z']
  self := fun A i s Q E st h => wpAny_pyIter_zip st.zip h
def iZipK (K : PySem.W.Frag) (ta : TA) : TI := fun σ H R => ta σ H fun vs H1 => ∃ b1 b2 a1 a2 xs ys, vs = [V.ref a1, V.ref a2] ∧ SqK b1 K H1 a1 xs ∧ SqK b2 K H1 a2 ys ∧ R (ItzK b1 b2 K a1 a2 xs.length ys.length) H1
theorem pi_zipK {X : Cx} {e e2 : Expr} {ta : TA} {p pos tpos : Pos} {elts : List Expr} {kk : Nat} (hg : Gl X "zip") (hm : X.mg "zip" = none) (ha : PA X [e, e2] ta) (hs : starEach [e, e2] X.env = (false, eval e X.env) :: starEach [e2] X.env := by rfl) (hpl : (backTo pos (starEach [e2] X.env)).any (·.1) = false := by rfl) :
    PI X (.Tuple elts kk tpos) (.Call (.Name "zip" p) [e, e2] [] pos) (iZipK X.K ta) := by
  (refine ⟨fun pins s σ H R I h => ?_⟩); refine Call_ (ld_blt I hg hm PyProof.Rows.boot_zip (PyProof.Rows.callWith_type1 (thn (ha.run pos pins s σ H _ I h) fun us s1 ⟨vs, H1, I1, r1, q1⟩ => ?_) hs hpl))
  obtain ⟨b1, b2, a1, a2, xs, ys, ex, hq, hq2, q⟩ := q1
  subst ex
  obtain ⟨u, u2, rfl, ru, ru2⟩ := vals2 r1
  cases ru
  cases ru2
  obtain ⟨its, rv, p1, l1⟩ := sqK_is I1 hq
  obtain ⟨its2, rv2, p2, l2⟩ := sqK_is I1 hq2
  refine zip_begins2 (begins_K b1 a1 its.toArray) (begins_K b2 a2 its2.toArray) p1 p2 fun h' hz hti hto o1 o2 _ hk => wpAny_pyIter_zip hz ?_
  (have I2 : Inv X pins σ H1 { s1 with heap := h' } := I1.kept (t' := s1.toks) hk); refine ⟨s1.heap.objs.size + 4, [s1.heap.objs.size + 4, s1.heap.objs.size + 2, s1.heap.objs.size + 3, s1.heap.objs.size, s1.heap.objs.size + 1], _, _, H1, rfl, I2,
    turn_zipK b1 b2 a1 a2 _ (s1.heap.objs.size + 2) (s1.heap.objs.size + 3) s1.heap.objs.size (s1.heap.objs.size + 1) xs.length ys.length,
    ⟨hz, hti, ⟨_, _, hto⟩, itK_new o1, itK_new o2, zip_sep2 (by simpa using l1) (by simpa using l2), Nat.ne_of_lt l1, Nat.ne_of_lt (Nat.lt_succ_of_lt l2), Nat.zero_le _⟩, fresh_some I1 fun c hc => ?_, q⟩
  rcases (show c = s1.heap.objs.size + 4 ∨ c = s1.heap.objs.size + 2 ∨ c = s1.heap.objs.size + 3 ∨ c = s1.heap.objs.size ∨ c = s1.heap.objs.size + 1 by simpa using hc) with z | z | z | z | z
  · rw [z]; exact Nat.le_add_right _ _
  · rw [z]; exact Nat.le_add_right _ _
  · rw [z]; exact Nat.le_add_right _ _
  · rw [z]; exact Nat.le_refl _
  · rw [z]; exact Nat.le_add_right _ _

/-! ### the walks as items -/
section
variable {G : Kx} {H : Hp} {α : List Addr} {own : Addr → Prop} {st st' : Sto} {v : V} {r : R}
/-- what is walked of a value: its items, and that it stays -/
def asIt : R → M Itm
  | .v (.obj n) => fun st => match stAt n st with
    | some ds => some (⟨ds, fun s => stAt n s = some ds⟩, st)
    | none => none
  | .v (.tup ds) => pure ⟨ds, fun _ => True⟩
  | .o (.cst ds) => pure ⟨ds, fun _ => True⟩
  | .b (.cst ds) => pure ⟨ds, fun _ => True⟩
  | .l (.lst ds) => pure ⟨ds, fun _ => True⟩
  | .b (.lst ds) => pure ⟨ds, fun _ => True⟩
  | _ => M.fail
structure Held (G : Kx) (b : Bool) (a : Addr) (it : Itm) (P : List Addr → Hp → Prop) (W : Addr → Prop) : Prop where
  sq : ∀ α H, P α H → ∃ xs, SqK b G.K H a xs ∧ RepL G H α xs it.ds
  keep : ∀ own α H α' H' st, (∀ a, W a → ¬ own a) → Ext own α H α' H' → P α H → RepS G H' α' st → it.ck st → P α' H'
theorem asIt_ok {fr : Addr → Prop} {it : Itm} (hr : RepR G H α fr own v r) (hS : RepS G H α st) (hf : ∀ a, fr a → ¬ own a) (h : asIt r st = some (it, st')) :
    st' = st ∧ ∃ b a P W, v = .ref a ∧ Held G b a it P W ∧ P α H ∧ ∀ c, W c → H c ≠ none ∧ ¬ own c := by
  have no : ∀ {p : Prop}, (none : Option (Itm × Sto)) = some (it, st') → p := fun h => nomatch h
  have cst : ∀ {ds : List D} {a : Addr}, RepO G H α a (.cst ds) → st' = st → it = ⟨ds, fun _ => True⟩ → v = .ref a → st' = st ∧ ∃ b a P W, v = .ref a ∧ Held G b a it P W ∧ P α H ∧ ∀ c, W c → H c ≠ none ∧ ¬ own c := fun {ds a} ho e1 e2 e3 => by
    subst e2
    exact ⟨e1, true, a, fun α H => ∃ xs, Stat G H a xs ∧ RepL G H α xs ds, fun _ => False, e3, ⟨fun α H ⟨xs, h1, h2⟩ => ⟨xs, h1.sq, h2⟩, fun own α H α' H' st _ X ⟨xs, h1, h2⟩ _ _ => ⟨xs, h1.ext X, h2.ext X⟩⟩, ho, fun _ z => z.elim⟩
  have mov : ∀ {ds : List D} {a : Addr}, RepO G H α a (.lst ds) → a ∉ α → ¬ own a → st' = st → it = ⟨ds, fun _ => True⟩ → v = .ref a → st' = st ∧ ∃ b a P W, v = .ref a ∧ Held G b a it P W ∧ P α H ∧ ∀ c, W c → H c ≠ none ∧ ¬ own c := fun {ds a} ho hn hw e1 e2 e3 => by
    subst e2
    refine ⟨e1, true, a, fun α H => a ∉ α ∧ RepO G H α a (.lst ds), fun c => c = a, e3, ⟨fun α H ⟨_, xs, h1, h2⟩ => ⟨xs, SqL.of h1, h2⟩, fun own α H α' H' st hW X ⟨h1, h2⟩ _ _ => ?_⟩, ⟨hn, ho⟩, fun c e => ?_⟩
    · obtain ⟨q1, q2⟩ := RepO.kept h2 trivial h1 (hW a rfl) X
      exact ⟨q2, q1⟩
    · subst e
      obtain ⟨u, hu⟩ := ho.has trivial
      exact ⟨by rw [hu]; exact fun z => (nomatch z), hw⟩
  cases r with
  | v d =>
    cases d with
    | tup ds =>
      obtain ⟨e1, e2⟩ := pure_inv h
      cases hr with
      | @tup a xs _ h1 h2 =>
        subst e1
        exact ⟨e2, false, a, fun α H => ∃ xs, SqT G.K H a xs ∧ RepL G H α xs ds, fun _ => False, rfl, ⟨fun _ _ h => h, fun own α H α' H' st _ X ⟨xs, h1, h2⟩ _ _ => ⟨xs, SqT.ext h1 X, h2.ext X⟩⟩, ⟨xs, h1, h2⟩, fun _ z => z.elim⟩
    | obj n =>
      have h' : (match stAt n st with | some ds => some ((⟨ds, fun s => stAt n s = some ds⟩ : Itm), st) | none => none) = some (it, st') := h
      split at h'
      · rename_i ds q
        injection h' with h'
        injection h' with e1 e2
        subst e1
        cases hr with
        | @obj a _ ha =>
          refine ⟨e2.symm, true, a, fun α H => α[n]? = some a ∧ ∃ xs, H a = some (.lst xs) ∧ RepL G H α xs ds, fun _ => False, rfl, ⟨fun α H ⟨_, xs, h1, h2⟩ => ⟨xs, SqL.of h1, h2⟩, fun own α H α' H' st2 _ X ⟨h1, _⟩ S2 hc => ?_⟩, ⟨ha, hS.obj n _ _ (stAt_ok q) ha⟩, fun _ z => z.elim⟩
          exact ⟨X.pre0 h1, S2.obj n _ _ (stAt_ok hc) (X.pre0 h1)⟩
      · cases h'
    | _ => exact no h
  | l o =>
    cases o with
    | lst ds =>
      obtain ⟨e1, e2⟩ := pure_inv h
      obtain ⟨a, rfl, hfa, hn, ro, _⟩ := hr
      exact mov ro hn (hf a hfa) e2 e1 rfl
    | _ => exact no h
  | o o =>
    cases o with
    | cst ds =>
      obtain ⟨e1, e2⟩ := pure_inv h
      obtain ⟨a, rfl, ro, _⟩ := hr
      exact cst ro e2 e1 rfl
    | _ => exact no h
  | b o =>
    cases o with
    | cst ds =>
      obtain ⟨e1, e2⟩ := pure_inv h
      obtain ⟨a, rfl, ro, _⟩ := hr
      exact cst ro e2 e1 rfl
    | lst ds =>
      obtain ⟨e1, e2⟩ := pure_inv h
      obtain ⟨a, rfl, ro, w⟩ := hr
      exact mov ro (w trivial).1 (w trivial).2 e2 e1 rfl
    | _ => exact no h
theorem itOk_list {a : Addr} {it : Itm} {P : List Addr → Hp → Prop} {W : Addr → Prop} (h : Held G true a it P W) : ItOk G (Itl G.K a) it P W where
  go := fun α i H hp hi => by
    obtain ⟨xs, h1, h2⟩ := h.sq α H hp
    have hx : i < xs.length := by rw [h2.length]; exact hi
    exact ⟨xs, xs[i], h1, List.getElem?_eq_getElem hx⟩
  stop := fun α i H hp hi => by
    obtain ⟨xs, h1, h2⟩ := h.sq α H hp
    exact ⟨xs, h1, by rw [h2.length]; exact hi⟩
  yld := fun α i H x H' hp hi ⟨e, hy⟩ => by
    subst e
    obtain ⟨xs, h1, h2⟩ := h.sq α _ hp
    refine ⟨.inl rfl, it.ds[i], List.getElem?_eq_getElem hi, ?_⟩
    obtain ⟨v, g1, g2⟩ := h2.get (List.getElem?_eq_getElem hi)
    have := hy xs h1
    rw [g1] at this
    cases this
    exact g2
  keep := h.keep
theorem itOk_tup {a : Addr} {it : Itm} {P : List Addr → Hp → Prop} {W : Addr → Prop} (h : Held G false a it P W) : ItOk G (Itt G.K a) it P W where
  go := fun α i H hp hi => by
    obtain ⟨xs, h1, h2⟩ := h.sq α H hp
    have hx : i < xs.length := by rw [h2.length]; exact hi
    exact ⟨xs, xs[i], h1, List.getElem?_eq_getElem hx⟩
  stop := fun α i H hp hi => by
    obtain ⟨xs, h1, h2⟩ := h.sq α H hp
    exact ⟨xs, h1, by rw [h2.length]; exact hi⟩
  yld := fun α i H x H' hp hi ⟨e, hy⟩ => by
    subst e
    obtain ⟨xs, h1, h2⟩ := h.sq α _ hp
    refine ⟨.inl rfl, it.ds[i], List.getElem?_eq_getElem hi, ?_⟩
    obtain ⟨v, g1, g2⟩ := h2.get (List.getElem?_eq_getElem hi)
    have := hy xs h1
    rw [g1] at this
    cases this
    exact g2
  keep := h.keep
def enumD : Nat → List D → List D
  | _, [] => []
  | k, d :: ds => .tup [.int (k : Nat), d] :: enumD (k + 1) ds
theorem enumD_length : ∀ (k : Nat) (ds : List D), (enumD k ds).length = ds.length
  | _, [] => rfl
  | k, _ :: ds => congrArg (· + 1) (enumD_length (k + 1) ds)
theorem enumD_get : ∀ (k : Nat) (ds : List D) (i : Nat) (d : D), ds[i]? = some d → (enumD k ds)[i]? = some (.tup [.int ((k + i : Nat) : Int), d])
  | _, [], _, _, h => by simp at h
  | k, _ :: _, 0, d, h => by
    simp at h
    subst h
    rfl
  | k, _ :: ds, i + 1, d, h => by
    have := enumD_get (k + 1) ds i d (by simpa using h)
    show (enumD (k + 1) ds)[i]? = _
    rw [this]
    have e : k + 1 + i = k + (i + 1) := by omega
    rw [e]
def zipD : List D → List D → List D
  | a :: as, b :: bs => .tup [a, b] :: zipD as bs
  | _, _ => []
theorem zipD_length : ∀ (as bs : List D), (zipD as bs).length = min as.length bs.length
  | [], _ => by simp [zipD]
  | _ :: _, [] => by simp [zipD]
  | _ :: as, _ :: bs => by
    show (zipD as bs).length + 1 = _
    rw [zipD_length as bs]
    simp only [List.length_cons]
    omega
theorem zipD_get : ∀ (as bs : List D) (i : Nat) (x y : D), as[i]? = some x → bs[i]? = some y → (zipD as bs)[i]? = some (.tup [x, y])
  | [], _, _, _, _, h, _ => by simp at h
  | _ :: _, [], _, _, _, _, h => by simp at h
  | a :: _, b :: _, 0, x, y, h1, h2 => by
    simp at h1 h2
    subst h1 h2
    rfl
  | _ :: as, _ :: bs, i + 1, x, y, h1, h2 => zipD_get as bs i x y (by simpa using h1) (by simpa using h2)
theorem itOk_enum {b : Bool} {a : Addr} {it : Itm} {P : List Addr → Hp → Prop} {W : Addr → Prop} {n : Nat} (h : Held G b a it P W) (hn : n = it.ds.length) : ItOk G (IteK b G.K a n) ⟨enumD 0 it.ds, it.ck⟩ P W where
  go := fun α i H hp hi => by
    obtain ⟨xs, h1, h2⟩ := h.sq α H hp
    exact ⟨by rw [hn]; simpa [enumD_length] using hi, xs, h1, by rw [hn]; exact h2.length⟩
  stop := fun α i H hp hi => by
    obtain ⟨xs, h1, h2⟩ := h.sq α H hp
    exact ⟨by rw [hn]; simpa [enumD_length] using hi, xs, h1, by rw [hn]; exact h2.length⟩
  yld := fun α i H x H' hp hi ⟨T, y, e1, e2, e3, hy⟩ => by
    subst e1 e3
    have hi' : i < it.ds.length := by simpa [enumD_length] using hi
    obtain ⟨xs, h1, h2⟩ := h.sq α H hp
    refine ⟨.inr ⟨T, _, e2, rfl⟩, .tup [.int ((0 + i : Nat) : Int), it.ds[i]], enumD_get 0 it.ds i _ (List.getElem?_eq_getElem hi'), ?_⟩
    obtain ⟨v, g1, g2⟩ := h2.get (List.getElem?_eq_getElem hi')
    have := hy xs h1
    rw [g1] at this
    cases this
    rw [Nat.zero_add]
    exact .tup (SqT.of upd_same) (.cons (.int _) (.cons (g2.ext (Ext.new (own := Non) e2)) .nil))
  keep := h.keep
theorem itOk_zip {b1 b2 : Bool} {a1 a2 : Addr} {it1 it2 : Itm} {P1 P2 : List Addr → Hp → Prop} {W1 W2 : Addr → Prop} {n1 n2 : Nat} (h1 : Held G b1 a1 it1 P1 W1) (h2 : Held G b2 a2 it2 P2 W2) (e1 : n1 = it1.ds.length) (e2 : n2 = it2.ds.length) :
    ItOk G (ItzK b1 b2 G.K a1 a2 n1 n2) ⟨zipD it1.ds it2.ds, fun s => it1.ck s ∧ it2.ck s⟩ (fun α H => P1 α H ∧ P2 α H) (fun c => W1 c ∨ W2 c) where
  go := fun α i H hp hi => by
    obtain ⟨xs, g1, g2⟩ := h1.sq α H hp.1
    obtain ⟨ys, g3, g4⟩ := h2.sq α H hp.2
    exact ⟨by rw [e1, e2]; simpa [zipD_length] using hi, ⟨xs, g1, by rw [e1]; exact g2.length⟩, ys, g3, by rw [e2]; exact g4.length⟩
  stop := fun α i H hp hi => by
    obtain ⟨xs, g1, g2⟩ := h1.sq α H hp.1
    obtain ⟨ys, g3, g4⟩ := h2.sq α H hp.2
    exact ⟨by rw [e1, e2]; simpa [zipD_length] using hi, ⟨xs, g1, by rw [e1]; exact g2.length⟩, ys, g3, by rw [e2]; exact g4.length⟩
  yld := fun α i H x H' hp hi ⟨T, u, w, q1, q2, q3, hy1, hy2⟩ => by
    subst q1 q3
    have hi' : i < min it1.ds.length it2.ds.length := by simpa [zipD_length] using hi
    have l1 : i < it1.ds.length := by omega
    have l2 : i < it2.ds.length := by omega
    obtain ⟨xs, g1, g2⟩ := h1.sq α H hp.1
    obtain ⟨ys, g3, g4⟩ := h2.sq α H hp.2
    refine ⟨.inr ⟨T, _, q2, rfl⟩, _, zipD_get _ _ i _ _ (List.getElem?_eq_getElem l1) (List.getElem?_eq_getElem l2), ?_⟩
    obtain ⟨v1, f1, f2⟩ := g2.get (List.getElem?_eq_getElem l1)
    obtain ⟨v2, f3, f4⟩ := g4.get (List.getElem?_eq_getElem l2)
    have k1 := hy1 xs g1
    have k2 := hy2 ys g3
    rw [f1] at k1
    rw [f3] at k2
    cases k1
    cases k2
    exact .tup (SqT.of upd_same) (.cons (f2.ext (Ext.new (own := Non) q2)) (.cons (f4.ext (Ext.new (own := Non) q2)) .nil))
  keep := fun own α H α' H' st hW X hp S hc => ⟨h1.keep own α H α' H' st (fun c hc => hW c (.inl hc)) X hp.1 S hc.1, h2.keep own α H α' H' st (fun c hc => hW c (.inr hc)) X hp.2 S hc.2⟩
end
def rangeD (lo : Int) (n : Nat) : List D := (List.range n).map fun i => .int (lo + (i : Nat))
def rangeC (lo c : Int) (n : Nat) : List D := (List.range n).map fun i => .int (lo + (i : Nat) * c)
theorem itOk_rng {G : Kx} {lo : Int} {n : Nat} : ItOk G (Itr lo n) ⟨rangeD lo n, fun _ => True⟩ (fun _ _ => True) (fun _ => False) where
  go := fun α i H _ hi => by show i < n; simpa [rangeD] using hi
  stop := fun α i H _ hi => by show n ≤ i; simpa [rangeD] using hi
  yld := fun α i H x H' _ hi ⟨e1, e2⟩ => by
    subst e1 e2
    have hi' : i < n := by simpa [rangeD] using hi
    exact ⟨.inl rfl, .int (lo + (i : Nat)), by simp [rangeD, hi'], .int _⟩
  keep := fun _ _ _ _ _ _ _ _ _ _ _ => trivial
theorem itOk_rngC {G : Kx} {lo c : Int} {n : Nat} : ItOk G (Itc lo c n) ⟨rangeC lo c n, fun _ => True⟩ (fun _ _ => True) (fun _ => False) where
  go := fun α i H _ hi => by show i < n; simpa [rangeC] using hi
  stop := fun α i H _ hi => by show n ≤ i; simpa [rangeC] using hi
  yld := fun α i H x H' _ hi ⟨e1, e2⟩ => by
    subst e1 e2
    have hi' : i < n := by simpa [rangeC] using hi
    exact ⟨.inl rfl, .int (lo + (i : Nat) * c), by simp [rangeC, hi'], .int _⟩
  keep := fun _ _ _ _ _ _ _ _ _ _ _ => trivial
def smallI (i : Int) : Bool := decide (-4611686018427387904 ≤ i) && decide (i < 4611686018427387904)
theorem smallI_ok {i : Int} (h : smallI i = true) : -(2 ^ 62) ≤ i ∧ i < 2 ^ 62 := by
  unfold smallI at h
  rw [Bool.and_eq_true, decide_eq_true_eq, decide_eq_true_eq] at h
  exact h
/-- as many turns as range(i, j, c) has -/
def rgN (i j c : Int) : Nat := if 0 < c then ((j - i + (c - 1)) / c).toNat else ((i - j + (-c - 1)) / (-c)).toNat
def mSeq (m : Env → M R) : Env → M Itm := fun env => m env >>= asIt
def mEnum (m : Env → M R) : Env → M Itm := fun env => m env >>= fun r => asIt r >>= fun it => pure ⟨enumD 0 it.ds, it.ck⟩
def mZip (m1 m2 : Env → M R) : Env → M Itm := fun env => m1 env >>= fun r1 => m2 env >>= fun r2 => asIt r1 >>= fun i1 => asIt r2 >>= fun i2 => pure ⟨zipD i1.ds i2.ds, fun s => i1.ck s ∧ i2.ck s⟩
def mR1 (ms : Env → M (List R)) : Env → M Itm := fun env => ms env >>= fun rs => match rs with
  | [.v (.int j)] => M.ite (smallI j) ⟨rangeD 0 j.toNat, fun _ => True⟩
  | _ => M.fail
def mR2 (ms : Env → M (List R)) : Env → M Itm := fun env => ms env >>= fun rs => match rs with
  | [.v (.int i), .v (.int j)] => M.ite (smallI i && smallI j) ⟨rangeD i (j - i).toNat, fun _ => True⟩
  | _ => M.fail
/-- as many turns as range(i, j, c) has -/
def rgN3 (i j c : Int) : Nat := (Builtin.Range.rangeSize i j c).toNat
def rgOk (i j c : Int) : Bool := decide (c ≠ 0) && decide (c.natAbs < 1073741824) && Builtin.Range.small i j c && decide (Builtin.Range.rangeSize i j c = (rgN3 i j c : Nat))
def mR3 (ms : Env → M (List R)) : Env → M Itm := fun env => ms env >>= fun rs => match rs with
  | [.v (.int i), .v (.int j), .v (.int c)] => M.ite (rgOk i j c) ⟨rangeC i c (rgN3 i j c), fun _ => True⟩
  | _ => M.fail
section
variable {X : Cx} {C : List Addr} {tg e e2 : Expr} {es : List Expr} {m m2 : Env → M R} {ms : Env → M (List R)} {p pos tpos : Pos} {elts : List Expr} {kk : Nat}
theorem i_seq (he : SimE X C e m) : SimI X C tg e (mSeq m) := PI.wk (pi_seq he) fun σ H R h => by
  obtain ⟨α, env, s0, it, st', hE, hS, hm, k⟩ := h
  obtain ⟨r, s1, e1, e2⟩ := bind_run hm
  refine ⟨α, env, s0, r, s1, hE, hS, e1, fun v α1 H1 X1 S1 R1 => ?_⟩
  obtain ⟨rfl, b, a, P, W, rfl, hh, hp, hw⟩ := asIt_ok R1 S1 (fun a ha => (hE.noSlot ha).own hE) e2
  refine ⟨a, rfl, ?_⟩
  obtain ⟨xs, h1, _⟩ := hh.sq α1 H1 hp
  cases b with
  | true => exact .inl ⟨⟨xs, h1⟩, k α1 H1 _ P W X1 S1 (itOk_list hh) hp hw⟩
  | false => exact .inr ⟨⟨xs, h1⟩, k α1 H1 _ P W X1 S1 (itOk_tup hh) hp hw⟩
theorem i_enum (hg : Gl X "enumerate") (hm : X.mg "enumerate" = none) (he : SimE X C e m) (hs : starEach [e] X.env = (false, eval e X.env) :: starEach [] X.env := by rfl) :
    SimI X C (.Tuple elts kk tpos) (.Call (.Name "enumerate" p) [e] [] pos) (mEnum m) := PI.wk (pi_enumK hg hm he hs) fun σ H R h => by
  obtain ⟨α, env, s0, it, st', hE, hS, hm, k⟩ := h
  obtain ⟨r, s1, e1, hm1⟩ := bind_run hm
  obtain ⟨it1, s2, e2, hm2⟩ := bind_run hm1
  obtain ⟨rfl, rfl⟩ := pure_inv hm2
  refine ⟨α, env, s0, r, s1, hE, hS, e1, fun v α1 H1 X1 S1 R1 => ?_⟩
  obtain ⟨rfl, b, a, P, W, rfl, hh, hp, hw⟩ := asIt_ok R1 S1 (fun a ha => (hE.noSlot ha).own hE) e2
  obtain ⟨xs, h1, h2⟩ := hh.sq α1 H1 hp
  exact ⟨b, a, xs, rfl, h1, k α1 H1 _ P W X1 S1 (itOk_enum hh h2.length) hp hw⟩
theorem i_zip (hg : Gl X "zip") (hm : X.mg "zip" = none) (h1 : SimE X C e m) (h2 : SimE X C e2 m2) (hs : starEach [e, e2] X.env = (false, eval e X.env) :: starEach [e2] X.env := by rfl) (hs2 : starEach [e2] X.env = (false, eval e2 X.env) :: starEach [] X.env := by rfl) (hpl : (backTo pos (starEach [e2] X.env)).any (·.1) = false := by rfl) :
    SimI X C (.Tuple elts kk tpos) (.Call (.Name "zip" p) [e, e2] [] pos) (mZip m m2) := PI.wk (pi_zipK hg hm (pa_cons h1 (pa_cons h2 pa_nil hs2) hs) hs hpl) fun σ H R h => by
  obtain ⟨α, env, s0, it, st', hE, hS, hm, k⟩ := h
  obtain ⟨r, s1, e1, hm1⟩ := bind_run hm
  obtain ⟨r2, s2, e2, hm2⟩ := bind_run hm1
  obtain ⟨it1, s3, e3, hm3⟩ := bind_run hm2
  obtain ⟨it2, s4, e4, hm4⟩ := bind_run hm3
  obtain ⟨rfl, rfl⟩ := pure_inv hm4
  refine ⟨α, env, s0, r, s1, hE, hS, e1, fun v α1 H1 X1 S1 R1 => ⟨α1, env, s1, r2, s2, hE.ext X1, S1, e2, fun v2 α2 H2 X2 S2 R2 => ?_⟩⟩
  have fr2 : ∀ a, Fresh H1 a → ¬ Own σ env a := fun a ha => ((hE.ext X1).noSlot ha).own (hE.ext X1)
  obtain ⟨rfl, b, a, P, W, rfl, hh, hp, hw⟩ := asIt_ok (R1.ext X2) S2 (fun a ha => (hE.noSlot ha).own hE) e3
  obtain ⟨rfl, b2, a2, P2, W2, rfl, hh2, hp2, hw2⟩ := asIt_ok R2 S2 fr2 e4
  obtain ⟨xs, g1, g2⟩ := hh.sq α2 H2 hp
  obtain ⟨ys, g3, g4⟩ := hh2.sq α2 H2 hp2
  exact ⟨b, b2, a, a2, xs, ys, rfl, g1, g3, k α2 H2 _ _ _ (X1.trans0 X2) S2 (itOk_zip hh hh2 g2.length g4.length) ⟨hp, hp2⟩ fun c hc => hc.elim (hw c) (hw2 c)⟩
theorem i_range1 {a : Expr} (hg : Gl X "range") (hm : X.mg "range" = none) (ha : SimA X C [a] ms) (hs : starEach [a] X.env = [(false, eval a X.env)] := by rfl) : SimI X C tg (.Call (.Name "range" p) [a] [] pos) (mR1 ms) :=
  PI.wk (pi_range1 hg hm ha hs) fun σ H R h => by
    obtain ⟨α, env, s0, it, st', hE, hS, hm, k⟩ := h
    obtain ⟨rs, s1, e1, hm1⟩ := bind_run hm
    refine ⟨α, env, s0, rs, s1, hE, hS, e1, fun vs α1 H1 X1 S1 R1 => ?_⟩
    split at hm1
    · obtain ⟨hc, rfl, rfl⟩ := ite_inv hm1
      obtain ⟨v, rfl, hv⟩ := reps1 R1
      cases hv
      obtain ⟨h1, h2⟩ := smallI_ok hc
      exact ⟨_, rfl, h1, h2, k α1 H1 _ _ _ X1 S1 itOk_rng trivial fun _ z => z.elim⟩
    · cases hm1
theorem i_range2 {a b : Expr} (hg : Gl X "range") (hm : X.mg "range" = none) (ha : SimA X C [a, b] ms) (hs : starEach [a, b] X.env = [(false, eval a X.env), (false, eval b X.env)] := by rfl) (hs2 : starEach [b] X.env = [(false, eval b X.env)] := by rfl) : SimI X C tg (.Call (.Name "range" p) [a, b] [] pos) (mR2 ms) :=
  PI.wk (pi_range2 hg hm ha hs hs2) fun σ H R h => by
    obtain ⟨α, env, s0, it, st', hE, hS, hm, k⟩ := h
    obtain ⟨rs, s1, e1, hm1⟩ := bind_run hm
    refine ⟨α, env, s0, rs, s1, hE, hS, e1, fun vs α1 H1 X1 S1 R1 => ?_⟩
    split at hm1
    · obtain ⟨hc, rfl, rfl⟩ := ite_inv hm1
      obtain ⟨v, w, rfl, hv, hw⟩ := reps2 R1
      cases hv; cases hw
      rw [Bool.and_eq_true] at hc
      obtain ⟨h1, h2⟩ := smallI_ok hc.1
      obtain ⟨h3, h4⟩ := smallI_ok hc.2
      exact ⟨_, _, rfl, ⟨h1, h2, h3, h4⟩, k α1 H1 _ _ _ X1 S1 itOk_rng trivial fun _ z => z.elim⟩
    · cases hm1
theorem i_range3 {a b c : Expr} (hg : Gl X "range") (hm : X.mg "range" = none) (ha : SimA X C [a, b, c] ms) (hs : starEach [a, b, c] X.env = (false, eval a X.env) :: starEach [b, c] X.env := by rfl)
    (hpl : (backTo pos (starEach [b, c] X.env)).any (·.1) = false := by rfl) : SimI X C tg (.Call (.Name "range" p) [a, b, c] [] pos) (mR3 ms) :=
  PI.wk (pi_range3 hg hm ha hs hpl) fun σ H R h => by
    obtain ⟨α, env, s0, it, st', hE, hS, hm, k⟩ := h
    obtain ⟨rs, s1, e1, hm1⟩ := bind_run hm
    refine ⟨α, env, s0, rs, s1, hE, hS, e1, fun vs α1 H1 X1 S1 R1 => ?_⟩
    split at hm1
    · obtain ⟨hc, rfl, rfl⟩ := ite_inv hm1
      cases R1 with
      | cons h1 R1 _ =>
        obtain ⟨v, w, rfl, hv, hw⟩ := reps2 R1
        cases h1; cases hv; cases hw
        unfold rgOk at hc
        (simp only [Bool.and_eq_true, decide_eq_true_eq] at hc); exact ⟨_, _, _, _, rfl, ⟨hc.1.1.1, hc.1.1.2, hc.1.2, hc.2⟩, k α1 H1 _ _ _ X1 S1 itOk_rngC trivial fun _ z => z.elim⟩
    · cases hm1
end
end Mi
/-! Mi: comprehensions. -/
namespace Mi
open PySem PySem.Spec PyProof.Rows L2

def wipeE (env : Env) : List Nat → Env
  | [] => env
  | v :: vs => (wipeE env vs).set v none
open Classical in
noncomputable def compL (ck : Sto → Prop) (g : Tg) (t : Env → M Bool) (m : Env → M R) (env : Env) : List D → List D → M (List D)
  | [], acc => fun st => if ck st then some (acc, st) else none
  | d :: ds, acc => fun st => if ck st then (g d env >>= fun e => t e >>= fun c => if c = true then (m e >>= fun r => toD r >>= fun y => if lenOk (acc.length + 1) = true then compL ck g t m env ds (acc ++ [y]) else M.fail) else compL ck g t m env ds acc) st else none
noncomputable def eComp (vs : List Nat) (mi : Env → M Itm) (g : Tg) (t : Env → M Bool) (m : Env → M R) : Env → M R := fun env => mi env >>= fun it => compL it.ck g t m (wipeE env vs) it.ds [] >>= fun ds => pure (.l (.lst ds))
def tTrue : Env → M Bool := fun _ => pure true
section
variable {G : Kx} {H : Hp} {α : List Addr} {σ : St} {env : Env}
theorem wipeE_length : ∀ (env : Env) (vs : List Nat), (wipeE env vs).length = env.length
  | _, [] => rfl
  | env, v :: vs => by unfold wipeE; rw [List.length_set, wipeE_length env vs]
theorem wipe_in : ∀ {vs : List Nat} {j : Nat}, j ∈ vs → j < env.length → (wipeE env vs)[j]? = some none
  | v :: vs, j, h, hl => by
    unfold wipeE
    by_cases e : v = j
    · subst e; rw [List.getElem?_set_self (by rw [wipeE_length]; exact hl)]
    · rw [List.getElem?_set_ne e]
      exact wipe_in ((List.mem_cons.mp h).resolve_left fun z => e z.symm) hl
theorem wipe_no : ∀ {vs : List Nat} {env : Env} {σ : St} {j : Nat}, j ∉ vs → (wipeE env vs)[j]? = env[j]? ∧ (wipe σ vs)[j]? = σ[j]?
  | [], _, _, _, _ => ⟨rfl, rfl⟩
  | v :: vs, env, σ, j, h => by
    simp only [List.mem_cons, not_or] at h
    obtain ⟨h1, h2⟩ := wipe_no (env := env) (σ := σ) h.2
    unfold wipeE wipe
    rw [List.getElem?_set_ne (fun e => h.1 e.symm), List.getElem?_set_ne (fun e => h.1 e.symm)]
    exact ⟨h1, h2⟩
theorem wipe_inS : ∀ {vs : List Nat} {j : Nat}, j ∈ vs → j < σ.length → (wipe σ vs)[j]? = some none
  | v :: vs, j, h, hl => by
    unfold wipe
    by_cases e : v = j
    · subst e; rw [List.getElem?_set_self (by rw [wipe_length]; exact hl)]
    · rw [List.getElem?_set_ne e]
      exact wipe_inS ((List.mem_cons.mp h).resolve_left fun z => e z.symm) hl
theorem wipe_alike {is vs : List Nat} {σ σ2 : St} (h : Alike is (wipe σ vs) σ2) (hs : ∀ i ∈ is, i ∈ vs) : wipe σ2 vs = wipe σ vs := by
  have l2 : σ2.length = σ.length := by rw [h.1, wipe_length]
  apply List.ext_getElem?
  intro j
  by_cases hj : j ∈ vs
  · by_cases hl : j < σ.length
    · rw [wipe_inS hj hl, wipe_inS hj (by rw [l2]; exact hl)]
    · rw [List.getElem?_eq_none (by rw [wipe_length, l2]; omega), List.getElem?_eq_none (by rw [wipe_length]; omega)]
  · rw [(wipe_no (env := []) (σ := σ2) hj).2, h.2 j fun z => hj (hs j z)]
theorem RepE.wipe (hE : RepE G H α σ env) (vs : List Nat) : RepE G H α (wipe σ vs) (wipeE env vs) ∧ ∀ a, Own (L2.wipe σ vs) (wipeE env vs) a → Own σ env a := by
  have conv : ∀ {j : Nat} {r : R}, (wipeE env vs)[j]? = some (some r) → env[j]? = some (some r) ∧ (L2.wipe σ vs)[j]? = σ[j]? := fun {j r} h => by
    by_cases hj : j ∈ vs
    · by_cases hl : j < env.length
      · rw [wipe_in hj hl] at h; cases h
      · rw [List.getElem?_eq_none (by rw [wipeE_length]; omega)] at h; cases h
    · obtain ⟨h1, h2⟩ := wipe_no (env := env) (σ := σ) hj
      rw [h1] at h
      exact ⟨h, h2⟩
  have own : ∀ a, Own (L2.wipe σ vs) (wipeE env vs) a → Own σ env a := fun a ⟨j, o, h1, h2⟩ => by
    obtain ⟨g1, g2⟩ := conv h1
    rw [g2] at h2
    exact ⟨j, o, g1, h2⟩
  refine ⟨⟨by rw [wipe_length, wipeE_length]; exact hE.len, fun j r hj => ?_, fun i j a o o' h1 h2 h3 h4 => ?_⟩, own⟩
  · obtain ⟨g1, g2⟩ := conv hj
    obtain ⟨v, f1, f2⟩ := hE.val j r g1
    exact ⟨v, by rw [g2]; exact f1, f2.own fun a _ _ _ _ z => own a z⟩
  · obtain ⟨g1, g2⟩ := conv h1
    obtain ⟨g3, g4⟩ := conv h2
    rw [g2] at h3
    rw [g4] at h4
    exact hE.sep i j a o o' g1 g3 h3 h4
end
theorem lc_of {G : Kx} {σ : St} {H : Hp} {Q : VK} {vs is : List Nat} {mi : Env → M Itm} {g : Tg} {t : Env → M Bool} {m : Env → M R} (his : ∀ i ∈ is, i ∈ vs) (h : tE G (eComp vs mi g t m) σ H Q) :
    tLc (tI G mi) (tG G is g) (tT G t) (tE G m) vs σ H Q := by
  obtain ⟨α, env, s0, r, st', hE, hS, hm, k⟩ := h
  obtain ⟨it, s1, e1, hm1⟩ := bind_run hm
  obtain ⟨ds, s2, e2, hm2⟩ := bind_run hm1
  obtain ⟨rfl, rfl⟩ := pure_inv hm2
  refine ⟨α, env, s0, it, s1, hE, hS, e1, fun α1 H1 J P W X1 S1 K1 P1 W1 Dd hD => ?_⟩
  have X0 : Ext Non α1 H1 α1 (upd H1 Dd (.lst [])) := Ext.new hD
  refine ⟨fun i n H2 => ∃ α2 st2 accV acc, n = it.ds.length - i ∧ i ≤ it.ds.length ∧ RepE G H2 α2 σ env ∧ RepS G H2 α2 st2 ∧ Ext Non α H α2 H2 ∧ (∀ a, H1 a ≠ none → H2 a ≠ none) ∧
      H2 Dd = some (.lst accV) ∧ RepL G H2 α2 accV acc ∧ Dd ∉ α2 ∧ (∀ a, W a → a ≠ Dd) ∧ (it.ck st2 → P α2 H2) ∧ compL it.ck g t m (wipeE env vs) (it.ds.drop i) acc st2 = some (ds, st'),
    ⟨it.ds.length, α1, s1, [], [], by simp, Nat.zero_le _, (hE.ext X1).ext X0, S1.new hD, X1.trans0 X0, fun a h z => h (X0.dom a z), upd_same, .nil, S1.fresh hD, fun a hw e => by
      subst e
      exact (W1 a hw).1 hD, fun hc => K1.keep Non α1 H1 α1 _ s1 (fun _ _ z => z) X0 P1 (S1.new hD) hc, by simpa using e2⟩, ?_⟩
  rintro i n H2 ⟨α2, st2, accV, acc, rfl, hi, E2, S2, X2, T2, D2, L2', N2, W2, P2, r2⟩
  by_cases hlt : i < it.ds.length
  · rw [List.drop_eq_getElem_cons hlt] at r2
    unfold compL at r2
    split at r2
    · rename_i hck
      have P2' := P2 hck
      obtain ⟨e3, s3, g3, r3⟩ := bind_run r2
      obtain ⟨c4, s4, g4, r4⟩ := bind_run r3
      refine .inr ⟨K1.go α2 i H2 P2' hlt, fun H' => ∃ α3 st3 accV acc, RepE G H' α3 σ env ∧ RepS G H' α3 st3 ∧ Ext Non α H α3 H' ∧ (∀ a, H1 a ≠ none → H' a ≠ none) ∧
        H' Dd = some (.lst accV) ∧ RepL G H' α3 accV acc ∧ Dd ∉ α3 ∧ (it.ck st3 → P α3 H') ∧ compL it.ck g t m (wipeE env vs) (it.ds.drop (i + 1)) acc st3 = some (ds, st'), ?_, fun x H3 y3 => ?_⟩
      · rintro H' ⟨α3, st3, accV, acc, E3, S3, X3, T3, D3, L3, N3, P3, r5⟩
        exact ⟨it.ds.length - (i + 1), by omega, α3, st3, accV, acc, rfl, hlt, E3, S3, X3, T3, D3, L3, N3, W2, P3, r5⟩
      · obtain ⟨hy, d, hd, rd⟩ := K1.yld α2 i H2 x H3 P2' hlt y3
        rw [List.getElem?_eq_getElem hlt] at hd
        cases hd
        have X23 : Ext Non α2 H2 α2 H3 := Ext.yld hy
        have E3 := E2.ext X23
        have S3 := S2.yld (G := G) hy
        obtain ⟨Ew, Ow⟩ := E3.wipe vs
        refine ⟨α2, wipeE env vs, _, st2, e3, s3, Ew, S3, rd, g3, fun σ4 α4 H4 X4 S4 E4 O4 A4 => ⟨wipe_alike A4 his, α4, e3, s3, c4, s4, E4, S4, g4, fun α5 H5 X5 S5 => ?_⟩⟩
        have X25 : Ext Non α2 H2 α5 H5 := (X23.trans0 X4).trans0 X5
        have D5 := X25.keep _ _ D2 N2 fun z => z
        have N5 := X25.notin D2 N2 fun z => z
        dsimp only
        split
        · rename_i hc
          rw [if_pos hc] at r4
          obtain ⟨r6, s6, g6, r5⟩ := bind_run r4
          obtain ⟨y6, s7, g7, r7⟩ := bind_run r5
          split at r7
          · rename_i hlen
            refine ⟨α5, e3, s4, r6, s6, E4.ext X5, S5, g6, fun v α6 H6 X6 S6 R6 => ?_⟩
            have X26 : Ext Non α2 H2 α6 H6 := X25.trans0 X6
            have D6 := X26.keep _ _ D2 N2 fun z => z
            have N6 := X26.notin D2 N2 fun z => z
            have L6 := L2'.ext X26
            cases r6 with
            | v d6 =>
              obtain ⟨rfl, rfl⟩ := pure_inv g7
              have Xu : Ext (fun c => c = Dd) α6 H6 α6 (upd H6 Dd (.lst (accV ++ [v]))) := Ext.upd1 D6 (fun _ e => nomatch e) (fun _ _ e => nomatch e) (.inr rfl)
              refine ⟨accV, D6, by have := lenOk_le hlen; rw [L6.length]; omega, α6, s7, accV ++ [v], acc ++ [y6], ?_, S6.updOwn D6 (fun _ e => nomatch e) (fun _ _ e => nomatch e) N6, ?_, fun a h z => T2 a h (X26.dom a (Xu.dom a z)), upd_same, ?_, N6, fun hck6 => ?_, r7⟩
              · -- the frame's own lists stand apart from the new one
                have E6 := E2.ext X26
                refine ⟨E6.len, fun j q hj => ?_, E6.sep⟩
                obtain ⟨w, f1, f2⟩ := E6.val j q hj
                refine ⟨w, f1, ?_⟩
                have apart : ∀ {b : Addr} {o : O}, (q = .l o ∨ q = .b o) → o.mov → w = .ref b → b ≠ Dd := fun {b o} e m e2 z => by
                  subst z e2
                  obtain ⟨w0, h1, h2⟩ := (hE.ext X1).val j q hj
                  rw [f1] at h1
                  cases h1
                  obtain ⟨u, hu⟩ := slot_some h2 e m
                  rw [hD] at hu; cases hu
                cases q with
                | v d => exact Rep.ext Xu f2
                | l o =>
                  obtain ⟨b, rfl, h1, h2, mm⟩ := f2
                  exact ⟨b, rfl, h1, RepO.ext h2 Xu fun _ u hu => by rw [upd_ne (apart (.inl rfl) mm rfl)]; exact hu, mm⟩
                | o o => exact f2
                | b o =>
                  obtain ⟨b, rfl, h1, h2⟩ := f2
                  exact ⟨b, rfl, RepO.ext h1 Xu fun mm u hu => by rw [upd_ne (apart (.inr rfl) mm rfl)]; exact hu, h2⟩
              · -- all that stood at the start stands
                have X06 := X2.trans0 X26
                refine ⟨X06.pre, fun a o h1 h2 h3 => ?_, fun a h => X06.dom a (Xu.dom a h), fun a xs h => Xu.tups a xs (X06.tups a xs h), fun a o u h => Xu.frzs a o u (X06.frzs a o u h)⟩
                have ne : a ≠ Dd := fun e => by
                  subst e
                  have := X1.dom _ hD
                  rw [h1] at this; cases this
                rw [upd_ne ne]
                exact X06.keep a o h1 h2 h3
              · exact (L6.ext Xu).append (.cons (Rep.ext Xu R6) .nil)
              · have P6 := K1.keep Non α2 H2 α6 H6 s7 (fun _ _ z => z) X26 P2' S6 hck6
                exact K1.keep (fun c => c = Dd) α6 H6 α6 _ s7 (fun a hw e => W2 a hw e) Xu P6 (S6.updOwn D6 (fun _ e => nomatch e) (fun _ _ e => nomatch e) N6) hck6
            | _ => exact nomatch (show (none : Option (D × Sto)) = some (y6, s7) from g7)
          · cases r7
        · rename_i hc
          rw [if_neg hc] at r4
          exact ⟨α5, s4, accV, acc, E2.ext X25, S5, X2.trans0 X25, fun a h z => T2 a h (X25.dom a z), D5, L2'.ext X25, N5, fun hck5 => K1.keep Non α2 H2 α5 H5 s4 (fun _ _ z => z) X25 P2' S5 hck5, r4⟩
    · cases r2
  · have e : it.ds.drop i = [] := List.drop_eq_nil_of_le (by omega)
    rw [e] at r2
    unfold compL at r2
    split at r2
    · rename_i hck
      injection r2 with r2
      injection r2 with z1 z2
      subst z1 z2
      have P2' := P2 hck
      exact .inl ⟨K1.stop α2 i H2 P2' (by omega), k _ α2 H2 X2 S2 ⟨Dd, rfl, X1.dom _ hD, N2, ⟨accV, D2, L2'⟩, trivial⟩⟩
    · cases r2
abbrev SimTs (X : Cx) (C : List Addr) (e : List Expr) (m : Env → M Bool) : Prop := PTs X e (tT (gx X C) m)
theorem PTs.wk {X : Cx} {e : List Expr} {t t' : TT} (h : PTs X e t) (w : ∀ σ H Q, t' σ H Q → t σ H Q) : PTs X e t' := ⟨fun pins s σ H Q I h' => h.run pins s σ H Q I (w _ _ _ h')⟩
section
variable {X : Cx} {C : List Addr} {elt tg iter : Expr} {ifs : List Expr} {scope : Scope} {own : List (Str × Nat)} {pos spos py : Pos} {mi : Env → M Itm} {g : Tg} {t : Env → M Bool} {m : Env → M R} {is : List Nat} {i : Nat} {y : Str}
theorem ts_nil : SimTs X C [] tTrue := PTs.wk pts_nil fun σ H Q h => by
  obtain ⟨α, env, st, r, st', hE, hS, hm, k⟩ := h
  obtain ⟨rfl, rfl⟩ := pure_inv hm
  exact k α H Ext.rfl' hS
theorem ts_one {c : Expr} (h : SimT X C c t) : SimTs X C [c] t := pts_one h
theorem comp (hc : X.calm = true) (hN : X.N.Nodup) (hi : SimI X C tg iter mi) (ok : BlkOk X.N X.env.scope scope own) (his : ∀ i ∈ is, i ∈ own.map (·.2))
    (hg : ∀ (s : Shared) (H : Hp) (A : Addr) (cl : List (Str × Addr)) (fp : List Addr), SimG (X.blk s H scope (compEnvC scope cl A X.env) fp) C tg is g)
    (ht : ∀ (s : Shared) (H : Hp) (A : Addr) (cl : List (Str × Addr)) (fp : List Addr), SimTs (X.blk s H scope (compEnvC scope cl A X.env) fp) C ifs t)
    (he : ∀ (s : Shared) (H : Hp) (A : Addr) (cl : List (Str × Addr)) (fp : List Addr), SimE (X.blk s H scope (compEnvC scope cl A X.env) fp) C elt m)
    (hs : ∀ x, foldedSetIterable iter X.env x = pure x := by intro _; rfl) : SimE X C (.ListComp elt [⟨tg, iter, ifs, 0⟩] scope pos) (eComp (own.map (·.2)) mi g t m) :=
  (pe_lc hc hN hi ok hg ht he hs).wk fun _ _ _ h => lc_of his h
theorem s_setC (hc : X.calm = true) (hN : X.N.Nodup) (hy : X.N[i]? = some y) (hyl : X.env.scope.names.lookup y = some .local)
    (hsw : swapsWith (.ListComp elt [⟨tg, iter, ifs, 0⟩] scope pos) (some (.Name y py)) spos.line X.env = pure true) (hi : SimI X C tg iter mi) (ok : BlkOk X.N X.env.scope scope own) (his : ∀ i ∈ is, i ∈ own.map (·.2))
    (hg : ∀ (s : Shared) (H : Hp) (A : Addr) (cl : List (Str × Addr)) (fp : List Addr), SimG (X.blk s H scope (compEnvC scope cl A X.env) fp) C tg is g)
    (ht : ∀ (s : Shared) (H : Hp) (A : Addr) (cl : List (Str × Addr)) (fp : List Addr), SimTs (X.blk s H scope (compEnvC scope cl A X.env) fp) C ifs t)
    (he : ∀ (s : Shared) (H : Hp) (A : Addr) (cl : List (Str × Addr)) (fp : List Addr), SimE (X.blk s H scope (compEnvC scope cl A X.env) fp) C elt m)
    (hs : ∀ x, foldedSetIterable iter X.env x = pure x := by intro _; rfl) : SimS X C (.Assign [.Name y py] (.ListComp elt [⟨tg, iter, ifs, 0⟩] scope pos) spos) (sSet i (eComp (own.map (·.2)) mi g t m)) :=
  (ps_setLc hc hN hy hyl hsw hi ok hg ht he hs).wk fun D' σ H h => lc_of (Q := fun x H1 => gName i x σ H1 D'.nx) his (set_of h)
theorem s_setCL (hc : X.calm = true) (hN : X.N.Nodup) (hy : X.N[i]? = some y) (hyl : X.env.scope.names.lookup y = some .local)
    (hsw : swapsWith (.ListComp elt [⟨tg, iter, ifs, 0⟩] scope pos) (some (.Name y py)) spos.line X.env = pure true) (hi : SimI X C tg iter mi) (ok : BlkOk X.N X.env.scope scope own) (his : ∀ i ∈ is, i ∈ own.map (·.2))
    (hg : ∀ (s : Shared) (H : Hp) (A : Addr) (cl : List (Str × Addr)) (fp : List Addr), SimG (X.blk s H scope (compEnvC scope cl A X.env) fp) C tg is g)
    (ht : ∀ (s : Shared) (H : Hp) (A : Addr) (cl : List (Str × Addr)) (fp : List Addr), SimTs (X.blk s H scope (compEnvC scope cl A X.env) fp) C ifs t)
    (he : ∀ (s : Shared) (H : Hp) (A : Addr) (cl : List (Str × Addr)) (fp : List Addr), SimE (X.blk s H scope (compEnvC scope cl A X.env) fp) C elt m)
    (hs : ∀ x, foldedSetIterable iter X.env x = pure x := by intro _; rfl) : SimS X C (.Assign [.Name y py] (.ListComp elt [⟨tg, iter, ifs, 0⟩] scope pos) spos) (sSetL i (eComp (own.map (·.2)) mi g t m)) :=
  (ps_setLc hc hN hy hyl hsw hi ok hg ht he hs).wk fun D' σ H h => lc_of (Q := fun x H1 => gName i x σ H1 D'.nx) his (setL_of h)
end

/-! ### defs -/
/-- an argument as the def takes it: lists are lent -/
def lend : R → R
  | .l o => .b o
  | .o o => .b o
  | r => r
def runFn (n : Nat) (body : Env → M Fl) : List R → M R := fun rs => body (rs.map some ++ List.replicate n none) >>= fun fl => match fl with
  | .rt r => pure (toO r)
  | .nx _ => pure (.v .non)
  | _ => M.fail
/-- what a def promises: it does m; np parameters -/
inductive ArgRs (G : Kx) (H : Hp) (α : List Addr) : List V → List R → Prop
  | nil : ArgRs G H α [] []
  | v {x : V} {xs : List V} {d : D} {rs : List R} : Rep G H α x d → ArgRs G H α xs rs → ArgRs G H α (x :: xs) (.v d :: rs)
  | b {a : Addr} {xs : List V} {o : O} {rs : List R} : RepB G H α Non a o → ArgRs G H α xs rs → ArgRs G H α (.ref a :: xs) (.b o :: rs)
def spF (G : Kx) (np : Nat) (m : List R → M R) : Sp := fun vs H Q _ => vs.length = np ∧ ∃ α rs st r st', ArgRs G H α vs rs ∧ RepS G H α st ∧ m rs st = some (r, st') ∧
  ∀ v α' H', Ext Non α H α' H' → RepS G H' α' st' → RepR G H' α' (Fresh H) Non v r → Q v H'
theorem argRs_get {G : Kx} {H : Hp} {α : List Addr} : ∀ {vs : List V} {rs : List R} {i : Nat} {r : R}, ArgRs G H α vs rs → rs[i]? = some r → ∃ v, vs[i]? = some v ∧ ((∃ d, r = .v d ∧ Rep G H α v d) ∨ ∃ a o, r = .b o ∧ v = .ref a ∧ RepB G H α Non a o)
  | _, _, _, _, .nil, h => by simp at h
  | _, _, 0, _, .v h1 _, h => by simp at h; subst h; exact ⟨_, rfl, .inl ⟨_, rfl, h1⟩⟩
  | _, _, 0, _, .b h1 _, h => by simp at h; subst h; exact ⟨_, rfl, .inr ⟨_, _, rfl, rfl, h1⟩⟩
  | _, _, i + 1, _, .v _ s, h => by
    obtain ⟨v, h1, h2⟩ := argRs_get (i := i) s (by simpa using h)
    exact ⟨v, by simpa using h1, h2⟩
  | _, _, i + 1, _, .b _ s, h => by
    obtain ⟨v, h1, h2⟩ := argRs_get (i := i) s (by simpa using h)
    exact ⟨v, by simpa using h1, h2⟩
theorem argRs_len {G : Kx} {H : Hp} {α : List Addr} : ∀ {vs : List V} {rs : List R}, ArgRs G H α vs rs → vs.length = rs.length
  | _, _, .nil => rfl
  | _, _, .v _ s => congrArg (· + 1) (argRs_len s)
  | _, _, .b _ s => congrArg (· + 1) (argRs_len s)
theorem lend_ok {G : Kx} {H : Hp} {α : List Addr} {fr own : Addr → Prop} : ∀ {vs : List V} {rs : List R}, RepRs G H α fr own vs rs → ArgRs G H α vs (rs.map lend)
  | _, _, .nil => .nil
  | _, _, .cons (r := .v d) h s _ => .v h (lend_ok s)
  | _, _, .cons (r := .l o) h s _ => by
    obtain ⟨a, rfl, _, hn, ro, _⟩ := h
    exact .b ⟨ro, fun _ => ⟨hn, fun z => z⟩⟩ (lend_ok s)
  | _, _, .cons (r := .o o) h s _ => by
    obtain ⟨a, rfl, h⟩ := h
    exact .b h (lend_ok s)
  | _, _, .cons (r := .b o) h s _ => by
    obtain ⟨a, rfl, h, w⟩ := h
    exact .b ⟨h, fun m => ⟨(w m).1, fun z => z⟩⟩ (lend_ok s)
/-- the body of a def -/
theorem body_of {X : Cx} {C : List Addr} {body : List Stmt} {mb : Env → M Fl} {vs : List V} {N : List Str} {H : Hp} {Q : VK} {np n : Nat} {E : XK} (hn : N.length = np + n) (hb : SimSs X C body mb) (h : spF (gx X C) np (runFn n mb) vs H Q E) :
    ∃ t, PSs X body t ∧ t { nx := fun _ H' => Q .non H', rt := Q } (L2.start N vs) H := by
  obtain ⟨hl, α, rs, st, r, st', hA, hS, hm, k⟩ := h
  refine ⟨_, hb, ?_⟩
  obtain ⟨fl, s1, e1, hm1⟩ := bind_run hm
  have lenr : rs.length = np := by rw [← argRs_len hA]; exact hl
  have noown : ∀ a, ¬ Own (L2.start N vs) (rs.map some ++ List.replicate n none) a := fun a ⟨i, o, h1, _⟩ => by
    by_cases hi : i < rs.length
    · rw [List.getElem?_append_left (by simpa using hi), List.getElem?_map, List.getElem?_eq_getElem hi] at h1
      obtain ⟨v, _, h⟩ := argRs_get hA (List.getElem?_eq_getElem hi)
      rcases h with ⟨d, e, _⟩ | ⟨a, o, e, _⟩ <;> (rw [e] at h1; cases h1)
    · rw [List.getElem?_append_right (by simpa using hi)] at h1
      rw [List.getElem?_replicate] at h1
      split at h1 <;> cases h1
  refine ⟨α, rs.map some ++ List.replicate n none, st, fl, s1, ⟨?_, fun i q hi => ?_, fun i j a o o' h1 _ h3 _ => (noown a ⟨i, o, h1, h3⟩).elim⟩, hS, e1, fun α1 H1 X1 S1 => ?_⟩
  · unfold L2.start
    simp only [List.length_append, List.length_map, List.length_replicate]
    omega
  · by_cases hlt : i < rs.length
    · rw [List.getElem?_append_left (by simpa using hlt), List.getElem?_map] at hi
      rw [List.getElem?_eq_getElem hlt] at hi
      have hi' : rs[i] = q := by simpa using hi
      obtain ⟨v, g1, h⟩ := argRs_get hA (List.getElem?_eq_getElem hlt)
      refine ⟨v, ?_, ?_⟩
      · unfold L2.start
        rw [List.getElem?_append_left (by rw [List.length_map]; omega), List.getElem?_map, g1]
        rfl
      · rw [hi'] at h
        rcases h with ⟨d, rfl, h⟩ | ⟨a, o, rfl, rfl, h, w⟩
        · exact h
        · exact ⟨a, rfl, h, fun m => ⟨(w m).1, noown a⟩⟩
    · rw [List.getElem?_append_right (by simpa using hlt), List.getElem?_replicate] at hi
      split at hi <;> cases hi
  · have X1' : Ext Non α H α1 H1 := X1.mono noown
    cases fl with
    | rt q =>
      obtain ⟨rfl, rfl⟩ := pure_inv hm1
      intro v hv
      refine k v α1 H1 X1' S1 ((toO_ok hv).mono fun a ha => ha.resolve_right (noown a))
    | nx e =>
      obtain ⟨rfl, rfl⟩ := pure_inv hm1
      intro σ' _ _
      exact k _ α1 H1 X1' S1 .non
    | bk e => cases hm1
    | ct e => cases hm1
theorem fn_ok {P : Program} {w : World} {K : PySem.W.Frag} {mg : Str → Option Value} {base : Heap} {C : List Addr} {x qual : Str} {st : Stmt} {f : Addr} {fd : FuncData} {N ps : List Str} {k n : Nat} {mb : Env → M Fl}
    (F : Fun K x qual st f fd) (S : FnScope N ps (defScope st)) (hn : N.length = ps.length + n)
    (hb : ∀ (cdv : Value) (A : Around) (outer : List PySem.Env) (s : Shared) (H : Hp) (E : XK), Room k (A.deeper (envOfC qual (defScope st) s.heap.objs.size f cdv)) → SimSs (cxOf CX0 P w K mg base N qual (defScope st) f cdv A outer s H E).nox C (defBody st) mb) :
    FnOk P w K mg base CX0 (k + 1) f fd ps (spF ⟨K, C⟩ ps.length (runFn n mb)) :=
  F.ok S (fun vs H Q E h => h.1) fun cdv A outer s H vs Q E hr h => body_of (X := (cxOf CX0 P w K mg base N qual (defScope st) f cdv A outer s H E).nox) hn (hb cdv A outer s H E hr) h
/-- a call of a def -/
def eCall (np : Nat) (m : List R → M R) (ms : Env → M (List R)) : Env → M R := fun env => ms env >>= fun rs => if rs.length = np then m (rs.map lend) >>= fun r => pure (toO r) else M.fail
section
variable {X : Cx} {C : List Addr} {e : Expr} {es : List Expr} {ms : Env → M (List R)} {x : Str} {p pos : Pos} {k np : Nat} {f : Addr} {fd : FuncData} {ps : List Str} {m : List R → M R}
theorem to_call {G : Kx} {σ : St} {H : Hp} {Q : VK} {E : XK} (h : tE G (eCall np m ms) σ H Q) : tCall (spF G np m) [] E (tA G ms) σ H Q := by
  obtain ⟨α, env, st, r, st', hE, hS, hm, k⟩ := h
  obtain ⟨rs, s1, e1, e2⟩ := bind_run hm
  refine ⟨α, env, st, rs, s1, hE, hS, e1, fun vs α1 H1 X1 S1 R1 => ?_⟩
  split at e2
  · rename_i hl
    obtain ⟨r1, s2, e3, e4⟩ := bind_run e2
    obtain ⟨rfl, rfl⟩ := pure_inv e4
    rw [List.append_nil]
    have hA := lend_ok R1
    refine ⟨by rw [argRs_len hA, List.length_map]; exact hl, α1, _, s1, r1, _, hA, S1, e3, fun v α2 H2 X2 S2 R2 => k _ α2 H2 (X1.trans0 X2) S2 ?_⟩
    have R3 := (toO_ok R2).mono (fr' := Fresh H) fun a h => X1.dom _ h
    revert R3
    cases r1 <;> exact fun z => z
  · cases e2
theorem call (F : FnOk X.prog X.w X.K X.mg X.base L2.CX0 k f fd ps (spF (gx X C) np m)) (hr : Room k X.A) (hg : Gl X x) (hm : X.mg x = some (.ref f)) (hk : PySem.W.keepIn X.K (.ref f) = true) (hb : Binds X.K fd ps [])
    (ha : SimA X C (e :: es) ms) (hdb : (x == ("__debug__" : Str)) = false := by decide) (he : starEach (e :: es) X.env = (false, eval e X.env) :: starEach es X.env := by rfl) (hpl : (backTo pos (starEach es X.env)).any (·.1) = false := by rfl) :
    SimE X C (.Call (.Name x p) (e :: es) [] pos) (eCall np m ms) :=
  (pe_call F hr hg hm hk hb .nil pass0 ha hdb he hpl).wk fun _ _ _ h => to_call h
theorem call0 (F : FnOk X.prog X.w X.K X.mg X.base L2.CX0 k f fd ps (spF (gx X C) np m)) (hr : Room k X.A) (hg : Gl X x) (hm : X.mg x = some (.ref f)) (hk : PySem.W.keepIn X.K (.ref f) = true) (hb : Binds X.K fd ps [])
    (hdb : (x == ("__debug__" : Str)) = false := by decide) :
    SimE X C (.Call (.Name x p) [] [] pos) (eCall np m (fun _ => pure [])) :=
  (pe_call0 F hr hg hm hk hb .nil pass0 hdb).wk fun _ _ _ h => by
    obtain ⟨α, env, st, r, st', hE, hS, hm, k⟩ := to_call (G := gx X C) (E := fun _ _ _ => False) h
    obtain ⟨rfl, rfl⟩ := pure_inv hm
    exact k [] α _ Ext.rfl' hS .nil
end
end Mi
/-! Mi: what the printer of walks leans on. -/
namespace Mi
open PySem PySem.Spec PyProof.Rows L2
section
variable {X : Cx} {C : List Addr} {e a b : Expr} {es : List Expr} {pos p : Pos} {x : Str}
/-- a local name -/
theorem vv (i : Nat) (hN : X.N[i]? = some x := by rfl) (hv : Vis X.env.scope x := by first | exact Or.inl rfl | exact Or.inr (Or.inl rfl) | exact Or.inr (Or.inr rfl))
    (hd : (x == ("__debug__" : Str)) = false := by decide) (hcd : (x == ("__classdict__" : Str)) = false := by decide) : SimE X C (.Name x pos) (eVar i) := var hN hv hd hcd
theorem globI {i : Int} (h : ∃ t, X.mg x = some (.int i t)) (hg : Gl X x := by rfl) (hd : (x == ("__debug__" : Str)) = false := by decide) : SimE X C (.Name x pos) (eC (.int i)) := by
  obtain ⟨t, h⟩ := h
  exact glob (v := .int i) hg h ⟨t, rfl⟩ (fun _ _ => .int i) hd
theorem globS {z : Str} (h : ∃ t, X.mg x = some (.str z t)) (hg : Gl X x := by rfl) (hd : (x == ("__debug__" : Str)) = false := by decide) : SimE X C (.Name x pos) (eC (.str z)) := by
  obtain ⟨t, h⟩ := h
  exact glob (v := .str z) hg h ⟨t, rfl⟩ (fun _ _ => .str z) hd
end
/-! ### defs -/
structure DefOk (K : PySem.W.Frag) (mg : Str → Option Value) (x : Str) (st : Stmt) : Prop where
  ex : ∃ fd, FunD K x x (defArgs st) (defBody st) (defScope st) [] [] (He.ga K x) fd
  mg : mg x = some (.ref (He.ga K x))
def OkF (P : Program) (w : World) (K : PySem.W.Frag) (mg : Str → Option Value) (base : Heap) (C : List Addr) (x : Str) (k : Nat) (ps : List Str) (m : List R → M R) : Prop :=
  ∃ fd, FnOk P w K mg base L2.CX0 k (He.ga K x) fd ps (spF ⟨K, C⟩ ps.length m) ∧ L2.Binds K fd ps [] ∧ PySem.W.keepIn K (.ref (He.ga K x)) = true ∧ mg x = some (.ref (He.ga K x)) ∧ ∃ oc od osl, K.lookup (He.ga K x) = some ⟨oc, od, .func fd, osl⟩
theorem looked {K : PySem.W.Frag} {x q : Str} {ar : Arguments} {b : List Stmt} {sc : Scope} {dv : List L2.V} {kw : List (Str × L2.V)} {f : Addr} {fd : FuncData} (F : FunD K x q ar b sc dv kw f fd) : ∃ oc od osl, K.lookup f = some ⟨oc, od, .func fd, osl⟩ := by
  obtain ⟨oc, od, dV, kV, doc, pm, an, cdv, ct, osl, h1, h2, _⟩ := F.ex
  exact ⟨oc, od, osl, h2⟩
theorem sameFn {K : PySem.W.Frag} {f : Addr} {fd fd' : FuncData} (h : ∃ oc od osl, K.lookup f = some ⟨oc, od, .func fd, osl⟩) (h' : ∃ oc od osl, K.lookup f = some ⟨oc, od, .func fd', osl⟩) : fd = fd' := by
  obtain ⟨_, _, _, h⟩ := h
  obtain ⟨_, _, _, h'⟩ := h'
  rw [h] at h'
  cases h'
  rfl
/-- a list as it comes from outside -/
theorem seqB {G : Kx} {H : Hp} {a : Addr} {ns : List Int} (h : SqL G.K H a (ns.map L2.V.int)) : ∃ o, (o = .lst (ns.map .int) ∨ o = .cst (ns.map .int)) ∧ RepB G H [] Non a o := by
  rcases h with h | h
  · rcases h with h | ⟨u, h⟩
    · exact ⟨_, .inl rfl, ⟨_, h, RepL.ofInts ns⟩, fun _ => ⟨by simp, fun z => z⟩⟩
    · exact ⟨_, .inr rfl, ⟨_, .inl ⟨u, h⟩, RepL.ofInts ns⟩, fun z => z.elim⟩
  · exact ⟨_, .inr rfl, ⟨_, .inr h, RepL.ofInts ns⟩, fun z => z.elim⟩
theorem RepS.nil {G : Kx} {H : Hp} : RepS G H [] [] := ⟨rfl, List.nodup_nil, fun n o a h => by simp at h, fun n o h => by simp at h⟩
theorem okF {P : Program} {w : World} {K : PySem.W.Frag} {mg : Str → Option Value} {base : Heap} {C : List Addr} {x : Str} {st : Stmt} {N ps : List Str} {k n : Nat} {mb : Env → M Fl}
    (D : DefOk K mg x st) (S : FnScope N ps (defScope st)) (hn : N.length = ps.length + n)
    (hb : ∀ (kV doc pm : Value) (an : Option Addr) (cdv ct : Value) (us : List Value), us.length = ps.length → bindArgs (PySem.W.fnOf x x (defArgs st) (defBody st) (defScope st) .none kV doc pm an cdv ct) ⟨us, []⟩ = pure (ps.zip us))
    (h : ∀ (cdv : Value) (A : Around) (outer : List PySem.Env) (s : Shared) (H : Hp) (E : XK), Room k (A.deeper (envOfC x (defScope st) s.heap.objs.size (He.ga K x) cdv)) → SimSs (cxOf L2.CX0 P w K mg base N x (defScope st) (He.ga K x) cdv A outer s H E).nox C (defBody st) mb) :
    OkF P w K mg base C x (k + 1) ps (runFn n mb) := by
  obtain ⟨fd, F⟩ := D.ex
  refine ⟨fd, F.ok S (fun vs H Q E h => h.1) fun cdv A outer s H vs Q E hr hs => ?_, F.bindsN hb, F.kp, D.mg, looked F⟩
  obtain ⟨t, h1, h2⟩ := body_of (X := (cxOf L2.CX0 P w K mg base N x (defScope st) (He.ga K x) cdv A outer s H E).nox) hn (h cdv A outer s H E hr) hs
  exact ⟨t, h1.nox, h2⟩
section
variable {X : Cx} {C : List Addr} {e : Expr} {es : List Expr} {ms : Env → M (List R)} {x : Str} {p pos : Pos} {j k : Nat} {ps : List Str} {m : List R → M R}
theorem callF (F : OkF X.prog X.w X.K X.mg X.base C x j ps m) (hr : Room k X.A) (ha : SimA X C (e :: es) ms) (hj : j ≤ k := by decide) (hg : Gl X x := by rfl) (hdb : (x == ("__debug__" : Str)) = false := by decide) (he : starEach (e :: es) X.env = (false, eval e X.env) :: starEach es X.env := by rfl) (hpl : (backTo pos (starEach es X.env)).any (·.1) = false := by rfl) :
    SimE X C (.Call (.Name x p) (e :: es) [] pos) (eCall ps.length m ms) := by
  obtain ⟨fd, F, hb, hk, hm, _⟩ := F
  exact call F (hr.mono hj) hg hm hk hb ha hdb he hpl
theorem callF0 (F : OkF X.prog X.w X.K X.mg X.base C x j ps m) (hr : Room k X.A) (hj : j ≤ k := by decide) (hg : Gl X x := by rfl) (hdb : (x == ("__debug__" : Str)) = false := by decide) :
    SimE X C (.Call (.Name x p) [] [] pos) (eCall ps.length m (fun _ => pure [])) := by
  obtain ⟨fd, F, hb, hk, hm, _⟩ := F
  exact call0 F (hr.mono hj) hg hm hk hb hdb
end
end Mi
/-! Mi: x[i] = v, list(range(..)), sorted(set(..)). -/
namespace Mi
open PySem PySem.Spec PyProof.Rows L2

/-! ### x[i] = v, x a list with a number -/
def gItem (mo mi : Env → M R) : Tg := fun d env => mo env >>= fun o => lstNo o >>= fun n => mi env >>= fun i => match i with
  | .v (.int k) => fun st => match stAt n st with
    | some ds => match ixN ds.length k with
      | some j => some (env, st.set n (.lst (ds.set j d)))
      | none => none
    | none => none
  | _ => M.fail
section
variable {X : Cx} {C : List Addr} {o i : Expr} {mo mi : Env → M R} {pos : Pos}
theorem g_item (ho : SimE X C o mo) (hi : SimE X C i mi) (ha : ∀ v, assign (.Subscript o i pos) X.env v = (do
      let ov ← holding [v] (eval o X.env); let iv ← holding [v, ov] (eval i X.env)
      standAt pos
      (holding [v, ov, iv] (setItem ov iv v)); release [v, ov, iv] []) := by intro _; rfl) : SimG X C (.Subscript o i pos) [] (gItem mo mi) :=
  PG.wk (pg_sub ho hi set_list ha) fun v σ H Q h => by
    obtain ⟨α, env, d, st, env', st', hE, hS, hd, hm, k⟩ := h
    obtain ⟨ro, s1, e1, hm1⟩ := bind_run hm
    obtain ⟨n, s2, e2, hm2⟩ := bind_run hm1
    obtain ⟨ri, s3, e3, hm3⟩ := bind_run hm2
    refine ⟨α, env, st, ro, s1, hE, hS, e1, fun vo α1 H1 X1 S1 R1 => ?_⟩
    obtain ⟨rfl, a, xs1, rfl, hα, ha1⟩ := lstNo_ok R1 S1 e2
    refine ⟨α1, env, _, ri, s3, hE.ext X1, S1, e3, fun vi α2 H2 X2 S2 R2 => ?_⟩
    cases ri with
    | v dk =>
      cases dk with
      | int ki =>
        cases R2
        have hm4 : (match stAt n s3 with
          | some ds => match ixN ds.length ki with
            | some j => some (env, s3.set n (.lst (ds.set j d)))
            | none => none
          | none => none) = some (env', st') := hm3
        split at hm4
        · rename_i ds q1
          have q2 := stAt_ok q1
          split at hm4
          · rename_i j q3
            injection hm4 with hm4
            injection hm4 with z1 z2
            subst z1 z2
            obtain ⟨xs, h1, h2⟩ := S2.obj n _ _ q2 (X2.pre0 hα)
            have hin : a ∈ α2 := List.mem_of_getElem? (X2.pre0 hα)
            refine ⟨a, xs, ki, j, rfl, rfl, h1, by rw [h2.length]; exact q3, ?_⟩
            have X3 : Ext Non α2 H2 α2 (upd H2 a (.lst (xs.set j v))) := Ext.upd1 h1 (fun _ e => nomatch e) (fun _ _ e => nomatch e) (.inl hin)
            have X12 := (X1.trans0 X2)
            exact k σ α2 _ (X12.trans0 X3) (S2.updObj q2 (X2.pre0 hα) h1 (RepL.set (Rep.ext X12 hd) j h2)) (hE.ext (X12.trans0 X3)) (fun a h => .inl h) Alike.refl
          · cases hm4
        · cases hm4
      | _ => exact nomatch (show (none : Option (Env × Sto)) = some (env', st') from hm3)
    | _ => exact nomatch (show (none : Option (Env × Sto)) = some (env', st') from hm3)
end

/-! ### list(range(..)) -/
def rgD (i j : Int) : List D := (List.range (j - i).toNat).map fun k => .int (i + (k : Nat))
def rgIn (i j : Int) : Bool := decide (-4611686018427387904 ≤ i) && decide (i < 4611686018427387904) && decide (-4611686018427387904 ≤ j) && decide (j < 4611686018427387904) && decide ((j - i).toNat ≤ 16777216)
def eLR (i j : Int) : M R := if rgIn i j = true then pure (.l (.lst (rgD i j))) else M.fail
def eLR1 (ma : Env → M R) : Env → M R := fun env => ma env >>= fun a => match a with
  | .v (.int n) => eLR 0 n
  | _ => M.fail
def eLR2 (ma mb : Env → M R) : Env → M R := fun env => ma env >>= fun a => mb env >>= fun b => match a, b with
  | .v (.int i), .v (.int j) => eLR i j
  | _, _ => M.fail
section
variable {X : Cx} {C : List Addr} {a b : Expr} {ma mb : Env → M R} {p p2 q pos : Pos}
theorem rgIn_ok {i j : Int} (h : rgIn i j = true) : RgOk i j := by
  unfold rgIn at h
  (simp only [Bool.and_eq_true, decide_eq_true_eq] at h); exact ⟨h.1.1.1.1, h.1.1.1.2, h.1.1.2, h.1.2, h.2⟩
theorem rgV_rep {G : Kx} {H : Hp} {α : List Addr} {i j : Int} : RepL G H α (rgV i j) (rgD i j) := by
  unfold rgV rgD
  generalize List.range (j - i).toNat = l
  induction l with
  | nil => exact .nil
  | cons x l ih => exact .cons (.int _) ih
theorem listR1 (hg : Gl X "list") (hm : X.mg "list" = none) (hg2 : Gl X "range") (hm2 : X.mg "range" = none) (ha : SimE X C a ma) (hc : X.calm = true := by rfl)
    (na : starEach [a] X.env = (false, eval a X.env) :: starEach [] X.env := by rfl) (nb : starEach [.Call (.Name "range" p2) [a] [] q] X.env = (false, eval (.Call (.Name "range" p2) [a] [] q) X.env) :: starEach [] X.env := by rfl) :
    SimE X C (.Call (.Name "list" p) [.Call (.Name "range" p2) [a] [] q] [] pos) (eLR1 ma) :=
  (pe_listRg hc hg hm (prg_1 hg2 hm2 ha na) nb).wk fun σ H Q h => by
    obtain ⟨α, env, st, r, st', hE, hS, hm, k⟩ := h
    obtain ⟨ra, s1, e1, hm1⟩ := bind_run hm
    refine ⟨α, env, st, ra, s1, hE, hS, e1, fun v α1 H1 X1 S1 R1 => ?_⟩
    split at hm1
    · rename_i n
      cases R1
      unfold eLR at hm1
      split at hm1
      · rename_i hc
        obtain ⟨rfl, rfl⟩ := pure_inv hm1
        refine ⟨n, rfl, rgIn_ok hc, fun p hp => endL (fun v α2 H2 X2 S2 R2 => k v α2 H2 (X1.trans0 X2) S2 (R2.mono fun a h => X1.dom _ h)) S1 hp rgV_rep⟩
      · cases hm1
    · cases hm1
theorem listR2 (hg : Gl X "list") (hm : X.mg "list" = none) (hg2 : Gl X "range") (hm2 : X.mg "range" = none) (ha : SimE X C a ma) (hb : SimE X C b mb) (hc : X.calm = true := by rfl)
    (na : starEach [a, b] X.env = (false, eval a X.env) :: starEach [b] X.env := by rfl) (nb : starEach [b] X.env = (false, eval b X.env) :: starEach [] X.env := by rfl) (hp : (backTo q (starEach [b] X.env)).any (·.1) = false := by rfl)
    (nc : starEach [.Call (.Name "range" p2) [a, b] [] q] X.env = (false, eval (.Call (.Name "range" p2) [a, b] [] q) X.env) :: starEach [] X.env := by rfl) :
    SimE X C (.Call (.Name "list" p) [.Call (.Name "range" p2) [a, b] [] q] [] pos) (eLR2 ma mb) :=
  (pe_listRg hc hg hm (prg_2 hg2 hm2 ha hb na nb hp) nc).wk fun σ H Q h => by
    obtain ⟨α, env, st, r, st', hE, hS, hm, k⟩ := h
    obtain ⟨ra, s1, e1, hm1⟩ := bind_run hm
    obtain ⟨rb, s2, e2, hm2⟩ := bind_run hm1
    refine ⟨α, env, st, ra, s1, hE, hS, e1, fun v α1 H1 X1 S1 R1 => ⟨α1, env, _, rb, s2, hE.ext X1, S1, e2, fun w α2 H2 X2 S2 R2 => ?_⟩⟩
    split at hm2
    · rename_i i j
      cases R1
      cases R2
      unfold eLR at hm2
      split at hm2
      · rename_i hc
        obtain ⟨rfl, rfl⟩ := pure_inv hm2
        refine ⟨i, j, rfl, rfl, rgIn_ok hc, fun p hp => endL (fun v α3 H3 X3 S3 R3 => k v α3 H3 ((X1.trans0 X2).trans0 X3) S3 (R3.mono fun a h => (X1.trans0 X2).dom _ h)) S2 hp rgV_rep⟩
      · cases hm2
    · cases hm2
end

/-! ### sorted(set(xs)), xs a list of ints -/
section
variable {P : Program} {w : World} {A : Around} {E : Value → Shared → Prop} {s : Shared}
/-- the bare set that set(..) makes first -/
abbrev bareSet (w : World) : Obj := { cls := .type "set", dict := none, data := .set #[] 0 (.fresh 0 0 (!w.params.followText "set-order")) }
set_option maxHeartbeats 3200000 in
theorem set_of_list {l : Addr} {items : Array Value} (ns : List Int) {Q : Value → Shared → Prop} (hh : A.handled = none) (hl : s.heap.IsList l items) (hit : IntsAre items.toList ns) (hb : ns.length + 1 < scanBound) (h : ∀ (h' : Heap) (tk c : Nat), SetR w h' s.heap.objs.size (fun j => decide (j ∈ ns)) c → c ≤ ns.length → (∀ b o, s.heap.get? b = some o → h'.get? b = some o) → Q (.ref s.heap.objs.size) { s with heap := h', toks := tk }) :
    wpAny (model P w) A (PySem.call (.type "set") [.ref l]) Q E s := by
  have size : items.size = ns.length := (Array.length_toList).symm.trans (IntsAre.length hit)
  obtain ⟨mc, mt, hmro⟩ := F.called_set.mro
  (have hmade := F.called_set.made); have hsub := F.called_set.sub
  (refine wpAny_call (codeAny_of_tree ?_)); show wpAny _ _ (callAny (.type "set") _) _ _ _
  (refine wpAny_pure ⟨Code.quiet_builtin _ (by decide +kernel), codeAny_builtin F.entry_type_call ?_⟩); rw [Around.under_plain (weight_type_call_type "set" [.ref l] []) rfl]
  (have h1 := F.called_set.notType); have h2 := F.called_set.canCreate
  (have hct := F.typeCall_set_1 (.ref l)); repeat (any_goals (first | assumption | wp_step))
  refine codeAny_mono (code_set_led1 (.ref l) (E := E) (Q₁ := fun obj s₁ => obj = .ref s.heap.objs.size ∧ s₁ = { s with heap := s.heap.push (bareSet w) }) ⟨rfl, rfl⟩) fun r s₁ hr => ?_
  rcases r with e | fl
  · exact hr
  cases fl with
  | ret obj =>
    obtain ⟨rfl, rfl⟩ := hr
    have atS : (s.heap.push (bareSet w)).get? s.heap.objs.size = some (bareSet w) := Heap.get?_push_size _ rfl
    have hT : Shared.TypeIs { s with heap := s.heap.push (bareSet w) } (.ref s.heap.objs.size) "set" := ⟨_, atS, rfl⟩
    (have hli := F.called_set.init.lookup); have hbi := F.called_set.init.bind (.ref s.heap.objs.size)
    (repeat (any_goals (first | assumption | wp_step))); refine codeAny_mono (codeAny_call_builtin (R := wants (fun r s₂ => r = .none ∧ ∃ h' tk c, s₂ = { s with heap := h', toks := tk } ∧ SetR w h' s.heap.objs.size (fun j => decide (j ∈ ns)) c ∧ c ≤ ns.length ∧
        (∀ b o, s.heap.get? b = some o → h'.get? b = some o)) E) F.called_set.init.plain F.entry_set_init (check_set_init_1 hT ?_)) fun r₂ s₂ hr₂ => ?_
    · obtain ⟨ol, hol, hcl, nl, hdl⟩ := hl
      (obtain ⟨ocls, odict, odata, oslots⟩ := ol); simp only at hcl hdl
      subst hcl hdl
      have hol' : (s.heap.push (bareSet w)).get? l = some { cls := .type "list", dict := odict, data := .seq items nl, slots := oslots } := Heap.get?_push_of_some _ hol
      have hsls := F.sub_list_set
      (have hslf := F.sub_list_frozenset); have hne : (Value.type "list" == Value.type "dict") = false := by decide
      have hl1 : (s.heap.push (bareSet w)).IsList l items := ⟨_, hol', rfl, nl, rfl⟩
      (unfold Builtin.«set.__init__» noKeywords Builtin.Frozenset.updateFrom); generalize hPI : pyIter = PI
      wp_walk
      subst hPI
      (refine wpAny_pyIter_list hl1 ?_); refine wpAny_bind (wpAny_runValue ?_)
      (have hlS : l < s.heap.objs.size := Heap.lt_size hol); have hh3 : A.in1.in1.in1.handled = none := by simp [hh]
      have hneI : l ≠ (s.heap.push (bareSet w)).objs.size := by
        rw [Heap.size_push]; exact Nat.ne_of_lt (Nat.lt_succ_of_lt hlS)
      have hSf : s.heap.objs.size ∉ [(s.heap.push (bareSet w)).objs.size, l] := by
        (rw [Heap.size_push]; simp only [List.mem_cons, List.not_mem_nil, or_false, not_or]); exact ⟨Nat.ne_of_lt (Nat.lt_succ_self _), Nat.ne_of_gt hlS⟩
      have hval : ∀ (i : Nat) (v : Value), items[i]? = some v → ∃ k t, ns[i]? = some k ∧ v = .int k t := fun i v hv => by
        have hi : i < ns.length := by rw [← size]; exact (Array.getElem?_eq_some_iff.mp hv).1
        obtain ⟨t, e⟩ := IntsAre.int_at hit i v (by rw [Array.getElem?_toList]; exact hv)
        (refine ⟨ns[i], t, List.getElem?_eq_getElem hi, ?_⟩); rw [e, List.getD_eq_getElem?_getD, List.getElem?_eq_getElem hi] <;> rfl
      refine set_update_ints ((Walks.list hh3 _ l hneI items).toS) s.heap.objs.size hSf ns size hb hval (items.size - 0) 0 _ (by omega) (Nat.zero_le _)
        ⟨⟨_, Heap.get?_push_size _ rfl, rfl, rfl⟩, (hl1.push _)⟩ ?start ?stop
      case start => exact ⟨0, Nat.le_refl 0, setR_new_at (Heap.get?_push_of_some _ atS)⟩
      case stop =>
        intro s' c' hm hc' hS'
        (obtain ⟨h', g2, d', tk', os'⟩ := s'); obtain rfl : g2 = s.gens := hm.gens
        obtain rfl : d' = s.drawn := hm.drawn
        obtain rfl : os' = s.os := hm.os
        show wpAny _ _ _ _ _ _
        refine wpAny_pure ?_
        (show wpAny _ _ (ret Value.none) _ _ _); rw [size] at hc'
        (refine wpAny_pure ⟨rfl, h', tk', c', rfl, hS', hc', fun b o e => ?_⟩); have hb0 : b < s.heap.objs.size := Heap.lt_size e
        refine hm.heap b o ?_ (Heap.get?_push_of_some _ (Heap.get?_push_of_some _ e))
        rw [Heap.size_push]
        simp only [List.mem_cons, List.not_mem_nil, or_false, not_or]
        exact ⟨Nat.ne_of_lt hb0, Nat.ne_of_lt (Nat.lt_succ_of_lt hb0)⟩
    · rcases r₂ with e | fl₂
      · exact hr₂
      cases fl₂ with
      | ret r =>
        (obtain ⟨rfl, h', tk, c', rfl, hS', hc', hk'⟩ := hr₂); repeat (any_goals (first | assumption | wp_step))
        exact h _ _ _ hS' hc' hk'
      | _ => exact hr₂.elim
  | _ => exact hr.elim
end
/-- the numbers of a list, each once, ascending -/
def sortU (ns : List Int) : List Int := sortI ns.eraseDups
theorem sortI_perm (ns : List Int) : (sortI ns).Perm ns := List.mergeSort_perm _ _
theorem sortI_le (ns : List Int) : (sortI ns).Pairwise (· ≤ ·) := by
  have := List.pairwise_mergeSort (le := fun a b : Int => decide (a ≤ b)) (fun a b c h1 h2 => by simp at *; omega) (fun a b => by simp; omega) ns
  exact this.imp fun h => by simpa using h
theorem mem_sortU {ns : List Int} {k : Int} : k ∈ sortU ns ↔ k ∈ ns := by
  unfold sortU
  rw [(sortI_perm _).mem_iff, List.mem_eraseDups]
theorem nodup_eraseDups : ∀ (n : Nat) (ns : List Int), ns.length ≤ n → ns.eraseDups.Nodup
  | 0, [], _ => by simp
  | _ + 1, [], _ => by simp
  | n + 1, x :: ns, h => by
    rw [List.eraseDups_cons, List.nodup_cons]
    refine ⟨fun z => ?_, nodup_eraseDups n _ (by have := List.length_filter_le (fun b => !b == x) ns; simp at h; omega)⟩
    rw [List.mem_eraseDups] at z
    simp at z
theorem sortU_lt (ns : List Int) : (sortU ns).Pairwise (· < ·) := by
  have h1 := sortI_le ns.eraseDups
  have h2 : (sortI ns.eraseDups).Nodup := (sortI_perm _).nodup_iff.mpr (nodup_eraseDups _ ns (Nat.le_refl _))
  unfold sortU
  exact (h1.and h2).imp fun ⟨a, b⟩ => by omega
theorem up_unique : ∀ {as bs : List Int}, as.Pairwise (· < ·) → bs.Pairwise (· < ·) → (∀ k, k ∈ as ↔ k ∈ bs) → as = bs
  | [], [], _, _, _ => rfl
  | [], b :: bs, _, _, h => absurd ((h b).mpr (by simp)) (by simp)
  | a :: as, [], _, _, h => absurd ((h a).mp (by simp)) (by simp)
  | a :: as, b :: bs, ha, hb, h => by
    have h1 := List.pairwise_cons.mp ha
    have h2 := List.pairwise_cons.mp hb
    have e : a = b := by
      have x1 := (h a).mp (by simp)
      have x2 := (h b).mpr (by simp)
      rcases List.mem_cons.mp x1 with x1 | x1
      · exact x1
      rcases List.mem_cons.mp x2 with x2 | x2
      · exact x2.symm
      have := h1.1 _ x2
      have := h2.1 _ x1
      omega
    subst e
    refine congrArg _ (up_unique h1.2 h2.2 fun k => ?_)
    have hk := h k
    simp only [List.mem_cons] at hk
    constructor
    · intro x
      rcases hk.mp (.inr x) with y | y
      · subst y
        have := h1.1 _ x
        omega
      · exact y
    · intro x
      rcases hk.mpr (.inr x) with y | y
      · subst y
        have := h2.1 _ x
        omega
      · exact y
def gSortSet (r : R) : M R := asLs r >>= fun ds => match allInts ds with
  | some ns => if ns.length < 64 then pure (.l (.lst ((sortU ns).map .int))) else M.fail
  | none => M.fail
section
variable {X : Cx} {C : List Addr} {e : Expr} {m : Env → M R} {p p2 q pos : Pos}
def tSrtSet (w : World) (K : PySem.W.Frag) (tl : TE) : TE := fun σ H Q => tl σ H fun x H1 => ∃ (a : Addr) (ns : List Int), x = .ref a ∧ SqL K H1 a (ns.map L2.V.int) ∧ ns.length < 64 ∧
  ∀ (z r : Addr) (o : HO), H1 z = none → (upd H1 z o) r = none → Q (.ref r) (upd (upd H1 z o) r (.lst ((sortU ns).map L2.V.int)))
theorem ints_are : ∀ {ns : List Int} {us : List Value}, Vals (ns.map L2.V.int) us → IntsAre us ns
  | [], _, .nil => .nil
  | n :: ns, _, .cons r t => by
    obtain ⟨k, rfl⟩ := r
    exact .cons n k (ints_are t)
theorem pe_srtSet {tl : TE} (hg : Gl X "sorted") (hm : X.mg "sorted" = none) (hg2 : Gl X "set") (hm2 : X.mg "set" = none) (he : PE X e tl) (hc : X.calm = true := by rfl)
    (na : starEach [e] X.env = (false, eval e X.env) :: starEach [] X.env := by rfl) : PE X (.Call (.Name "sorted" p) [.Call (.Name "set" p2) [e] [] q] [] pos) (tSrtSet X.w X.K tl) := by
  refine ⟨fun pins s σ H Q I h => ?_⟩
  refine Call_ (ld_blt I hg hm boot_sorted ?_)
  refine callWith_builtin1 (args_cons ?_ rfl) rfl rfl
  (refine Call_ (ld_blt I hg2 hm2 boot_set ?_)); refine callWith_type1 (args_cons (thn (he.run pins s σ H _ I h) fun v s1 ⟨x, H1, I1, r1, q1⟩ => args_nil ?_) na) na rfl
  obtain ⟨l, ns, rfl, hq, h64, q1⟩ := q1
  cases r1
  (obtain ⟨its, r, pl, hz⟩ := I1.list hq); refine set_of_list ns (I1.ok.hd hc) pl.isList (by simpa using ints_are r) (by unfold scanBound; omega) fun h' tk c hS hcn hk => ?_
  refine args_nil ?_
  have hfr : H1 s1.heap.objs.size = none := I1.hok.fresh (Nat.le_refl _)
  have I2 : Inv X pins σ (upd H1 s1.heap.objs.size (SetO X.w s1.heap.objs.size (fun j => decide (j ∈ ns)) c)) { s1 with heap := h', toks := tk } := I1.laid hk (Nat.le_refl _) (setO_new hS)
  refine cr_sortedSet hc pins _ σ _ [.ref s1.heap.objs.size] _ Q I2 (.cons rfl .nil) ⟨_, _, c, rfl, upd_same, by omega, fun ms p h1 h2 h3 hp => ?_⟩
  have e : ms = sortU ns := up_unique h1 (sortU_lt ns) fun k => by rw [h2, mem_sortU]; simp
  subst e
  exact q1 _ _ _ hfr hp
theorem sortSet (hg : Gl X "sorted") (hm : X.mg "sorted" = none) (hg2 : Gl X "set") (hm2 : X.mg "set" = none) (he : SimE X C e m) (hc : X.calm = true := by rfl)
    (na : starEach [e] X.env = (false, eval e X.env) :: starEach [] X.env := by rfl) : SimE X C (.Call (.Name "sorted" p) [.Call (.Name "set" p2) [e] [] q] [] pos) (eU gSortSet m) :=
  (pe_srtSet hg hm hg2 hm2 he hc na).wk fun σ H Q h => by
    obtain ⟨α, env, st, r, st', hE, hS, hm, k⟩ := h
    obtain ⟨rr, s1, e1, hm1⟩ := bind_run hm
    refine ⟨α, env, st, rr, s1, hE, hS, e1, fun v α1 H1 X1 S1 R1 => ?_⟩
    unfold gSortSet at hm1
    obtain ⟨ds, s2, e2, hm2⟩ := bind_run hm1
    obtain ⟨rfl, a, xs, rfl, hq, hl⟩ := asLs_ok R1 S1 e2
    cases e3 : allInts ds with
    | some ns =>
      rw [e3] at hm2
      by_cases hlt : ns.length < 64
      · obtain ⟨rfl, rfl⟩ := pure_inv (show (Pure.pure (R.l (.lst ((sortU ns).map .int))) : M R) _ = _ by
          have hm3 : (if ns.length < 64 then (Pure.pure (R.l (.lst ((sortU ns).map .int))) : M R) else M.fail) _ = some (r, st') := hm2
          rwa [if_pos hlt] at hm3)
        have e4 := allInts_eq e3
        subst e4
        have e5 : xs = ns.map L2.V.int := RepL.ints hl
        subst e5
        refine ⟨a, ns, rfl, hq, hlt, fun z r o hz hr => ?_⟩
        have X2 : Ext Non α1 H1 α1 (upd H1 z o) := Ext.new hz
        exact endL (fun v α3 H3 X3 S3 R3 => k v α3 H3 ((X1.trans0 X2).trans0 X3) S3 (R3.mono fun a h => (X1.trans0 X2).dom _ h)) (S1.new hz) hr (RepL.ofInts _)
      · have hm3 : (if ns.length < 64 then (Pure.pure (R.l (.lst ((sortU ns).map .int))) : M R) else M.fail) _ = some (r, st') := hm2
        rw [if_neg hlt] at hm3
        cases hm3
    | none => rw [e3] at hm2; cases hm2
end
end Mi
/-! Mi: the built-ins' names. -/
namespace Mi
open PySem
theorem bt_len : bootBuiltins "len" = some (.builtin "len") := by decide +kernel
theorem bt_abs : bootBuiltins "abs" = some (.builtin "abs") := by decide +kernel
theorem bt_max : bootBuiltins "max" = some (.builtin "max") := by decide +kernel
theorem bt_min : bootBuiltins "min" = some (.builtin "min") := by decide +kernel
theorem bt_sum : bootBuiltins "sum" = some (.builtin "sum") := by decide +kernel
theorem bt_all : bootBuiltins "all" = some (.builtin "all") := by decide +kernel
theorem bt_any : bootBuiltins "any" = some (.builtin "any") := by decide +kernel
theorem bt_sorted : bootBuiltins "sorted" = some (.builtin "sorted") := by decide +kernel
theorem bt_int : bootBuiltins "int" = some (.type "int") := by decide +kernel
theorem bt_tuple : bootBuiltins "tuple" = some (.type "tuple") := by decide +kernel
theorem bt_list : bootBuiltins "list" = some (.type "list") := by decide +kernel
theorem bt_str : bootBuiltins "str" = some (.type "str") := by decide +kernel
theorem bt_bool : bootBuiltins "bool" = some (.type "bool") := by decide +kernel
theorem bt_dict : bootBuiltins "dict" = some (.type "dict") := by decide +kernel
theorem bt_set : bootBuiltins "set" = some (.type "set") := by decide +kernel
end Mi
/-! againandagain_k80_whole_pieces_as_arcs: what the defs compute; printed. -/
namespace K80
open PySem hiding Env
open Mi
/-- _law_cells: 0 script, 1 limit -/
noncomputable def m__law_cells : Mi.Env → M Fl :=
 (sRet (eLR1 (eB bMax (aCons (eC (.int 1)) (aCons (eB bMin (aCons (eVar 1) (aCons (eB bLen (aCons (eVar 0) aNil)) aNil))) aNil)))))
noncomputable def f__law_cells : List R → M R := runFn 0 m__law_cells
/-- _law_pot: 0 script, 1 place, 2 cell, 3 own, 4 small -/
noncomputable def m__law_pot : Mi.Env → M Fl :=
 (sSeq (sSet 2 (eIf (tBl (eOp gLt (eVar 1) (eB bLen (aCons (eVar 0) aNil)))) (eOp gIx (eVar 0) (eVar 1)) (eOp gAdd (eOp gMul (eC (.int 751)) (eVar 1)) (eC (.int 467)))))
 (sSeq (sSet 3 (eOp gMul (eOp gMod (eB bInt (aCons (eB bAbs (aCons (eVar 2) aNil)) aNil)) (eOp gPow (eOp gPow (eC (.int 10)) (eC (.int 60))) (eC (.int 5)))) (eB bInt (aCons (eOp gGe (eB bAbs (aCons (eVar 2) aNil)) (eOp gPow (eC (.int 10)) (eC (.int 18)))) aNil))))
 (sSeq (sSet 4 (eOp gMod (eB bInt (aCons (eVar 2) aNil)) (eC (.int 2305843009213693951))))
 (sRet (eLst (aCons (eVar 3) (aCons (eOp gMod (eB bInt (aCons (eOp gAdd (eOp gAdd (eOp gMul (eVar 4) (eC (.int 70867))) (eOp gMul (eOp gMul (eC (.int 9397)) (eVar 1)) (eVar 1))) (eC (.int 887))) aNil)) (eC (.int 2305843009213693921))) (aCons (eC (.int 0)) aNil))))))))
noncomputable def f__law_pot : List R → M R := runFn 3 m__law_pot
/-- is_integer: 0 value -/
noncomputable def m_is_integer : Mi.Env → M Fl :=
 (sRet (eAnd (eU (gIsT "int") (eVar 0)) (eNot (eU (gIsT "bool") (eVar 0)))))
noncomputable def f_is_integer : List R → M R := runFn 0 m_is_integer
/-- is_between: 0 value, 1 least, 2 most -/
noncomputable def m_is_between : Mi.Env → M Fl :=
 (sRet (eAnd (eCall 1 f_is_integer (aCons (eVar 0) aNil)) (eChain gLe gLe (eVar 1) (eVar 0) (eVar 2))))
noncomputable def f_is_between : List R → M R := runFn 0 m_is_between
/-- is_piece: 0 value -/
noncomputable def m_is_piece : Mi.Env → M Fl :=
 (sSeq (sIf (tOr2 (tNot1 (tTr (eU (gIsT "tuple") (eVar 0)))) (tOr2 (tBl (eOp gNe (eB bLen (aCons (eVar 0) aNil)) (eC (.int 2)))) (tNot1 (tTr (eCall 3 f_is_between (aCons (eOp gIx (eVar 0) (eC (.int 0))) (aCons (eC (.int 1)) (aCons (eC (.int 1440)) aNil))))))))
 (sRet (eC (.bl false)))
 sNil)
 (sRet (eCall 3 f_is_between (aCons (eOp gIx (eVar 0) (eC (.int 1))) (aCons (eC (.int 1)) (aCons (eOp gIx (eVar 0) (eC (.int 0))) aNil))))))
noncomputable def f_is_piece : List R → M R := runFn 0 m_is_piece
/-- check_pieces: 0 pieces, 1 one -/
noncomputable def g1_check_pieces : Tg :=
 (gN 1)
noncomputable def e1_check_pieces : Mi.Env → M R :=
 (eCall 1 f_is_piece (aCons (eVar 1) aNil))
noncomputable def m_check_pieces : Mi.Env → M Fl :=
 (sSeq (sIf (tOr2 (tNot1 (tTr (eU (gIsT "tuple") (eVar 0)))) (tNot1 (tBl (eChain gLt gLe (eC (.int 0)) (eB bLen (aCons (eVar 0) aNil)) (eC (.int 5))))))
 sNever
 sNil)
 (sIf (tNot1 (tTr (eB bAll (aCons (eComp [1] (mSeq (eVar 0)) g1_check_pieces tTrue e1_check_pieces) aNil))))
 sNever
 sNil))
noncomputable def f_check_pieces : List R → M R := runFn 1 m_check_pieces
/-- common: 0 one, 1 other -/
noncomputable def t1_common : Mi.Env → M Bool :=
 (tBl (eOp gNe (eVar 1) (eC (.int 0))))
noncomputable def b1_common : Mi.Env → M Fl :=
 (sPar [(0, .f), (1, .f)] (aCons (eVar 1) (aCons (eOp gMod (eVar 0) (eVar 1)) aNil)))
noncomputable def m_common : Mi.Env → M Fl :=
 (sSeq (sWhile t1_common b1_common)
 (sRet (eB bAbs (aCons (eVar 0) aNil))))
noncomputable def f_common : List R → M R := runFn 0 m_common
/-- least_with: 0 one, 1 other -/
noncomputable def m_least_with : Mi.Env → M Fl :=
 (sRet (eOp gFdiv (eOp gMul (eVar 0) (eVar 1)) (eCall 2 f_common (aCons (eVar 0) (aCons (eVar 1) aNil)))))
noncomputable def f_least_with : List R → M R := runFn 0 m_least_with
/-- frames_of: 0 pieces, 1 found, 2 at, 3 frame, 4 every, 5 long, 6 to, 7 other -/
noncomputable def g1_frames_of : Tg :=
 (gTp 2 (gCs (gN 6) (gCs (gN 7) gNl)))
noncomputable def b1_frames_of : Mi.Env → M Fl :=
 (sSet 3 (eIf (tBl (eOp gEq (eVar 6) (eVar 2))) (eVar 3) (eCall 2 f_least_with (aCons (eVar 3) (aCons (eCall 2 f_common (aCons (eVar 4) (aCons (eOp gIx (eVar 7) (eC (.int 0))) aNil))) aNil)))))
noncomputable def g2_frames_of : Tg :=
 (gTp 2 (gCs (gN 2) (gCs (gTp 2 (gCs (gN 4) (gCs (gN 5) gNl))) gNl)))
noncomputable def b2_frames_of : Mi.Env → M Fl :=
 (sSeq (sSet 3 (eC (.int 1)))
 (sSeq (sFor [] (mEnum (eVar 0)) g1_frames_of b1_frames_of)
 (sOwn 1 (fun ds rs => fAppend ds rs >>= fun p => pure p.2) (aCons (eVar 3) aNil))))
noncomputable def m_frames_of : Mi.Env → M Fl :=
 (sSeq (sSetL 1 (eLst aNil))
 (sSeq (sFor [] (mEnum (eVar 0)) g2_frames_of b2_frames_of)
 (sRetV 1)))
noncomputable def f_frames_of : List R → M R := runFn 7 m_frames_of
/-- check_tried: 0 pieces, 1 ways, 2 frame -/
noncomputable def g1_check_tried : Tg :=
 (gN 2)
noncomputable def b1_check_tried : Mi.Env → M Fl :=
 (sSet 1 (eOp gMul (eVar 1) (eVar 2)))
noncomputable def m_check_tried : Mi.Env → M Fl :=
 (sSeq (sExpr (eCall 1 f_check_pieces (aCons (eVar 0) aNil)))
 (sSeq (sSet 1 (eC (.int 1)))
 (sSeq (sFor [] (mSeq (eSl (eCall 1 f_frames_of (aCons (eVar 0) aNil)) (ePart (some (eC (.int 1)))) (ePart none))) g1_check_tried b1_check_tried)
 (sIf (tBl (eOp gGt (eVar 1) (eC (.int 20000))))
 sNever
 sNil))))
noncomputable def f_check_tried : List R → M R := runFn 2 m_check_tried
/-- do_clash: 0 one, 1 start, 2 other, 3 begin, 4 factor -/
noncomputable def m_do_clash : Mi.Env → M Fl :=
 (sSeq (sSet 4 (eCall 2 f_common (aCons (eOp gIx (eVar 0) (eC (.int 0))) (aCons (eOp gIx (eVar 2) (eC (.int 0))) aNil))))
 (sRet (eOr (eOp gLt (eOp gMod (eOp gSub (eVar 3) (eVar 1)) (eVar 4)) (eOp gIx (eVar 0) (eC (.int 1)))) (eOp gLt (eOp gMod (eOp gSub (eVar 1) (eVar 3)) (eVar 4)) (eOp gIx (eVar 2) (eC (.int 1)))))))
noncomputable def f_do_clash : List R → M R := runFn 1 m_do_clash
/-- clashing: 0 pieces, 1 begun, 2 last, 3 at -/
noncomputable def g1_clashing : Tg :=
 (gN 3)
noncomputable def b1_clashing : Mi.Env → M Fl :=
 (sIf (tTr (eCall 4 f_do_clash (aCons (eOp gIx (eVar 0) (eVar 3)) (aCons (eOp gIx (eVar 1) (eVar 3)) (aCons (eOp gIx (eVar 0) (eVar 2)) (aCons (eOp gIx (eVar 1) (eVar 2)) aNil))))))
 (sRet (eVar 3))
 sNil)
noncomputable def m_clashing : Mi.Env → M Fl :=
 (sSeq (sSet 2 (eOp gSub (eB bLen (aCons (eVar 1) aNil)) (eC (.int 1))))
 (sSeq (sFor [] (mR1 (aCons (eVar 2) aNil)) g1_clashing b1_clashing)
 (sRet (eC .non))))
noncomputable def f_clashing : List R → M R := runFn 2 m_clashing
/-- placing: 0 pieces, 1 sizes, 2 cases, 3 waiting, 4 begun, 5 at, 6 start -/
noncomputable def g1_placing : Tg :=
 (gN 6)
noncomputable def e1_placing : Mi.Env → M R :=
 (eTup (aStar (eVar 4) (aCons (eVar 6) aNil)))
noncomputable def t1_placing : Mi.Env → M Bool :=
 (tBl (eOp gNe (eVar 3) (eLst aNil)))
noncomputable def b1_placing : Mi.Env → M Fl :=
 (sSeq (sPop 4 3 (fun _ => pure []))
 (sSeq (sSet 5 (eCall 2 f_clashing (aCons (eVar 0) (aCons (eVar 4) aNil))))
 (sIf (tBl (eOp gNotN (eVar 5) (eC .non)))
 (sOwn 2 (fun ds rs => fAppend ds rs >>= fun p => pure p.2) (aCons (eTup (aCons (eVar 4) (aCons (eVar 5) aNil))) aNil))
 (sIf (tBl (eOp gEq (eB bLen (aCons (eVar 4) aNil)) (eB bLen (aCons (eVar 0) aNil))))
 (sRet (eTup (aCons (eC (.str "starts")) (aCons (eVar 4) aNil))))
 (sOwn 3 (fun ds rs => fExtend ds rs >>= fun p => pure p.2) (aCons (eU gRevL (eComp [6] (mR1 (aCons (eOp gIx (eVar 1) (eB bLen (aCons (eVar 4) aNil))) aNil)) g1_placing tTrue e1_placing)) aNil))))))
noncomputable def m_placing : Mi.Env → M Fl :=
 (sSeq (sExpr (eCall 1 f_check_tried (aCons (eVar 0) aNil)))
 (sSeq (sPar [(1, .f), (2, .l), (3, .l)] (aCons (eCall 1 f_frames_of (aCons (eVar 0) aNil)) (aCons (eLst aNil) (aCons (eLst (aCons (eTup (aCons (eC (.int 0)) aNil)) aNil)) aNil))))
 (sSeq (sWhile t1_placing b1_placing)
 (sRet (eTup (aCons (eC (.str "cases")) (aCons (eB bTup (aCons (eVar 2) aNil)) aNil)))))))
noncomputable def f_placing : List R → M R := runFn 6 m_placing
/-- _law_arcs_of: 0 pieces, 1 starts, 2 found, 3 begin, 4 every, 5 long, 6 step -/
noncomputable def g1__law_arcs_of : Tg :=
 (gN 6)
noncomputable def e1__law_arcs_of : Mi.Env → M R :=
 (eTup (aCons (eB bInt (aCons (eOp gMod (eOp gAdd (eVar 3) (eOp gMul (eVar 4) (eVar 6))) (eC (.int 24))) aNil)) (aCons (eVar 5) aNil)))
noncomputable def g2__law_arcs_of : Tg :=
 (gTp 2 (gCs (gTp 2 (gCs (gN 4) (gCs (gN 5) gNl))) (gCs (gN 3) gNl)))
noncomputable def b1__law_arcs_of : Mi.Env → M Fl :=
 (sOwn 2 (fun ds rs => fExtend ds rs >>= fun p => pure p.2) (aCons (eComp [6] (mR1 (aCons (eOp gFdiv (eC (.int 24)) (eVar 4)) aNil)) g1__law_arcs_of tTrue e1__law_arcs_of) aNil))
noncomputable def m__law_arcs_of : Mi.Env → M Fl :=
 (sSeq (sSetL 2 (eLst aNil))
 (sSeq (sFor [] (mZip (eVar 0) (eVar 1)) g2__law_arcs_of b1__law_arcs_of)
 (sRet (eB bTup (aCons (eVar 2) aNil)))))
noncomputable def f__law_arcs_of : List R → M R := runFn 5 m__law_arcs_of
/-- are_starts: 0 pieces, 1 value, 2 start, 3 every, 4 long -/
noncomputable def g1_are_starts : Tg :=
 (gTp 2 (gCs (gN 2) (gCs (gTp 2 (gCs (gN 3) (gCs (gN 4) gNl))) gNl)))
noncomputable def e1_are_starts : Mi.Env → M R :=
 (eCall 3 f_is_between (aCons (eVar 2) (aCons (eC (.int 0)) (aCons (eOp gSub (eVar 3) (eC (.int 1))) aNil))))
noncomputable def m_are_starts : Mi.Env → M Fl :=
 (sSeq (sIf (tOr2 (tNot1 (tTr (eU (gIsT "tuple") (eVar 1)))) (tBl (eOp gNe (eB bLen (aCons (eVar 1) aNil)) (eB bLen (aCons (eVar 0) aNil)))))
 (sRet (eC (.bl false)))
 sNil)
 (sRet (eB bAll (aCons (eComp [2, 3, 4] (mZip (eVar 1) (eVar 0)) g1_are_starts tTrue e1_are_starts) aNil))))
noncomputable def f_are_starts : List R → M R := runFn 3 m_are_starts
/-- is_at_work: 0 piece, 1 start, 2 minute -/
noncomputable def m_is_at_work : Mi.Env → M Fl :=
 (sRet (eOp gLt (eOp gMod (eOp gSub (eVar 2) (eVar 1)) (eOp gIx (eVar 0) (eC (.int 0)))) (eOp gIx (eVar 0) (eC (.int 1)))))
noncomputable def f_is_at_work : List R → M R := runFn 0 m_is_at_work
/-- first_minute: 0 one, 1 start, 2 other, 3 begin, 4 found, 5 piece, 6 at, 7 its, 8 to, 9 some, 10 lap, 11 minute -/
noncomputable def g1_first_minute : Tg :=
 (gN 10)
noncomputable def e1_first_minute : Mi.Env → M R :=
 (eOp gAdd (eVar 6) (eOp gMul (eOp gIx (eVar 5) (eC (.int 0))) (eVar 10)))
noncomputable def g2_first_minute : Tg :=
 (gN 11)
noncomputable def c1_first_minute : Mi.Env → M Bool :=
 (tTr (eCall 3 f_is_at_work (aCons (eVar 7) (aCons (eVar 8) (aCons (eVar 11) aNil)))))
noncomputable def e2_first_minute : Mi.Env → M R :=
 (eVar 11)
noncomputable def g3_first_minute : Tg :=
 (gTp 4 (gCs (gN 5) (gCs (gN 6) (gCs (gN 7) (gCs (gN 8) gNl)))))
noncomputable def b1_first_minute : Mi.Env → M Fl :=
 (sSeq (sSet 9 (eComp [10] (mR1 (aCons (eOp gFdiv (eOp gIx (eVar 7) (eC (.int 0))) (eCall 2 f_common (aCons (eOp gIx (eVar 5) (eC (.int 0))) (aCons (eOp gIx (eVar 7) (eC (.int 0))) aNil)))) aNil)) g1_first_minute tTrue e1_first_minute))
 (sOwn 4 (fun ds rs => fExtend ds rs >>= fun p => pure p.2) (aCons (eSl (eComp [11] (mSeq (eVar 9)) g2_first_minute c1_first_minute e2_first_minute) (ePart none) (ePart (some (eC (.int 1))))) aNil)))
noncomputable def m_first_minute : Mi.Env → M Fl :=
 (sSeq (sIf (tAnd2 (tTr (eCall 3 f_is_at_work (aCons (eVar 0) (aCons (eVar 1) (aCons (eC (.int 0)) aNil))))) (tTr (eCall 3 f_is_at_work (aCons (eVar 2) (aCons (eVar 3) (aCons (eC (.int 0)) aNil))))))
 (sRet (eC (.int 0)))
 sNil)
 (sSeq (sSetL 4 (eLst aNil))
 (sSeq (sFor [] (mSeq (eTup (aCons (eTup (aCons (eVar 0) (aCons (eVar 1) (aCons (eVar 2) (aCons (eVar 3) aNil))))) (aCons (eTup (aCons (eVar 2) (aCons (eVar 3) (aCons (eVar 0) (aCons (eVar 1) aNil))))) aNil)))) g3_first_minute b1_first_minute)
 (sRet (eB bMin (aCons (eVar 4) aNil))))))
noncomputable def f_first_minute : List R → M R := runFn 8 m_first_minute
/-- clash: 0 pieces, 1 starts, 2 at, 3 one, 4 to -/
noncomputable def g1_clash : Tg :=
 (gN 4)
noncomputable def b1_clash : Mi.Env → M Fl :=
 (sIf (tTr (eCall 4 f_do_clash (aCons (eVar 3) (aCons (eOp gIx (eVar 1) (eVar 2)) (aCons (eOp gIx (eVar 0) (eVar 4)) (aCons (eOp gIx (eVar 1) (eVar 4)) aNil))))))
 (sRet (eTup (aCons (eVar 2) (aCons (eVar 4) (aCons (eCall 4 f_first_minute (aCons (eVar 3) (aCons (eOp gIx (eVar 1) (eVar 2)) (aCons (eOp gIx (eVar 0) (eVar 4)) (aCons (eOp gIx (eVar 1) (eVar 4)) aNil))))) aNil)))))
 sNil)
noncomputable def g2_clash : Tg :=
 (gTp 2 (gCs (gN 2) (gCs (gN 3) gNl)))
noncomputable def b2_clash : Mi.Env → M Fl :=
 (sFor [] (mR2 (aCons (eOp gAdd (eVar 2) (eC (.int 1))) (aCons (eB bLen (aCons (eVar 0) aNil)) aNil))) g1_clash b1_clash)
noncomputable def m_clash : Mi.Env → M Fl :=
 (sSeq (sExpr (eCall 1 f_check_pieces (aCons (eVar 0) aNil)))
 (sSeq (sIf (tNot1 (tTr (eCall 2 f_are_starts (aCons (eVar 0) (aCons (eVar 1) aNil)))))
 sNever
 sNil)
 (sSeq (sFor [] (mEnum (eVar 0)) g2_clash b2_clash)
 (sRet (eC .non)))))
noncomputable def f_clash : List R → M R := runFn 3 m_clash
/-- _law_take: 0 pot, 1 upto, 2 prime, 3 mixed, 4 digit -/
noncomputable def m__law_take : Mi.Env → M Fl :=
 (sSeq (sIf (tBl (eOp gGt (eOp gIx (eVar 0) (eC (.int 0))) (eC (.int 0))))
 (sSeq (sSet 4 (eOp gMod (eB bInt (aCons (eOp gIx (eVar 0) (eC (.int 0))) aNil)) (eVar 1)))
 (sSeq (sAsg (gItem (eVar 0) (eC (.int 0))) (eOp gFdiv (eOp gIx (eVar 0) (eC (.int 0))) (eVar 1)))
 (sRet (eVar 4))))
 sNil)
 (sSeq (sAsg (gItem (eVar 0) (eC (.int 2))) (eOp gAdd (eOp gIx (eVar 0) (eC (.int 2))) (eC (.int 1))))
 (sSeq (sSet 2 (eOp gIx (eLst (aCons (eC (.int 2147483647)) (aCons (eC (.int 2147483629)) (aCons (eC (.int 2147483587)) (aCons (eC (.int 2147483579)) (aCons (eC (.int 2147483563)) aNil)))))) (eOp gMod (eB bInt (aCons (eOp gIx (eVar 0) (eC (.int 2))) aNil)) (eC (.int 5)))))
 (sSeq (sSet 3 (eOp gMod (eB bInt (aCons (eOp gPow (eB bInt (aCons (eOp gAdd (eOp gAdd (eOp gIx (eVar 0) (eC (.int 1))) (eOp gMul (eOp gMul (eC (.int 90647)) (eOp gIx (eVar 0) (eC (.int 2)))) (eOp gIx (eVar 0) (eC (.int 2))))) (eC (.int 239))) aNil)) (eC (.int 3))) aNil)) (eVar 2)))
 (sSeq (sSet 3 (eOp gMod (eB bInt (aCons (eOp gMul (eVar 3) (eOp gAdd (eOp gMod (eB bInt (aCons (eVar 3) aNil)) (eC (.int 10391))) (eOp gMul (eC (.int 331)) (eOp gIx (eVar 0) (eC (.int 2)))))) aNil)) (eC (.int 2305843009213693907))))
 (sRet (eOp gMod (eB bInt (aCons (eOp gFdiv (eVar 3) (eC (.int 283))) aNil)) (eVar 1))))))))
noncomputable def f__law_take : List R → M R := runFn 3 m__law_take
/-- _law_of: 0 pot, 1 some -/
noncomputable def m__law_of : Mi.Env → M Fl :=
 (sRet (eOp gIx (eVar 1) (eCall 2 f__law_take (aCons (eVar 0) (aCons (eB bLen (aCons (eVar 1) aNil)) aNil)))))
noncomputable def f__law_of : List R → M R := runFn 0 m__law_of
/-- room: 0 pieces, 1 at, 2 to, 3 last -/
noncomputable def m_room : Mi.Env → M Fl :=
 (sSeq (sExpr (eCall 1 f_check_pieces (aCons (eVar 0) aNil)))
 (sSeq (sSet 3 (eOp gSub (eB bLen (aCons (eVar 0) aNil)) (eC (.int 1))))
 (sSeq (sIf (tOr2 (tNot1 (tTr (eCall 3 f_is_between (aCons (eVar 1) (aCons (eC (.int 0)) (aCons (eVar 3) aNil)))))) (tOr2 (tNot1 (tTr (eCall 3 f_is_between (aCons (eVar 2) (aCons (eC (.int 0)) (aCons (eVar 3) aNil)))))) (tBl (eOp gEq (eVar 1) (eVar 2)))))
 sNever
 sNil)
 (sRet (eOp gSub (eOp gSub (eCall 2 f_common (aCons (eOp gIx (eOp gIx (eVar 0) (eVar 1)) (eC (.int 0))) (aCons (eOp gIx (eOp gIx (eVar 0) (eVar 2)) (eC (.int 0))) aNil))) (eOp gIx (eOp gIx (eVar 0) (eVar 1)) (eC (.int 1)))) (eOp gIx (eOp gIx (eVar 0) (eVar 2)) (eC (.int 1))))))))
noncomputable def f_room : List R → M R := runFn 1 m_room
/-- check_lap: 0 lap -/
noncomputable def m_check_lap : Mi.Env → M Fl :=
 (sIf (tNot1 (tTr (eCall 3 f_is_between (aCons (eVar 0) (aCons (eC (.int 1)) (aCons (eC (.int 99999)) aNil))))))
 sNever
 sNil)
noncomputable def f_check_lap : List R → M R := runFn 0 m_check_lap
/-- are_arcs: 0 lap, 1 value, 2 arc, 3 begin, 4 long -/
noncomputable def g1_are_arcs : Tg :=
 (gN 2)
noncomputable def e1_are_arcs : Mi.Env → M R :=
 (eAnd (eU (gIsT "tuple") (eVar 2)) (eOp gEq (eB bLen (aCons (eVar 2) aNil)) (eC (.int 2))))
noncomputable def g2_are_arcs : Tg :=
 (gTp 2 (gCs (gN 3) (gCs (gN 4) gNl)))
noncomputable def e2_are_arcs : Mi.Env → M R :=
 (eAnd (eCall 3 f_is_between (aCons (eVar 3) (aCons (eC (.int 0)) (aCons (eOp gSub (eVar 0) (eC (.int 1))) aNil)))) (eCall 3 f_is_between (aCons (eVar 4) (aCons (eC (.int 1)) (aCons (eVar 0) aNil)))))
noncomputable def m_are_arcs : Mi.Env → M Fl :=
 (sSeq (sIf (tOr2 (tNot1 (tTr (eU (gIsT "tuple") (eVar 1)))) (tBl (eOp gGt (eB bLen (aCons (eVar 1) aNil)) (eC (.int 40)))))
 (sRet (eC (.bl false)))
 sNil)
 (sSeq (sIf (tNot1 (tTr (eB bAll (aCons (eComp [2] (mSeq (eVar 1)) g1_are_arcs tTrue e1_are_arcs) aNil))))
 (sRet (eC (.bl false)))
 sNil)
 (sRet (eB bAll (aCons (eComp [3, 4] (mSeq (eVar 1)) g2_are_arcs tTrue e2_are_arcs) aNil)))))
noncomputable def f_are_arcs : List R → M R := runFn 3 m_are_arcs
/-- check_arcs: 0 lap, 1 arcs -/
noncomputable def m_check_arcs : Mi.Env → M Fl :=
 (sSeq (sExpr (eCall 1 f_check_lap (aCons (eVar 0) aNil)))
 (sIf (tNot1 (tTr (eCall 2 f_are_arcs (aCons (eVar 0) (aCons (eVar 1) aNil)))))
 sNever
 sNil))
noncomputable def f_check_arcs : List R → M R := runFn 0 m_check_arcs
/-- has_time: 0 lap, 1 arc, 2 time -/
noncomputable def m_has_time : Mi.Env → M Fl :=
 (sRet (eOp gLt (eOp gMod (eOp gSub (eVar 2) (eOp gIx (eVar 1) (eC (.int 0)))) (eVar 0)) (eOp gIx (eVar 1) (eC (.int 1)))))
noncomputable def f_has_time : List R → M R := runFn 0 m_has_time
/-- told_load: 0 lap, 1 arcs, 2 best, 3 time, 4 many, 5 arc, 6 begin, 7 long -/
noncomputable def g1_told_load : Tg :=
 (gTp 2 (gCs (gN 6) (gCs (gN 7) gNl)))
noncomputable def e1_told_load : Mi.Env → M R :=
 (eVar 6)
noncomputable def g2_told_load : Tg :=
 (gN 5)
noncomputable def c1_told_load : Mi.Env → M Bool :=
 (tTr (eCall 3 f_has_time (aCons (eVar 0) (aCons (eVar 5) (aCons (eVar 3) aNil)))))
noncomputable def e2_told_load : Mi.Env → M R :=
 (eVar 5)
noncomputable def g3_told_load : Tg :=
 (gN 3)
noncomputable def b1_told_load : Mi.Env → M Fl :=
 (sSeq (sSet 4 (eB bLen (aCons (eComp [5] (mSeq (eVar 1)) g2_told_load c1_told_load e2_told_load) aNil)))
 (sSet 2 (eIf (tBl (eOp gGt (eVar 4) (eOp gIx (eVar 2) (eC (.int 0))))) (eTup (aCons (eVar 4) (aCons (eVar 3) aNil))) (eVar 2))))
noncomputable def m_told_load : Mi.Env → M Fl :=
 (sSeq (sSet 2 (eTup (aCons (eC (.int 0)) (aCons (eC .non) aNil))))
 (sSeq (sFor [] (mSeq (eU gSortSet (eOp gAdd (eLst (aCons (eC (.int 0)) aNil)) (eComp [6, 7] (mSeq (eVar 1)) g1_told_load tTrue e1_told_load)))) g3_told_load b1_told_load)
 (sRet (eVar 2))))
noncomputable def f_told_load : List R → M R := runFn 6 m_told_load
/-- load: 0 lap, 1 arcs -/
noncomputable def m_load : Mi.Env → M Fl :=
 (sSeq (sExpr (eCall 2 f_check_arcs (aCons (eVar 0) (aCons (eVar 1) aNil))))
 (sRet (eCall 2 f_told_load (aCons (eVar 0) (aCons (eVar 1) aNil)))))
noncomputable def f_load : List R → M R := runFn 0 m_load
/-- frames: 0 pieces -/
noncomputable def m_frames : Mi.Env → M Fl :=
 (sSeq (sExpr (eCall 1 f_check_pieces (aCons (eVar 0) aNil)))
 (sRet (eB bTup (aCons (eCall 1 f_frames_of (aCons (eVar 0) aNil)) aNil))))
noncomputable def f_frames : List R → M R := runFn 0 m_frames
/-- are_rests: 0 value, 1 pair, 2 round_of, 3 rest -/
noncomputable def g1_are_rests : Tg :=
 (gN 1)
noncomputable def e1_are_rests : Mi.Env → M R :=
 (eAnd (eU (gIsT "tuple") (eVar 1)) (eOp gEq (eB bLen (aCons (eVar 1) aNil)) (eC (.int 2))))
noncomputable def g2_are_rests : Tg :=
 (gTp 2 (gCs (gN 2) (gCs (gN 3) gNl)))
noncomputable def e2_are_rests : Mi.Env → M R :=
 (eAnd (eCall 3 f_is_between (aCons (eVar 2) (aCons (eC (.int 1)) (aCons (eC (.int 999999)) aNil)))) (eCall 3 f_is_between (aCons (eVar 3) (aCons (eC (.int 0)) (aCons (eC (.int 999999999)) aNil)))))
noncomputable def m_are_rests : Mi.Env → M Fl :=
 (sSeq (sIf (tOr2 (tNot1 (tTr (eU (gIsT "tuple") (eVar 0)))) (tNot1 (tBl (eChain gLt gLe (eC (.int 0)) (eB bLen (aCons (eVar 0) aNil)) (eC (.int 6))))))
 (sRet (eC (.bl false)))
 sNil)
 (sSeq (sIf (tNot1 (tTr (eB bAll (aCons (eComp [1] (mSeq (eVar 0)) g1_are_rests tTrue e1_are_rests) aNil))))
 (sRet (eC (.bl false)))
 sNil)
 (sRet (eB bAll (aCons (eComp [2, 3] (mSeq (eVar 0)) g2_are_rests tTrue e2_are_rests) aNil)))))
noncomputable def f_are_rests : List R → M R := runFn 3 m_are_rests
/-- inverse: 0 number, 1 round_of, 2 one, 3 other, 4 here, 5 there, 6 times -/
noncomputable def t1_inverse : Mi.Env → M Bool :=
 (tBl (eOp gGt (eVar 2) (eC (.int 1))))
noncomputable def b1_inverse : Mi.Env → M Fl :=
 (sSeq (sSet 6 (eOp gFdiv (eVar 3) (eVar 2)))
 (sAsg (gTp 4 (gCs (gN 2) (gCs (gN 3) (gCs (gN 4) (gCs (gN 5) gNl))))) (eTup (aCons (eOp gSub (eVar 3) (eOp gMul (eVar 6) (eVar 2))) (aCons (eVar 2) (aCons (eOp gSub (eVar 5) (eOp gMul (eVar 6) (eVar 4))) (aCons (eVar 4) aNil)))))))
noncomputable def m_inverse : Mi.Env → M Fl :=
 (sSeq (sAsg (gTp 4 (gCs (gN 2) (gCs (gN 3) (gCs (gN 4) (gCs (gN 5) gNl))))) (eTup (aCons (eOp gMod (eVar 0) (eVar 1)) (aCons (eVar 1) (aCons (eC (.int 1)) (aCons (eC (.int 0)) aNil))))))
 (sSeq (sWhile t1_inverse b1_inverse)
 (sRet (eOp gMod (eVar 4) (eVar 1)))))
noncomputable def f_inverse : List R → M R := runFn 5 m_inverse
/-- put_together: 0 one, 1 other, 2 factor, 3 many, 4 whole, 5 steps, 6 wide -/
noncomputable def m_put_together : Mi.Env → M Fl :=
 (sSeq (sSet 2 (eCall 2 f_common (aCons (eOp gIx (eVar 0) (eC (.int 0))) (aCons (eOp gIx (eVar 1) (eC (.int 0))) aNil))))
 (sSeq (sIf (tBl (eOp gNe (eOp gMod (eOp gSub (eOp gIx (eVar 1) (eC (.int 1))) (eOp gIx (eVar 0) (eC (.int 1)))) (eVar 2)) (eC (.int 0))))
 (sRet (eC .non))
 sNil)
 (sSeq (sPar [(5, .f), (6, .f)] (aCons (eOp gFdiv (eOp gSub (eOp gIx (eVar 1) (eC (.int 1))) (eOp gIx (eVar 0) (eC (.int 1)))) (eVar 2)) (aCons (eOp gFdiv (eOp gIx (eVar 1) (eC (.int 0))) (eVar 2)) aNil)))
 (sSeq (sSet 3 (eOp gMod (eOp gMul (eVar 5) (eCall 2 f_inverse (aCons (eOp gFdiv (eOp gIx (eVar 0) (eC (.int 0))) (eVar 2)) (aCons (eVar 6) aNil)))) (eVar 6)))
 (sSeq (sSet 4 (eOp gMul (eOp gIx (eVar 0) (eC (.int 0))) (eVar 6)))
 (sRet (eTup (aCons (eVar 4) (aCons (eOp gMod (eOp gAdd (eOp gIx (eVar 0) (eC (.int 1))) (eOp gMul (eOp gIx (eVar 0) (eC (.int 0))) (eVar 3))) (eVar 4)) aNil)))))))))
noncomputable def f_put_together : List R → M R := runFn 5 m_put_together
/-- all_together: 0 rests, 1 found, 2 pair -/
noncomputable def g1_all_together : Tg :=
 (gN 2)
noncomputable def b1_all_together : Mi.Env → M Fl :=
 (sSet 1 (eIf (tBl (eOp gIsN (eVar 1) (eC .non))) (eC .non) (eCall 2 f_put_together (aCons (eVar 1) (aCons (eVar 2) aNil)))))
noncomputable def m_all_together : Mi.Env → M Fl :=
 (sSeq (sSet 1 (eTup (aCons (eC (.int 1)) (aCons (eC (.int 0)) aNil))))
 (sSeq (sFor [] (mSeq (eVar 0)) g1_all_together b1_all_together)
 (sRet (eVar 1))))
noncomputable def f_all_together : List R → M R := runFn 2 m_all_together
/-- solve: 0 rests, 1 at, 2 one, 3 to -/
noncomputable def g1_solve : Tg :=
 (gN 3)
noncomputable def b1_solve : Mi.Env → M Fl :=
 (sIf (tBl (eOp gIsN (eCall 2 f_put_together (aCons (eVar 2) (aCons (eOp gIx (eVar 0) (eVar 3)) aNil))) (eC .non)))
 (sRet (eTup (aCons (eC (.str "two")) (aCons (eVar 1) (aCons (eVar 3) aNil)))))
 sNil)
noncomputable def g2_solve : Tg :=
 (gTp 2 (gCs (gN 1) (gCs (gN 2) gNl)))
noncomputable def b2_solve : Mi.Env → M Fl :=
 (sFor [] (mR2 (aCons (eOp gAdd (eVar 1) (eC (.int 1))) (aCons (eB bLen (aCons (eVar 0) aNil)) aNil))) g1_solve b1_solve)
noncomputable def m_solve : Mi.Env → M Fl :=
 (sSeq (sIf (tNot1 (tTr (eCall 1 f_are_rests (aCons (eVar 0) aNil))))
 sNever
 sNil)
 (sSeq (sFor [] (mEnum (eVar 0)) g2_solve b2_solve)
 (sRet (eTup (aCons (eC (.str "all")) (aStar (eCall 1 f_all_together (aCons (eVar 0) aNil)) aNil))))))
noncomputable def f_solve : List R → M R := runFn 3 m_solve
/-- _law_do_clash: 0 one, 1 other, 2 here, 3 there, 4 late, 5 more -/
noncomputable def g1__law_do_clash : Tg :=
 (gN 5)
noncomputable def b1__law_do_clash : Mi.Env → M Fl :=
 (sIf (tBl (eOp gEq (eOp gIx (eCall 1 f_solve (aCons (eTup (aCons (eTup (aCons (eOp gIx (eVar 0) (eC (.int 0))) (aCons (eB bInt (aCons (eOp gAdd (eVar 2) (eVar 4)) aNil)) aNil))) (aCons (eTup (aCons (eOp gIx (eVar 1) (eC (.int 0))) (aCons (eB bInt (aCons (eOp gAdd (eVar 3) (eVar 5)) aNil)) aNil))) aNil))) aNil)) (eC (.int 0))) (eC (.str "all"))))
 (sRet (eC (.bl true)))
 sNil)
noncomputable def g2__law_do_clash : Tg :=
 (gN 4)
noncomputable def b2__law_do_clash : Mi.Env → M Fl :=
 (sFor [] (mR1 (aCons (eOp gIx (eVar 1) (eC (.int 1))) aNil)) g1__law_do_clash b1__law_do_clash)
noncomputable def m__law_do_clash : Mi.Env → M Fl :=
 (sSeq (sFor [] (mR1 (aCons (eOp gIx (eVar 0) (eC (.int 1))) aNil)) g2__law_do_clash b2__law_do_clash)
 (sRet (eC (.bl false))))
noncomputable def f__law_do_clash : List R → M R := runFn 2 m__law_do_clash
/-- _law_has: 0 lap, 1 arc, 2 time, 3 begin, 4 end -/
noncomputable def m__law_has : Mi.Env → M Fl :=
 (sSeq (sPar [(3, .f), (4, .f)] (aCons (eOp gIx (eVar 1) (eC (.int 0))) (aCons (eOp gAdd (eOp gIx (eVar 1) (eC (.int 0))) (eOp gIx (eVar 1) (eC (.int 1)))) aNil)))
 (sRet (eOr (eChain gLe gLt (eVar 3) (eVar 2) (eVar 4)) (eChain gLe gLt (eVar 3) (eOp gAdd (eVar 2) (eVar 0)) (eVar 4)))))
noncomputable def f__law_has : List R → M R := runFn 2 m__law_has
/-- _law_right: 0 pot, 1 pieces, 2 lap, 3 starts, 4 pairs, 5 at, 6 found, 7 every, 8 arcs, 9 told, 10 to, 11 both, 12 own, 13 long, 14 arc -/
noncomputable def g1__law_right : Tg :=
 (gN 2)
noncomputable def b1__law_right : Mi.Env → M Fl :=
 (sSeq (sSet 7 (eB bInt (aCons (eCall 2 f__law_of (aCons (eVar 0) (aCons (eLst (aCons (eC (.int 3)) (aCons (eC (.int 4)) (aCons (eC (.int 6)) (aCons (eC (.int 8)) (aCons (eC (.int 12)) (aCons (eC (.int 24)) aNil))))))) aNil))) aNil)))
 (sOwn 1 (fun ds rs => fAppend ds rs >>= fun p => pure p.2) (aCons (eTup (aCons (eVar 7) (aCons (eB bInt (aCons (eOp gAdd (eC (.int 1)) (eCall 2 f__law_take (aCons (eVar 0) (aCons (eB bMax (aCons (eC (.int 1)) (aCons (eOp gFdiv (eVar 7) (eC (.int 3))) aNil))) aNil)))) aNil)) aNil))) aNil)))
noncomputable def g2__law_right : Tg :=
 (gTp 2 (gCs (gN 7) (gCs (gN 13) gNl)))
noncomputable def e1__law_right : Mi.Env → M R :=
 (eB bInt (aCons (eCall 2 f__law_take (aCons (eVar 0) (aCons (eVar 7) aNil))) aNil))
noncomputable def g3__law_right : Tg :=
 (gN 10)
noncomputable def b2__law_right : Mi.Env → M Fl :=
 (sOwn 4 (fun ds rs => fExtend ds rs >>= fun p => pure p.2) (aCons (eIf (tTr (eCall 4 f__law_do_clash (aCons (eOp gIx (eVar 1) (eVar 5)) (aCons (eOp gIx (eVar 1) (eVar 10)) (aCons (eOp gIx (eVar 3) (eVar 5)) (aCons (eOp gIx (eVar 3) (eVar 10)) aNil)))))) (eLst (aCons (eTup (aCons (eVar 5) (aCons (eVar 10) aNil))) aNil)) (eLst aNil)) aNil))
noncomputable def g4__law_right : Tg :=
 (gN 5)
noncomputable def b3__law_right : Mi.Env → M Fl :=
 (sFor [1] (mR2 (aCons (eOp gAdd (eVar 5) (eC (.int 1))) (aCons (eB bLen (aCons (eVar 1) aNil)) aNil))) g3__law_right b2__law_right)
noncomputable def g5__law_right : Tg :=
 (gN 14)
noncomputable def c1__law_right : Mi.Env → M Bool :=
 (tTr (eCall 3 f__law_has (aCons (eC (.int 24)) (aCons (eVar 14) (aCons (eOp gMod (eOp gIx (eVar 9) (eC (.int 2))) (eC (.int 24))) aNil)))))
noncomputable def e2__law_right : Mi.Env → M R :=
 (eVar 14)
noncomputable def m__law_right : Mi.Env → M Fl :=
 (sSeq (sSetL 1 (eLst aNil))
 (sSeq (sFor [] (mR1 (aCons (eOp gAdd (eC (.int 1)) (eCall 2 f__law_take (aCons (eVar 0) (aCons (eC (.int 4)) aNil)))) aNil)) g1__law_right b1__law_right)
 (sSeq (sSetL 1 (eB bTup (aCons (eVar 1) aNil)))
 (sSeq (sSet 3 (eB bTup (aCons (eComp [7, 13] (mSeq (eVar 1)) g2__law_right tTrue e1__law_right) aNil)))
 (sSeq (sAsg (gTp 2 (gCs (gN 8) (gCs (gN 9) gNl))) (eTup (aCons (eCall 2 f__law_arcs_of (aCons (eVar 1) (aCons (eVar 3) aNil))) (aCons (eCall 2 f_clash (aCons (eVar 1) (aCons (eVar 3) aNil))) aNil))))
 (sSeq (sIf (tBl (eOp gGt (eB bLen (aCons (eVar 8) aNil)) (eC (.int 40))))
 (sRet (eC (.bl true)))
 sNil)
 (sSeq (sIf (tBl (eOp gNe (eOp gIsN (eVar 9) (eC .non)) (eOp gLt (eOp gIx (eCall 2 f_load (aCons (eC (.int 24)) (aCons (eVar 8) aNil))) (eC (.int 0))) (eC (.int 2)))))
 (sRet (eC (.bl false)))
 sNil)
 (sSeq (sSetL 4 (eLst aNil))
 (sSeq (sFor [1] (mR1 (aCons (eB bLen (aCons (eVar 1) aNil)) aNil)) g4__law_right b3__law_right)
 (sSeq (sIf (tOr2 (tBl (eOp gNe (eOp gIsN (eVar 9) (eC .non)) (eOp gEq (eVar 4) (eLst aNil)))) (tAnd2 (tBl (eOp gNotN (eVar 9) (eC .non))) (tBl (eOp gNe (eSl (eVar 9) (ePart none) (ePart (some (eC (.int 2))))) (eOp gIx (eVar 4) (eC (.int 0)))))))
 (sRet (eC (.bl false)))
 sNil)
 (sSeq (sIf (tBl (eOp gNotN (eVar 9) (eC .non)))
 (sSeq (sSet 11 (eLst (aCons (eOp gIx (eVar 1) (eOp gIx (eVar 9) (eC (.int 0)))) (aCons (eOp gIx (eVar 1) (eOp gIx (eVar 9) (eC (.int 1)))) aNil))))
 (sSeq (sSet 12 (eCall 2 f__law_arcs_of (aCons (eVar 11) (aCons (eLst (aCons (eOp gIx (eVar 3) (eOp gIx (eVar 9) (eC (.int 0)))) (aCons (eOp gIx (eVar 3) (eOp gIx (eVar 9) (eC (.int 1)))) aNil))) aNil))))
 (sIf (tBl (eOp gNe (eB bLen (aCons (eComp [14] (mSeq (eVar 12)) g5__law_right c1__law_right e2__law_right) aNil)) (eC (.int 2))))
 (sRet (eC (.bl false)))
 sNil)))
 sNil)
 (sSeq (sSet 6 (eCall 1 f_placing (aCons (eVar 1) aNil)))
 (sSeq (sIf (tBl (eOp gEq (eOp gIx (eVar 6) (eC (.int 0))) (eC (.str "starts"))))
 (sRet (eAnd (eOp gIsN (eCall 2 f_clash (aCons (eVar 1) (aCons (eOp gIx (eVar 6) (eC (.int 1))) aNil))) (eC .non)) (eOp gEq (eOp gIx (eCall 2 f_load (aCons (eC (.int 24)) (aCons (eCall 2 f__law_arcs_of (aCons (eVar 1) (aCons (eOp gIx (eVar 6) (eC (.int 1))) aNil))) aNil))) (eC (.int 0))) (eC (.int 1)))))
 sNil)
 (sSeq (sIf (tBl (eOp gEq (eB bLen (aCons (eVar 1) aNil)) (eC (.int 2))))
 (sRet (eOp gLt (eCall 3 f_room (aCons (eVar 1) (aCons (eC (.int 0)) (aCons (eC (.int 1)) aNil)))) (eC (.int 0))))
 sNil)
 (sRet (eAnd (eOp gLe (eB bMax (aCons (eCall 1 f_frames (aCons (eVar 1) aNil)) aNil)) (eC (.int 24))) (eOp gGt (eB bLen (aCons (eVar 1) aNil)) (eC (.int 1)))))))))))))))))))
noncomputable def f__law_right : List R → M R := runFn 14 m__law_right
/-- law: 0 script, 1 place, 2 pot, 3 lap -/
noncomputable def g1_law : Tg :=
 (gN 3)
noncomputable def e1_law : Mi.Env → M R :=
 (eCall 1 f__law_right (aCons (eVar 2) aNil))
noncomputable def g2_law : Tg :=
 (gN 1)
noncomputable def b1_law : Mi.Env → M Fl :=
 (sSeq (sSetI 2 (eCall 2 f__law_pot (aCons (eVar 0) (aCons (eVar 1) aNil))))
 (sIf (tNot1 (tTr (eB bAll (aCons (eComp [3] (mR1 (aCons (eC (.int 3)) aNil)) g1_law tTrue e1_law) aNil))))
 (sRet (eC (.bl false)))
 sNil))
noncomputable def m_law : Mi.Env → M Fl :=
 (sSeq (sFor [] (mSeq (eCall 2 f__law_cells (aCons (eVar 0) (aCons (eC (.int 2)) aNil)))) g2_law b1_law)
 (sRet (eC (.bl true))))
noncomputable def f_law : List R → M R := runFn 3 m_law
end K80
/-! againandagain_k80_whole_pieces_as_arcs: the walks; printed. -/
namespace K80
open PySem PySem.Spec PyProof.Rows L2 Mi
def topS (i : Nat) : Stmt := PySem.Challenge.pw_againandagain_k80_whole_pieces_as_arcs.main.body.getD i (.Pass ⟨0, 0, 0, 0⟩)
abbrev s__law_cells : Stmt := topS 57
abbrev s__law_pot : Stmt := topS 54
abbrev s_is_integer : Stmt := topS 10
abbrev s_is_between : Stmt := topS 11
abbrev s_is_piece : Stmt := topS 28
abbrev s_check_pieces : Stmt := topS 29
abbrev s_common : Stmt := topS 12
abbrev s_least_with : Stmt := topS 31
abbrev s_frames_of : Stmt := topS 32
abbrev s_check_tried : Stmt := topS 39
abbrev s_do_clash : Stmt := topS 35
abbrev s_clashing : Stmt := topS 40
abbrev s_placing : Stmt := topS 41
abbrev s__law_arcs_of : Stmt := topS 59
abbrev s_are_starts : Stmt := topS 30
abbrev s_is_at_work : Stmt := topS 36
abbrev s_first_minute : Stmt := topS 37
abbrev s_clash : Stmt := topS 38
abbrev s__law_take : Stmt := topS 55
abbrev s__law_of : Stmt := topS 56
abbrev s_room : Stmt := topS 34
abbrev s_check_lap : Stmt := topS 17
abbrev s_are_arcs : Stmt := topS 16
abbrev s_check_arcs : Stmt := topS 18
abbrev s_has_time : Stmt := topS 19
abbrev s_told_load : Stmt := topS 20
abbrev s_load : Stmt := topS 21
abbrev s_frames : Stmt := topS 33
abbrev s_are_rests : Stmt := topS 48
abbrev s_inverse : Stmt := topS 50
abbrev s_put_together : Stmt := topS 49
abbrev s_all_together : Stmt := topS 51
abbrev s_solve : Stmt := topS 52
abbrev s__law_do_clash : Stmt := topS 60
abbrev s__law_has : Stmt := topS 58
abbrev s__law_right : Stmt := topS 61
abbrev s_law : Stmt := topS 62
theorem sc__law_cells : FnScope ["script", "limit"] ["script", "limit"] (defScope s__law_cells) := ⟨rfl, rfl, rfl, by decide +kernel, rfl, by decide +kernel, by decide +kernel⟩
theorem sc__law_pot : FnScope ["script", "place", "cell", "own", "small"] ["script", "place"] (defScope s__law_pot) := ⟨rfl, rfl, rfl, by decide +kernel, rfl, by decide +kernel, by decide +kernel⟩
theorem sc_is_integer : FnScope ["value"] ["value"] (defScope s_is_integer) := ⟨rfl, rfl, rfl, by decide +kernel, rfl, by decide +kernel, by decide +kernel⟩
theorem sc_is_between : FnScope ["value", "least", "most"] ["value", "least", "most"] (defScope s_is_between) := ⟨rfl, rfl, rfl, by decide +kernel, rfl, by decide +kernel, by decide +kernel⟩
theorem sc_is_piece : FnScope ["value"] ["value"] (defScope s_is_piece) := ⟨rfl, rfl, rfl, by decide +kernel, rfl, by decide +kernel, by decide +kernel⟩
theorem sc_check_pieces : FnScope ["pieces", "one"] ["pieces"] (defScope s_check_pieces) := ⟨rfl, rfl, rfl, by decide +kernel, rfl, by decide +kernel, by decide +kernel⟩
theorem sc_common : FnScope ["one", "other"] ["one", "other"] (defScope s_common) := ⟨rfl, rfl, rfl, by decide +kernel, rfl, by decide +kernel, by decide +kernel⟩
theorem sc_least_with : FnScope ["one", "other"] ["one", "other"] (defScope s_least_with) := ⟨rfl, rfl, rfl, by decide +kernel, rfl, by decide +kernel, by decide +kernel⟩
theorem sc_frames_of : FnScope ["pieces", "found", "at", "frame", "every", "long", "to", "other"] ["pieces"] (defScope s_frames_of) := ⟨rfl, rfl, rfl, by decide +kernel, rfl, by decide +kernel, by decide +kernel⟩
theorem sc_check_tried : FnScope ["pieces", "ways", "frame"] ["pieces"] (defScope s_check_tried) := ⟨rfl, rfl, rfl, by decide +kernel, rfl, by decide +kernel, by decide +kernel⟩
theorem sc_do_clash : FnScope ["one", "start", "other", "begin", "factor"] ["one", "start", "other", "begin"] (defScope s_do_clash) := ⟨rfl, rfl, rfl, by decide +kernel, rfl, by decide +kernel, by decide +kernel⟩
theorem sc_clashing : FnScope ["pieces", "begun", "last", "at"] ["pieces", "begun"] (defScope s_clashing) := ⟨rfl, rfl, rfl, by decide +kernel, rfl, by decide +kernel, by decide +kernel⟩
theorem sc_placing : FnScope ["pieces", "sizes", "cases", "waiting", "begun", "at", "start"] ["pieces"] (defScope s_placing) := ⟨rfl, rfl, rfl, by decide +kernel, rfl, by decide +kernel, by decide +kernel⟩
theorem sc__law_arcs_of : FnScope ["pieces", "starts", "found", "begin", "every", "long", "step"] ["pieces", "starts"] (defScope s__law_arcs_of) := ⟨rfl, rfl, rfl, by decide +kernel, rfl, by decide +kernel, by decide +kernel⟩
theorem sc_are_starts : FnScope ["pieces", "value", "start", "every", "long"] ["pieces", "value"] (defScope s_are_starts) := ⟨rfl, rfl, rfl, by decide +kernel, rfl, by decide +kernel, by decide +kernel⟩
theorem sc_is_at_work : FnScope ["piece", "start", "minute"] ["piece", "start", "minute"] (defScope s_is_at_work) := ⟨rfl, rfl, rfl, by decide +kernel, rfl, by decide +kernel, by decide +kernel⟩
theorem sc_first_minute : FnScope ["one", "start", "other", "begin", "found", "piece", "at", "its", "to", "some", "lap", "minute"] ["one", "start", "other", "begin"] (defScope s_first_minute) := ⟨rfl, rfl, rfl, by decide +kernel, rfl, by decide +kernel, by decide +kernel⟩
theorem sc_clash : FnScope ["pieces", "starts", "at", "one", "to"] ["pieces", "starts"] (defScope s_clash) := ⟨rfl, rfl, rfl, by decide +kernel, rfl, by decide +kernel, by decide +kernel⟩
theorem sc__law_take : FnScope ["pot", "upto", "prime", "mixed", "digit"] ["pot", "upto"] (defScope s__law_take) := ⟨rfl, rfl, rfl, by decide +kernel, rfl, by decide +kernel, by decide +kernel⟩
theorem sc__law_of : FnScope ["pot", "some"] ["pot", "some"] (defScope s__law_of) := ⟨rfl, rfl, rfl, by decide +kernel, rfl, by decide +kernel, by decide +kernel⟩
theorem sc_room : FnScope ["pieces", "at", "to", "last"] ["pieces", "at", "to"] (defScope s_room) := ⟨rfl, rfl, rfl, by decide +kernel, rfl, by decide +kernel, by decide +kernel⟩
theorem sc_check_lap : FnScope ["lap"] ["lap"] (defScope s_check_lap) := ⟨rfl, rfl, rfl, by decide +kernel, rfl, by decide +kernel, by decide +kernel⟩
theorem sc_are_arcs : FnScope ["lap", "value", "arc", "begin", "long"] ["lap", "value"] (defScope s_are_arcs) := ⟨rfl, rfl, rfl, by decide +kernel, rfl, by decide +kernel, by decide +kernel⟩
theorem sc_check_arcs : FnScope ["lap", "arcs"] ["lap", "arcs"] (defScope s_check_arcs) := ⟨rfl, rfl, rfl, by decide +kernel, rfl, by decide +kernel, by decide +kernel⟩
theorem sc_has_time : FnScope ["lap", "arc", "time"] ["lap", "arc", "time"] (defScope s_has_time) := ⟨rfl, rfl, rfl, by decide +kernel, rfl, by decide +kernel, by decide +kernel⟩
theorem sc_told_load : FnScope ["lap", "arcs", "best", "time", "many", "arc", "begin", "long"] ["lap", "arcs"] (defScope s_told_load) := ⟨rfl, rfl, rfl, by decide +kernel, rfl, by decide +kernel, by decide +kernel⟩
theorem sc_load : FnScope ["lap", "arcs"] ["lap", "arcs"] (defScope s_load) := ⟨rfl, rfl, rfl, by decide +kernel, rfl, by decide +kernel, by decide +kernel⟩
theorem sc_frames : FnScope ["pieces"] ["pieces"] (defScope s_frames) := ⟨rfl, rfl, rfl, by decide +kernel, rfl, by decide +kernel, by decide +kernel⟩
theorem sc_are_rests : FnScope ["value", "pair", "round_of", "rest"] ["value"] (defScope s_are_rests) := ⟨rfl, rfl, rfl, by decide +kernel, rfl, by decide +kernel, by decide +kernel⟩
theorem sc_inverse : FnScope ["number", "round_of", "one", "other", "here", "there", "times"] ["number", "round_of"] (defScope s_inverse) := ⟨rfl, rfl, rfl, by decide +kernel, rfl, by decide +kernel, by decide +kernel⟩
theorem sc_put_together : FnScope ["one", "other", "factor", "many", "whole", "steps", "wide"] ["one", "other"] (defScope s_put_together) := ⟨rfl, rfl, rfl, by decide +kernel, rfl, by decide +kernel, by decide +kernel⟩
theorem sc_all_together : FnScope ["rests", "found", "pair"] ["rests"] (defScope s_all_together) := ⟨rfl, rfl, rfl, by decide +kernel, rfl, by decide +kernel, by decide +kernel⟩
theorem sc_solve : FnScope ["rests", "at", "one", "to"] ["rests"] (defScope s_solve) := ⟨rfl, rfl, rfl, by decide +kernel, rfl, by decide +kernel, by decide +kernel⟩
theorem sc__law_do_clash : FnScope ["one", "other", "here", "there", "late", "more"] ["one", "other", "here", "there"] (defScope s__law_do_clash) := ⟨rfl, rfl, rfl, by decide +kernel, rfl, by decide +kernel, by decide +kernel⟩
theorem sc__law_has : FnScope ["lap", "arc", "time", "begin", "end"] ["lap", "arc", "time"] (defScope s__law_has) := ⟨rfl, rfl, rfl, by decide +kernel, rfl, by decide +kernel, by decide +kernel⟩
theorem sc__law_right : FnScope ["pot", "pieces", "lap", "starts", "pairs", "at", "found", "every", "arcs", "told", "to", "both", "own", "long", "arc"] ["pot"] (defScope s__law_right) := ⟨rfl, rfl, rfl, by decide +kernel, rfl, by decide +kernel, by decide +kernel⟩
theorem sc_law : FnScope ["script", "place", "pot", "lap"] ["script"] (defScope s_law) := ⟨rfl, rfl, rfl, by decide +kernel, rfl, by decide +kernel, by decide +kernel⟩
structure Txt (K : PySem.W.Frag) (mg : Str → Option Value) : Prop where
  d__law_cells : DefOk K mg "_law_cells" s__law_cells
  d__law_pot : DefOk K mg "_law_pot" s__law_pot
  d_is_integer : DefOk K mg "is_integer" s_is_integer
  d_is_between : DefOk K mg "is_between" s_is_between
  d_is_piece : DefOk K mg "is_piece" s_is_piece
  d_check_pieces : DefOk K mg "check_pieces" s_check_pieces
  d_common : DefOk K mg "common" s_common
  d_least_with : DefOk K mg "least_with" s_least_with
  d_frames_of : DefOk K mg "frames_of" s_frames_of
  d_check_tried : DefOk K mg "check_tried" s_check_tried
  d_do_clash : DefOk K mg "do_clash" s_do_clash
  d_clashing : DefOk K mg "clashing" s_clashing
  d_placing : DefOk K mg "placing" s_placing
  d__law_arcs_of : DefOk K mg "_law_arcs_of" s__law_arcs_of
  d_are_starts : DefOk K mg "are_starts" s_are_starts
  d_is_at_work : DefOk K mg "is_at_work" s_is_at_work
  d_first_minute : DefOk K mg "first_minute" s_first_minute
  d_clash : DefOk K mg "clash" s_clash
  d__law_take : DefOk K mg "_law_take" s__law_take
  d__law_of : DefOk K mg "_law_of" s__law_of
  d_room : DefOk K mg "room" s_room
  d_check_lap : DefOk K mg "check_lap" s_check_lap
  d_are_arcs : DefOk K mg "are_arcs" s_are_arcs
  d_check_arcs : DefOk K mg "check_arcs" s_check_arcs
  d_has_time : DefOk K mg "has_time" s_has_time
  d_told_load : DefOk K mg "told_load" s_told_load
  d_load : DefOk K mg "load" s_load
  d_frames : DefOk K mg "frames" s_frames
  d_are_rests : DefOk K mg "are_rests" s_are_rests
  d_inverse : DefOk K mg "inverse" s_inverse
  d_put_together : DefOk K mg "put_together" s_put_together
  d_all_together : DefOk K mg "all_together" s_all_together
  d_solve : DefOk K mg "solve" s_solve
  d__law_do_clash : DefOk K mg "_law_do_clash" s__law_do_clash
  d__law_has : DefOk K mg "_law_has" s__law_has
  d__law_right : DefOk K mg "_law_right" s__law_right
  d_law : DefOk K mg "law" s_law
  n_len : mg "len" = none
  n_min : mg "min" = none
  n_max : mg "max" = none
  n_list : mg "list" = none
  n_range : mg "range" = none
  n_abs : mg "abs" = none
  n_int : mg "int" = none
  n_isinstance : mg "isinstance" = none
  n_bool : mg "bool" = none
  n_tuple : mg "tuple" = none
  n_all : mg "all" = none
  n_enumerate : mg "enumerate" = none
  n_zip : mg "zip" = none
  n_sorted : mg "sorted" = none
  n_set : mg "set" = none
  i_MOST_EVERY : ∃ t, mg "MOST_EVERY" = some (.int 1440 t)
  i_MOST_PIECES : ∃ t, mg "MOST_PIECES" = some (.int 5 t)
  i_MOST_TRIED : ∃ t, mg "MOST_TRIED" = some (.int 20000 t)
  i_STARTS : ∃ t, mg "STARTS" = some (.str "starts" t)
  i_CASES : ∃ t, mg "CASES" = some (.str "cases" t)
  i_MOST_LAP : ∃ t, mg "MOST_LAP" = some (.int 99999 t)
  i_MOST_SPELLS : ∃ t, mg "MOST_SPELLS" = some (.int 40 t)
  i_MOST_RESTS : ∃ t, mg "MOST_RESTS" = some (.int 6 t)
  i_MOST_ROUND : ∃ t, mg "MOST_ROUND" = some (.int 999999 t)
  i_MOST_NUMBER : ∃ t, mg "MOST_NUMBER" = some (.int 999999999 t)
  i_TWO : ∃ t, mg "TWO" = some (.str "two" t)
  i_ALL : ∃ t, mg "ALL" = some (.str "all" t)
section
variable {P : Program} {w : World} {K : PySem.W.Frag} {mg : Str → Option Value} {base : Heap}
theorem ok__law_cells (T : Txt K mg) : OkF P w K mg base [] "_law_cells" 1 ["script", "limit"] f__law_cells := have S := sc__law_cells
 okF T.d__law_cells sc__law_cells rfl (fun _ _ _ _ _ _ us hl => match us, hl with | [_, _], _ => rfl) fun cdv A outer s H E hr =>
 (s_one (s_ret (listR1 (by rfl) T.n_list (by rfl) T.n_range (callB (c_max hr rfl) (by rfl) T.n_max bt_max (a_cons cint (a_cons (callB (c_min hr rfl) (by rfl) T.n_min bt_min (a_cons (vv 1) (a_cons (callB c_len (by rfl) T.n_len bt_len (a_cons (vv 0) a_nil)) a_nil))) a_nil))))))
theorem ok__law_pot (T : Txt K mg) : OkF P w K mg base [] "_law_pot" 1 ["script", "place"] f__law_pot := have S := sc__law_pot
 okF T.d__law_pot sc__law_pot rfl (fun _ _ _ _ _ _ us hl => match us, hl with | [_, _], _ => rfl) fun cdv A outer s H E hr =>
 (s_cons (s_set (i := 2) S.nd (by rfl) (by first | exact Or.inl rfl | exact Or.inr rfl) (ifx (t_cmp op_ltD (vv 1) (callB c_len (by rfl) T.n_len bt_len (a_cons (vv 0) a_nil)) (nomark _)) (ix (vv 0) (vv 1) (fun _ _ => rfl)) (bin op_addD (bin op_mulD cint (vv 1)) cint)))
 (s_cons (s_set (i := 3) S.nd (by rfl) (by first | exact Or.inl rfl | exact Or.inr rfl) (bin op_mulD (bin op_modD (callTy c_int (by rfl) T.n_int bt_int (a_cons (callB c_abs (by rfl) T.n_abs bt_abs (a_cons (vv 2) a_nil)) a_nil)) (bin op_powD (bin op_powD cint cint) cint)) (callTy c_int (by rfl) T.n_int bt_int (a_cons (cmp op_geD (callB c_abs (by rfl) T.n_abs bt_abs (a_cons (vv 2) a_nil)) (bin op_powD cint cint) (nomark _)) a_nil))))
 (s_cons (s_set (i := 4) S.nd (by rfl) (by first | exact Or.inl rfl | exact Or.inr rfl) (bin op_modD (callTy c_int (by rfl) T.n_int bt_int (a_cons (vv 2) a_nil)) cint))
 (s_one (s_ret (lstd (a_cons (vv 3) (a_cons (bin op_modD (callTy c_int (by rfl) T.n_int bt_int (a_cons (bin op_addD (bin op_addD (bin op_mulD (vv 4) cint) (bin op_mulD (bin op_mulD cint (vv 1)) (vv 1))) cint) a_nil)) cint) (a_cons cint a_nil)))))))))
theorem ok_is_integer (T : Txt K mg) : OkF P w K mg base [] "is_integer" 1 ["value"] f_is_integer := have S := sc_is_integer
 okF T.d_is_integer sc_is_integer rfl (fun _ _ _ _ _ _ us hl => match us, hl with | [_], _ => rfl) fun cdv A outer s H E hr =>
 (s_one (s_ret (v_and (isT (by rfl) T.n_isinstance (by rfl) T.n_int bt_int (.ty _) (vv 0)) (v_one (v_not (isT (by rfl) T.n_isinstance (by rfl) T.n_bool bt_bool (.ty _) (vv 0)))))))
theorem ok_is_between (T : Txt K mg) : OkF P w K mg base [] "is_between" 2 ["value", "least", "most"] f_is_between := have S := sc_is_between
 okF T.d_is_between sc_is_between rfl (fun _ _ _ _ _ _ us hl => match us, hl with | [_, _, _], _ => rfl) fun cdv A outer s H E hr =>
 (s_one (s_ret (v_and (callF (ok_is_integer T) hr (a_cons (vv 0) a_nil)) (v_one (chain op_leD op_leD (vv 1) (vv 0) (vv 2))))))
theorem ok_is_piece (T : Txt K mg) : OkF P w K mg base [] "is_piece" 3 ["value"] f_is_piece := have S := sc_is_piece
 okF T.d_is_piece sc_is_piece rfl (fun _ _ _ _ _ _ us hl => match us, hl with | [_], _ => rfl) fun cdv A outer s H E hr =>
 (s_cons (s_if (t_w (t_or (t_not (t_truth (isT (by rfl) T.n_isinstance (by rfl) T.n_tuple bt_tuple (.ty _) (vv 0)) (fun _ => rfl))) (t_or (t_cmp (op_neM hr) (callB c_len (by rfl) T.n_len bt_len (a_cons (vv 0) a_nil)) cint (nomark _)) (t_or1 (t_not (t_truth (callF (ok_is_between T) hr (a_cons (ix (vv 0) cint (fun _ _ => rfl)) (a_cons cint (a_cons (globI T.i_MOST_EVERY) a_nil)))) (fun _ => rfl)))))))
 (s_one (s_ret cbl))
 s_nil)
 (s_one (s_ret (callF (ok_is_between T) hr (a_cons (ix (vv 0) cint (fun _ _ => rfl)) (a_cons cint (a_cons (ix (vv 0) cint (fun _ _ => rfl)) a_nil)))))))
theorem ok_check_pieces (T : Txt K mg) : OkF P w K mg base [] "check_pieces" 4 ["pieces"] f_check_pieces := have S := sc_check_pieces
 okF T.d_check_pieces sc_check_pieces rfl (fun _ _ _ _ _ _ us hl => match us, hl with | [_], _ => rfl) fun cdv A outer s H E hr =>
 (s_cons (s_if (t_w (t_or (t_not (t_truth (isT (by rfl) T.n_isinstance (by rfl) T.n_tuple bt_tuple (.ty _) (vv 0)) (fun _ => rfl))) (t_or1 (t_not (t_chain op_ltD op_leD cint (callB c_len (by rfl) T.n_len bt_len (a_cons (vv 0) a_nil)) (globI T.i_MOST_PIECES))))))
 (s_one s_never)
 s_nil)
 (s_one (s_if (t_not (t_truth (callB (c_all rfl) (by rfl) T.n_all bt_all (a_cons (comp rfl S.nd (i_seq (vv 0)) (own := [("one", 1)]) (blkOk_by (by kernel_rfl)) (by decide) (fun _ _ _ _ _ => (g_name (i := 1) S.nd (by rfl) (by first | exact Or.inl rfl | exact Or.inr rfl))) (fun _ _ _ _ _ => ts_nil) (fun _ _ _ _ _ => (callF (ok_is_piece T) hr (a_cons (vv 1) a_nil)))) a_nil)) (fun _ => rfl)))
 (s_one s_never)
 s_nil)))
theorem ok_common (T : Txt K mg) : OkF P w K mg base [] "common" 1 ["one", "other"] f_common := have S := sc_common
 okF T.d_common sc_common rfl (fun _ _ _ _ _ _ us hl => match us, hl with | [_, _], _ => rfl) fun cdv A outer s H E hr =>
 (s_cons (s_while PassesOwn.never (t_cmp (op_neM hr) (vv 1) cint (nomark _))
 (s_one (s_par2 (i := 0) (j := 1) (k1 := .f) (k2 := .f) rfl S.nd (by rfl) (by rfl) (by decide) (by rfl) (by rfl) (a_cons (vv 1) (a_cons (bin op_modD (vv 0) (vv 1)) a_nil)) (by rfl))))
 (s_one (s_ret (callB c_abs (by rfl) T.n_abs bt_abs (a_cons (vv 0) a_nil)))))
theorem ok_least_with (T : Txt K mg) : OkF P w K mg base [] "least_with" 2 ["one", "other"] f_least_with := have S := sc_least_with
 okF T.d_least_with sc_least_with rfl (fun _ _ _ _ _ _ us hl => match us, hl with | [_, _], _ => rfl) fun cdv A outer s H E hr =>
 (s_one (s_ret (bin op_fdivD (bin op_mulD (vv 0) (vv 1)) (callF (ok_common T) hr (a_cons (vv 0) (a_cons (vv 1) a_nil))))))
theorem ok_frames_of (T : Txt K mg) : OkF P w K mg base [] "frames_of" 3 ["pieces"] f_frames_of := have S := sc_frames_of
 okF T.d_frames_of sc_frames_of rfl (fun _ _ _ _ _ _ us hl => match us, hl with | [_], _ => rfl) fun cdv A outer s H E hr =>
 (s_cons (s_setL (i := 1) S.nd (by rfl) (by first | exact Or.inl rfl | exact Or.inr rfl) (lstd a_nil))
 (s_cons (s_for (fz := []) PassesOwn.never rfl (i_enum (by rfl) T.n_enumerate (vv 0)) (g_tup rfl (g_cons (g_name (i := 2) S.nd (by rfl) (by first | exact Or.inl rfl | exact Or.inr rfl)) (g_cons (g_tup rfl (g_cons (g_name (i := 4) S.nd (by rfl) (by first | exact Or.inl rfl | exact Or.inr rfl)) (g_cons (g_name (i := 5) S.nd (by rfl) (by first | exact Or.inl rfl | exact Or.inr rfl)) g_nil))) g_nil)))
 (s_cons (s_set (i := 3) S.nd (by rfl) (by first | exact Or.inl rfl | exact Or.inr rfl) cint)
 (s_cons (s_for (fz := []) PassesOwn.never rfl (i_enum (by rfl) T.n_enumerate (vv 0)) (g_tup rfl (g_cons (g_name (i := 6) S.nd (by rfl) (by first | exact Or.inl rfl | exact Or.inr rfl)) (g_cons (g_name (i := 7) S.nd (by rfl) (by first | exact Or.inl rfl | exact Or.inr rfl)) g_nil)))
 (s_one (s_set (i := 3) S.nd (by rfl) (by first | exact Or.inl rfl | exact Or.inr rfl) (ifx (t_cmp (op_eqM hr) (vv 6) (vv 2) (nomark _)) (vv 3) (callF (ok_least_with T) hr (a_cons (vv 3) (a_cons (callF (ok_common T) hr (a_cons (vv 4) (a_cons (ix (vv 7) cint (fun _ _ => rfl)) a_nil))) a_nil)))))))
 (s_one (s_own mt_appendD PySem.F.slot_list_append PySem.F.type_list_append (i := 1) (by rfl) (by first | exact Or.inl rfl | exact Or.inr (Or.inl rfl) | exact Or.inr (Or.inr rfl)) (a_cons (vv 3) a_nil))))))
 (s_one (s_retV (i := 1) (by rfl) (by first | exact Or.inl rfl | exact Or.inr (Or.inl rfl) | exact Or.inr (Or.inr rfl))))))
theorem ok_check_tried (T : Txt K mg) : OkF P w K mg base [] "check_tried" 5 ["pieces"] f_check_tried := have S := sc_check_tried
 okF T.d_check_tried sc_check_tried rfl (fun _ _ _ _ _ _ us hl => match us, hl with | [_], _ => rfl) fun cdv A outer s H E hr =>
 (s_cons (s_expr (callF (ok_check_pieces T) hr (a_cons (vv 0) a_nil)))
 (s_cons (s_set (i := 1) S.nd (by rfl) (by first | exact Or.inl rfl | exact Or.inr rfl) cint)
 (s_cons (s_for (fz := []) PassesOwn.never rfl (i_seq (sl (callF (ok_frames_of T) hr (a_cons (vv 0) a_nil)) (part1 cint) part0)) (g_name (i := 2) S.nd (by rfl) (by first | exact Or.inl rfl | exact Or.inr rfl))
 (s_one (s_set (i := 1) S.nd (by rfl) (by first | exact Or.inl rfl | exact Or.inr rfl) (bin op_mulD (vv 1) (vv 2)))))
 (s_one (s_if (t_cmp op_gtD (vv 1) (globI T.i_MOST_TRIED) (nomark _))
 (s_one s_never)
 s_nil)))))
theorem ok_do_clash (T : Txt K mg) : OkF P w K mg base [] "do_clash" 2 ["one", "start", "other", "begin"] f_do_clash := have S := sc_do_clash
 okF T.d_do_clash sc_do_clash rfl (fun _ _ _ _ _ _ us hl => match us, hl with | [_, _, _, _], _ => rfl) fun cdv A outer s H E hr =>
 (s_cons (s_set (i := 4) S.nd (by rfl) (by first | exact Or.inl rfl | exact Or.inr rfl) (callF (ok_common T) hr (a_cons (ix (vv 0) cint (fun _ _ => rfl)) (a_cons (ix (vv 2) cint (fun _ _ => rfl)) a_nil))))
 (s_one (s_ret (v_or (cmp op_ltD (bin op_modD (bin op_subD (vv 3) (vv 1)) (vv 4)) (ix (vv 0) cint (fun _ _ => rfl)) (nomark _)) (v_one (cmp op_ltD (bin op_modD (bin op_subD (vv 1) (vv 3)) (vv 4)) (ix (vv 2) cint (fun _ _ => rfl)) (nomark _)))))))
theorem ok_clashing (T : Txt K mg) : OkF P w K mg base [] "clashing" 3 ["pieces", "begun"] f_clashing := have S := sc_clashing
 okF T.d_clashing sc_clashing rfl (fun _ _ _ _ _ _ us hl => match us, hl with | [_, _], _ => rfl) fun cdv A outer s H E hr =>
 (s_cons (s_set (i := 2) S.nd (by rfl) (by first | exact Or.inl rfl | exact Or.inr rfl) (bin op_subD (callB c_len (by rfl) T.n_len bt_len (a_cons (vv 1) a_nil)) cint))
 (s_cons (s_for (fz := []) PassesOwn.never rfl (i_range1 (by rfl) T.n_range (a_cons (vv 2) a_nil)) (g_name (i := 3) S.nd (by rfl) (by first | exact Or.inl rfl | exact Or.inr rfl))
 (s_one (s_if (t_truth (callF (ok_do_clash T) hr (a_cons (ix (vv 0) (vv 3) (fun _ _ => rfl)) (a_cons (ix (vv 1) (vv 3) (fun _ _ => rfl)) (a_cons (ix (vv 0) (vv 2) (fun _ _ => rfl)) (a_cons (ix (vv 1) (vv 2) (fun _ _ => rfl)) a_nil))))) (fun _ => rfl))
 (s_one (s_ret (vv 3)))
 s_nil)))
 (s_one (s_ret cnon))))
theorem ok_placing (T : Txt K mg) : OkF P w K mg base [] "placing" 6 ["pieces"] f_placing := have S := sc_placing
 okF T.d_placing sc_placing rfl (fun _ _ _ _ _ _ us hl => match us, hl with | [_], _ => rfl) fun cdv A outer s H E hr =>
 (s_cons (s_expr (callF (ok_check_tried T) hr (a_cons (vv 0) a_nil)))
 (s_cons (s_par3 (i := 1) (j := 2) (l := 3) (k1 := .f) (k2 := .l) (k3 := .l) rfl S.nd (by rfl) (by rfl) (by rfl) (by decide) (by decide) (by decide) (by rfl) (by rfl) (by rfl) (a_cons (callF (ok_frames_of T) hr (a_cons (vv 0) a_nil)) (a_cons (lstd a_nil) (a_cons (lstd (a_cons (tupd (a_cons cint a_nil)) a_nil)) a_nil))) (by rfl))
 (s_cons (s_while PassesOwn.never (t_cmp (op_neM hr) (vv 3) (lstd a_nil) (nomark _))
 (s_cons (s_pop0 (j := 4) (i := 3) S.nd (by rfl) (by first | exact Or.inl rfl | exact Or.inr rfl) (by rfl) (by first | exact Or.inl rfl | exact Or.inr (Or.inl rfl) | exact Or.inr (Or.inr rfl)))
 (s_cons (s_set (i := 5) S.nd (by rfl) (by first | exact Or.inl rfl | exact Or.inr rfl) (callF (ok_clashing T) hr (a_cons (vv 0) (a_cons (vv 4) a_nil))))
 (s_one (s_if (t_cmp op_notND (vv 5) cnon (nomark _))
 (s_one (s_own mt_appendD PySem.F.slot_list_append PySem.F.type_list_append (i := 2) (by rfl) (by first | exact Or.inl rfl | exact Or.inr (Or.inl rfl) | exact Or.inr (Or.inr rfl)) (a_cons (tupd (a_cons (vv 4) (a_cons (vv 5) a_nil))) a_nil)))
 (s_one (s_if (t_cmp (op_eqM hr) (callB c_len (by rfl) T.n_len bt_len (a_cons (vv 4) a_nil)) (callB c_len (by rfl) T.n_len bt_len (a_cons (vv 0) a_nil)) (nomark _))
 (s_one (s_ret (tupd (a_cons (globS T.i_STARTS) (a_cons (vv 4) a_nil)))))
 (s_one (s_own mt_extendD PySem.F.slot_list_extend PySem.F.type_list_extend (i := 3) (by rfl) (by first | exact Or.inl rfl | exact Or.inr (Or.inl rfl) | exact Or.inr (Or.inr rfl)) (a_cons (revL (comp rfl S.nd (i_range1 (by rfl) T.n_range (a_cons (ix (vv 1) (callB c_len (by rfl) T.n_len bt_len (a_cons (vv 4) a_nil)) (fun _ _ => rfl)) a_nil)) (own := [("start", 6)]) (blkOk_by (by kernel_rfl)) (by decide) (fun _ _ _ _ _ => (g_name (i := 6) S.nd (by rfl) (by first | exact Or.inl rfl | exact Or.inr rfl))) (fun _ _ _ _ _ => ts_nil) (fun _ _ _ _ _ => (tupd (a_star (vv 4) (a_cons (vv 6) a_nil)))))) a_nil))))))))))
 (s_one (s_ret (tupd (a_cons (globS T.i_CASES) (a_cons (callTy c_tuple (by rfl) T.n_tuple bt_tuple (a_cons (vv 2) a_nil)) a_nil))))))))
theorem ok__law_arcs_of (T : Txt K mg) : OkF P w K mg base [] "_law_arcs_of" 1 ["pieces", "starts"] f__law_arcs_of := have S := sc__law_arcs_of
 okF T.d__law_arcs_of sc__law_arcs_of rfl (fun _ _ _ _ _ _ us hl => match us, hl with | [_, _], _ => rfl) fun cdv A outer s H E hr =>
 (s_cons (s_setL (i := 2) S.nd (by rfl) (by first | exact Or.inl rfl | exact Or.inr rfl) (lstd a_nil))
 (s_cons (s_for (fz := []) PassesOwn.never rfl (i_zip (by rfl) T.n_zip (vv 0) (vv 1)) (g_tup rfl (g_cons (g_tup rfl (g_cons (g_name (i := 4) S.nd (by rfl) (by first | exact Or.inl rfl | exact Or.inr rfl)) (g_cons (g_name (i := 5) S.nd (by rfl) (by first | exact Or.inl rfl | exact Or.inr rfl)) g_nil))) (g_cons (g_name (i := 3) S.nd (by rfl) (by first | exact Or.inl rfl | exact Or.inr rfl)) g_nil)))
 (s_one (s_own mt_extendD PySem.F.slot_list_extend PySem.F.type_list_extend (i := 2) (by rfl) (by first | exact Or.inl rfl | exact Or.inr (Or.inl rfl) | exact Or.inr (Or.inr rfl)) (a_cons (comp rfl S.nd (i_range1 (by rfl) T.n_range (a_cons (bin op_fdivD cint (vv 4)) a_nil)) (own := [("step", 6)]) (blkOk_by (by kernel_rfl)) (by decide) (fun _ _ _ _ _ => (g_name (i := 6) S.nd (by rfl) (by first | exact Or.inl rfl | exact Or.inr rfl))) (fun _ _ _ _ _ => ts_nil) (fun _ _ _ _ _ => (tupd (a_cons (callTy c_int (by rfl) T.n_int bt_int (a_cons (bin op_modD (bin op_addD (vv 3) (bin op_mulD (vv 4) (vv 6))) cint) a_nil)) (a_cons (vv 5) a_nil))))) a_nil))))
 (s_one (s_ret (callTy c_tuple (by rfl) T.n_tuple bt_tuple (a_cons (vv 2) a_nil))))))
theorem ok_are_starts (T : Txt K mg) : OkF P w K mg base [] "are_starts" 3 ["pieces", "value"] f_are_starts := have S := sc_are_starts
 okF T.d_are_starts sc_are_starts rfl (fun _ _ _ _ _ _ us hl => match us, hl with | [_, _], _ => rfl) fun cdv A outer s H E hr =>
 (s_cons (s_if (t_w (t_or (t_not (t_truth (isT (by rfl) T.n_isinstance (by rfl) T.n_tuple bt_tuple (.ty _) (vv 1)) (fun _ => rfl))) (t_or1 (t_cmp (op_neM hr) (callB c_len (by rfl) T.n_len bt_len (a_cons (vv 1) a_nil)) (callB c_len (by rfl) T.n_len bt_len (a_cons (vv 0) a_nil)) (nomark _)))))
 (s_one (s_ret cbl))
 s_nil)
 (s_one (s_ret (callB (c_all rfl) (by rfl) T.n_all bt_all (a_cons (comp rfl S.nd (i_zip (by rfl) T.n_zip (vv 1) (vv 0)) (own := [("start", 2), ("every", 3), ("long", 4)]) (blkOk_by (by kernel_rfl)) (by decide) (fun _ _ _ _ _ => (g_tup rfl (g_cons (g_name (i := 2) S.nd (by rfl) (by first | exact Or.inl rfl | exact Or.inr rfl)) (g_cons (g_tup rfl (g_cons (g_name (i := 3) S.nd (by rfl) (by first | exact Or.inl rfl | exact Or.inr rfl)) (g_cons (g_name (i := 4) S.nd (by rfl) (by first | exact Or.inl rfl | exact Or.inr rfl)) g_nil))) g_nil)))) (fun _ _ _ _ _ => ts_nil) (fun _ _ _ _ _ => (callF (ok_is_between T) hr (a_cons (vv 2) (a_cons cint (a_cons (bin op_subD (vv 3) cint) a_nil)))))) a_nil)))))
theorem ok_is_at_work (T : Txt K mg) : OkF P w K mg base [] "is_at_work" 1 ["piece", "start", "minute"] f_is_at_work := have S := sc_is_at_work
 okF T.d_is_at_work sc_is_at_work rfl (fun _ _ _ _ _ _ us hl => match us, hl with | [_, _, _], _ => rfl) fun cdv A outer s H E hr =>
 (s_one (s_ret (cmp op_ltD (bin op_modD (bin op_subD (vv 2) (vv 1)) (ix (vv 0) cint (fun _ _ => rfl))) (ix (vv 0) cint (fun _ _ => rfl)) (nomark _))))
theorem ok_first_minute (T : Txt K mg) : OkF P w K mg base [] "first_minute" 2 ["one", "start", "other", "begin"] f_first_minute := have S := sc_first_minute
 okF T.d_first_minute sc_first_minute rfl (fun _ _ _ _ _ _ us hl => match us, hl with | [_, _, _, _], _ => rfl) fun cdv A outer s H E hr =>
 (s_cons (s_if (t_w (t_and (t_truth (callF (ok_is_at_work T) hr (a_cons (vv 0) (a_cons (vv 1) (a_cons cint a_nil)))) (fun _ => rfl)) (t_and1 (t_truth (callF (ok_is_at_work T) hr (a_cons (vv 2) (a_cons (vv 3) (a_cons cint a_nil)))) (fun _ => rfl)))))
 (s_one (s_ret cint))
 s_nil)
 (s_cons (s_setL (i := 4) S.nd (by rfl) (by first | exact Or.inl rfl | exact Or.inr rfl) (lstd a_nil))
 (s_cons (s_for (fz := []) PassesOwn.never rfl (i_seq (tupd (a_cons (tupd (a_cons (vv 0) (a_cons (vv 1) (a_cons (vv 2) (a_cons (vv 3) a_nil))))) (a_cons (tupd (a_cons (vv 2) (a_cons (vv 3) (a_cons (vv 0) (a_cons (vv 1) a_nil))))) a_nil)))) (g_tup rfl (g_cons (g_name (i := 5) S.nd (by rfl) (by first | exact Or.inl rfl | exact Or.inr rfl)) (g_cons (g_name (i := 6) S.nd (by rfl) (by first | exact Or.inl rfl | exact Or.inr rfl)) (g_cons (g_name (i := 7) S.nd (by rfl) (by first | exact Or.inl rfl | exact Or.inr rfl)) (g_cons (g_name (i := 8) S.nd (by rfl) (by first | exact Or.inl rfl | exact Or.inr rfl)) g_nil)))))
 (s_cons (s_setC (i := 9) rfl S.nd (by rfl) (by rfl) (by rfl) (i_range1 (by rfl) T.n_range (a_cons (bin op_fdivD (ix (vv 7) cint (fun _ _ => rfl)) (callF (ok_common T) hr (a_cons (ix (vv 5) cint (fun _ _ => rfl)) (a_cons (ix (vv 7) cint (fun _ _ => rfl)) a_nil)))) a_nil)) (own := [("lap", 10)]) (blkOk_by (by kernel_rfl)) (by decide) (fun _ _ _ _ _ => (g_name (i := 10) S.nd (by rfl) (by first | exact Or.inl rfl | exact Or.inr rfl))) (fun _ _ _ _ _ => ts_nil) (fun _ _ _ _ _ => (bin op_addD (vv 6) (bin op_mulD (ix (vv 5) cint (fun _ _ => rfl)) (vv 10)))))
 (s_one (s_own mt_extendD PySem.F.slot_list_extend PySem.F.type_list_extend (i := 4) (by rfl) (by first | exact Or.inl rfl | exact Or.inr (Or.inl rfl) | exact Or.inr (Or.inr rfl)) (a_cons (sl (comp rfl S.nd (i_seq (vv 9)) (own := [("minute", 11)]) (blkOk_by (by kernel_rfl)) (by decide) (fun _ _ _ _ _ => (g_name (i := 11) S.nd (by rfl) (by first | exact Or.inl rfl | exact Or.inr rfl))) (fun _ _ _ _ _ => (ts_one (t_truth (callF (ok_is_at_work T) hr (a_cons (vv 7) (a_cons (vv 8) (a_cons (vv 11) a_nil)))) (fun _ => rfl)))) (fun _ _ _ _ _ => (vv 11))) part0 (part1 cint)) a_nil)))))
 (s_one (s_ret (callB (c_min hr rfl) (by rfl) T.n_min bt_min (a_cons (vv 4) a_nil)))))))
theorem ok_clash (T : Txt K mg) : OkF P w K mg base [] "clash" 5 ["pieces", "starts"] f_clash := have S := sc_clash
 okF T.d_clash sc_clash rfl (fun _ _ _ _ _ _ us hl => match us, hl with | [_, _], _ => rfl) fun cdv A outer s H E hr =>
 (s_cons (s_expr (callF (ok_check_pieces T) hr (a_cons (vv 0) a_nil)))
 (s_cons (s_if (t_not (t_truth (callF (ok_are_starts T) hr (a_cons (vv 0) (a_cons (vv 1) a_nil))) (fun _ => rfl)))
 (s_one s_never)
 s_nil)
 (s_cons (s_for (fz := []) PassesOwn.never rfl (i_enum (by rfl) T.n_enumerate (vv 0)) (g_tup rfl (g_cons (g_name (i := 2) S.nd (by rfl) (by first | exact Or.inl rfl | exact Or.inr rfl)) (g_cons (g_name (i := 3) S.nd (by rfl) (by first | exact Or.inl rfl | exact Or.inr rfl)) g_nil)))
 (s_one (s_for (fz := []) PassesOwn.never rfl (i_range2 (by rfl) T.n_range (a_cons (bin op_addD (vv 2) cint) (a_cons (callB c_len (by rfl) T.n_len bt_len (a_cons (vv 0) a_nil)) a_nil))) (g_name (i := 4) S.nd (by rfl) (by first | exact Or.inl rfl | exact Or.inr rfl))
 (s_one (s_if (t_truth (callF (ok_do_clash T) hr (a_cons (vv 3) (a_cons (ix (vv 1) (vv 2) (fun _ _ => rfl)) (a_cons (ix (vv 0) (vv 4) (fun _ _ => rfl)) (a_cons (ix (vv 1) (vv 4) (fun _ _ => rfl)) a_nil))))) (fun _ => rfl))
 (s_one (s_ret (tupd (a_cons (vv 2) (a_cons (vv 4) (a_cons (callF (ok_first_minute T) hr (a_cons (vv 3) (a_cons (ix (vv 1) (vv 2) (fun _ _ => rfl)) (a_cons (ix (vv 0) (vv 4) (fun _ _ => rfl)) (a_cons (ix (vv 1) (vv 4) (fun _ _ => rfl)) a_nil))))) a_nil))))))
 s_nil)))))
 (s_one (s_ret cnon)))))
theorem ok__law_take (T : Txt K mg) : OkF P w K mg base [] "_law_take" 1 ["pot", "upto"] f__law_take := have S := sc__law_take
 okF T.d__law_take sc__law_take rfl (fun _ _ _ _ _ _ us hl => match us, hl with | [_, _], _ => rfl) fun cdv A outer s H E hr =>
 (s_cons (s_if (t_cmp op_gtD (ix (vv 0) cint (fun _ _ => rfl)) cint (nomark _))
 (s_cons (s_set (i := 4) S.nd (by rfl) (by first | exact Or.inl rfl | exact Or.inr rfl) (bin op_modD (callTy c_int (by rfl) T.n_int bt_int (a_cons (ix (vv 0) cint (fun _ _ => rfl)) a_nil)) (vv 1)))
 (s_cons (s_asg (bin op_fdivD (ix (vv 0) cint (fun _ _ => rfl)) (vv 1)) (g_item (vv 0) cint))
 (s_one (s_ret (vv 4)))))
 s_nil)
 (s_cons (s_asg (bin op_addD (ix (vv 0) cint (fun _ _ => rfl)) cint) (g_item (vv 0) cint))
 (s_cons (s_set (i := 2) S.nd (by rfl) (by first | exact Or.inl rfl | exact Or.inr rfl) (ix (lstd (a_cons cint (a_cons cint (a_cons cint (a_cons cint (a_cons cint a_nil)))))) (bin op_modD (callTy c_int (by rfl) T.n_int bt_int (a_cons (ix (vv 0) cint (fun _ _ => rfl)) a_nil)) cint) (fun _ _ => rfl)))
 (s_cons (s_set (i := 3) S.nd (by rfl) (by first | exact Or.inl rfl | exact Or.inr rfl) (bin op_modD (callTy c_int (by rfl) T.n_int bt_int (a_cons (bin op_powD (callTy c_int (by rfl) T.n_int bt_int (a_cons (bin op_addD (bin op_addD (ix (vv 0) cint (fun _ _ => rfl)) (bin op_mulD (bin op_mulD cint (ix (vv 0) cint (fun _ _ => rfl))) (ix (vv 0) cint (fun _ _ => rfl)))) cint) a_nil)) cint) a_nil)) (vv 2)))
 (s_cons (s_set (i := 3) S.nd (by rfl) (by first | exact Or.inl rfl | exact Or.inr rfl) (bin op_modD (callTy c_int (by rfl) T.n_int bt_int (a_cons (bin op_mulD (vv 3) (bin op_addD (bin op_modD (callTy c_int (by rfl) T.n_int bt_int (a_cons (vv 3) a_nil)) cint) (bin op_mulD cint (ix (vv 0) cint (fun _ _ => rfl))))) a_nil)) cint))
 (s_one (s_ret (bin op_modD (callTy c_int (by rfl) T.n_int bt_int (a_cons (bin op_fdivD (vv 3) cint) a_nil)) (vv 1)))))))))
theorem ok__law_of (T : Txt K mg) : OkF P w K mg base [] "_law_of" 2 ["pot", "some"] f__law_of := have S := sc__law_of
 okF T.d__law_of sc__law_of rfl (fun _ _ _ _ _ _ us hl => match us, hl with | [_, _], _ => rfl) fun cdv A outer s H E hr =>
 (s_one (s_ret (ix (vv 1) (callF (ok__law_take T) hr (a_cons (vv 0) (a_cons (callB c_len (by rfl) T.n_len bt_len (a_cons (vv 1) a_nil)) a_nil))) (fun _ _ => rfl))))
theorem ok_room (T : Txt K mg) : OkF P w K mg base [] "room" 5 ["pieces", "at", "to"] f_room := have S := sc_room
 okF T.d_room sc_room rfl (fun _ _ _ _ _ _ us hl => match us, hl with | [_, _, _], _ => rfl) fun cdv A outer s H E hr =>
 (s_cons (s_expr (callF (ok_check_pieces T) hr (a_cons (vv 0) a_nil)))
 (s_cons (s_set (i := 3) S.nd (by rfl) (by first | exact Or.inl rfl | exact Or.inr rfl) (bin op_subD (callB c_len (by rfl) T.n_len bt_len (a_cons (vv 0) a_nil)) cint))
 (s_cons (s_if (t_w (t_or (t_not (t_truth (callF (ok_is_between T) hr (a_cons (vv 1) (a_cons cint (a_cons (vv 3) a_nil)))) (fun _ => rfl))) (t_or (t_not (t_truth (callF (ok_is_between T) hr (a_cons (vv 2) (a_cons cint (a_cons (vv 3) a_nil)))) (fun _ => rfl))) (t_or1 (t_cmp (op_eqM hr) (vv 1) (vv 2) (nomark _))))))
 (s_one s_never)
 s_nil)
 (s_one (s_ret (bin op_subD (bin op_subD (callF (ok_common T) hr (a_cons (ix (ix (vv 0) (vv 1) (fun _ _ => rfl)) cint (fun _ _ => rfl)) (a_cons (ix (ix (vv 0) (vv 2) (fun _ _ => rfl)) cint (fun _ _ => rfl)) a_nil))) (ix (ix (vv 0) (vv 1) (fun _ _ => rfl)) cint (fun _ _ => rfl))) (ix (ix (vv 0) (vv 2) (fun _ _ => rfl)) cint (fun _ _ => rfl))))))))
theorem ok_check_lap (T : Txt K mg) : OkF P w K mg base [] "check_lap" 3 ["lap"] f_check_lap := have S := sc_check_lap
 okF T.d_check_lap sc_check_lap rfl (fun _ _ _ _ _ _ us hl => match us, hl with | [_], _ => rfl) fun cdv A outer s H E hr =>
 (s_one (s_if (t_not (t_truth (callF (ok_is_between T) hr (a_cons (vv 0) (a_cons cint (a_cons (globI T.i_MOST_LAP) a_nil)))) (fun _ => rfl)))
 (s_one s_never)
 s_nil))
theorem ok_are_arcs (T : Txt K mg) : OkF P w K mg base [] "are_arcs" 3 ["lap", "value"] f_are_arcs := have S := sc_are_arcs
 okF T.d_are_arcs sc_are_arcs rfl (fun _ _ _ _ _ _ us hl => match us, hl with | [_, _], _ => rfl) fun cdv A outer s H E hr =>
 (s_cons (s_if (t_w (t_or (t_not (t_truth (isT (by rfl) T.n_isinstance (by rfl) T.n_tuple bt_tuple (.ty _) (vv 1)) (fun _ => rfl))) (t_or1 (t_cmp op_gtD (callB c_len (by rfl) T.n_len bt_len (a_cons (vv 1) a_nil)) (globI T.i_MOST_SPELLS) (nomark _)))))
 (s_one (s_ret cbl))
 s_nil)
 (s_cons (s_if (t_not (t_truth (callB (c_all rfl) (by rfl) T.n_all bt_all (a_cons (comp rfl S.nd (i_seq (vv 1)) (own := [("arc", 2)]) (blkOk_by (by kernel_rfl)) (by decide) (fun _ _ _ _ _ => (g_name (i := 2) S.nd (by rfl) (by first | exact Or.inl rfl | exact Or.inr rfl))) (fun _ _ _ _ _ => ts_nil) (fun _ _ _ _ _ => (v_and (isT (by rfl) T.n_isinstance (by rfl) T.n_tuple bt_tuple (.ty _) (vv 2)) (v_one (cmp (op_eqM hr) (callB c_len (by rfl) T.n_len bt_len (a_cons (vv 2) a_nil)) cint (nomark _)))))) a_nil)) (fun _ => rfl)))
 (s_one (s_ret cbl))
 s_nil)
 (s_one (s_ret (callB (c_all rfl) (by rfl) T.n_all bt_all (a_cons (comp rfl S.nd (i_seq (vv 1)) (own := [("begin", 3), ("long", 4)]) (blkOk_by (by kernel_rfl)) (by decide) (fun _ _ _ _ _ => (g_tup rfl (g_cons (g_name (i := 3) S.nd (by rfl) (by first | exact Or.inl rfl | exact Or.inr rfl)) (g_cons (g_name (i := 4) S.nd (by rfl) (by first | exact Or.inl rfl | exact Or.inr rfl)) g_nil)))) (fun _ _ _ _ _ => ts_nil) (fun _ _ _ _ _ => (v_and (callF (ok_is_between T) hr (a_cons (vv 3) (a_cons cint (a_cons (bin op_subD (vv 0) cint) a_nil)))) (v_one (callF (ok_is_between T) hr (a_cons (vv 4) (a_cons cint (a_cons (vv 0) a_nil)))))))) a_nil))))))
theorem ok_check_arcs (T : Txt K mg) : OkF P w K mg base [] "check_arcs" 4 ["lap", "arcs"] f_check_arcs := have S := sc_check_arcs
 okF T.d_check_arcs sc_check_arcs rfl (fun _ _ _ _ _ _ us hl => match us, hl with | [_, _], _ => rfl) fun cdv A outer s H E hr =>
 (s_cons (s_expr (callF (ok_check_lap T) hr (a_cons (vv 0) a_nil)))
 (s_one (s_if (t_not (t_truth (callF (ok_are_arcs T) hr (a_cons (vv 0) (a_cons (vv 1) a_nil))) (fun _ => rfl)))
 (s_one s_never)
 s_nil)))
theorem ok_has_time (T : Txt K mg) : OkF P w K mg base [] "has_time" 1 ["lap", "arc", "time"] f_has_time := have S := sc_has_time
 okF T.d_has_time sc_has_time rfl (fun _ _ _ _ _ _ us hl => match us, hl with | [_, _, _], _ => rfl) fun cdv A outer s H E hr =>
 (s_one (s_ret (cmp op_ltD (bin op_modD (bin op_subD (vv 2) (ix (vv 1) cint (fun _ _ => rfl))) (vv 0)) (ix (vv 1) cint (fun _ _ => rfl)) (nomark _))))
theorem ok_told_load (T : Txt K mg) : OkF P w K mg base [] "told_load" 2 ["lap", "arcs"] f_told_load := have S := sc_told_load
 okF T.d_told_load sc_told_load rfl (fun _ _ _ _ _ _ us hl => match us, hl with | [_, _], _ => rfl) fun cdv A outer s H E hr =>
 (s_cons (s_set (i := 2) S.nd (by rfl) (by first | exact Or.inl rfl | exact Or.inr rfl) (tupd (a_cons cint (a_cons cnon a_nil))))
 (s_cons (s_for (fz := []) PassesOwn.never rfl (i_seq (sortSet (by rfl) T.n_sorted (by rfl) T.n_set (bin op_addD (lstd (a_cons cint a_nil)) (comp rfl S.nd (i_seq (vv 1)) (own := [("begin", 6), ("long", 7)]) (blkOk_by (by kernel_rfl)) (by decide) (fun _ _ _ _ _ => (g_tup rfl (g_cons (g_name (i := 6) S.nd (by rfl) (by first | exact Or.inl rfl | exact Or.inr rfl)) (g_cons (g_name (i := 7) S.nd (by rfl) (by first | exact Or.inl rfl | exact Or.inr rfl)) g_nil)))) (fun _ _ _ _ _ => ts_nil) (fun _ _ _ _ _ => (vv 6)))))) (g_name (i := 3) S.nd (by rfl) (by first | exact Or.inl rfl | exact Or.inr rfl))
 (s_cons (s_set (i := 4) S.nd (by rfl) (by first | exact Or.inl rfl | exact Or.inr rfl) (callB c_len (by rfl) T.n_len bt_len (a_cons (comp rfl S.nd (i_seq (vv 1)) (own := [("arc", 5)]) (blkOk_by (by kernel_rfl)) (by decide) (fun _ _ _ _ _ => (g_name (i := 5) S.nd (by rfl) (by first | exact Or.inl rfl | exact Or.inr rfl))) (fun _ _ _ _ _ => (ts_one (t_truth (callF (ok_has_time T) hr (a_cons (vv 0) (a_cons (vv 5) (a_cons (vv 3) a_nil)))) (fun _ => rfl)))) (fun _ _ _ _ _ => (vv 5))) a_nil)))
 (s_one (s_set (i := 2) S.nd (by rfl) (by first | exact Or.inl rfl | exact Or.inr rfl) (ifx (t_cmp op_gtD (vv 4) (ix (vv 2) cint (fun _ _ => rfl)) (nomark _)) (tupd (a_cons (vv 4) (a_cons (vv 3) a_nil))) (vv 2))))))
 (s_one (s_ret (vv 2)))))
theorem ok_load (T : Txt K mg) : OkF P w K mg base [] "load" 5 ["lap", "arcs"] f_load := have S := sc_load
 okF T.d_load sc_load rfl (fun _ _ _ _ _ _ us hl => match us, hl with | [_, _], _ => rfl) fun cdv A outer s H E hr =>
 (s_cons (s_expr (callF (ok_check_arcs T) hr (a_cons (vv 0) (a_cons (vv 1) a_nil))))
 (s_one (s_ret (callF (ok_told_load T) hr (a_cons (vv 0) (a_cons (vv 1) a_nil))))))
theorem ok_frames (T : Txt K mg) : OkF P w K mg base [] "frames" 5 ["pieces"] f_frames := have S := sc_frames
 okF T.d_frames sc_frames rfl (fun _ _ _ _ _ _ us hl => match us, hl with | [_], _ => rfl) fun cdv A outer s H E hr =>
 (s_cons (s_expr (callF (ok_check_pieces T) hr (a_cons (vv 0) a_nil)))
 (s_one (s_ret (callTy c_tuple (by rfl) T.n_tuple bt_tuple (a_cons (callF (ok_frames_of T) hr (a_cons (vv 0) a_nil)) a_nil)))))
theorem ok_are_rests (T : Txt K mg) : OkF P w K mg base [] "are_rests" 3 ["value"] f_are_rests := have S := sc_are_rests
 okF T.d_are_rests sc_are_rests rfl (fun _ _ _ _ _ _ us hl => match us, hl with | [_], _ => rfl) fun cdv A outer s H E hr =>
 (s_cons (s_if (t_w (t_or (t_not (t_truth (isT (by rfl) T.n_isinstance (by rfl) T.n_tuple bt_tuple (.ty _) (vv 0)) (fun _ => rfl))) (t_or1 (t_not (t_chain op_ltD op_leD cint (callB c_len (by rfl) T.n_len bt_len (a_cons (vv 0) a_nil)) (globI T.i_MOST_RESTS))))))
 (s_one (s_ret cbl))
 s_nil)
 (s_cons (s_if (t_not (t_truth (callB (c_all rfl) (by rfl) T.n_all bt_all (a_cons (comp rfl S.nd (i_seq (vv 0)) (own := [("pair", 1)]) (blkOk_by (by kernel_rfl)) (by decide) (fun _ _ _ _ _ => (g_name (i := 1) S.nd (by rfl) (by first | exact Or.inl rfl | exact Or.inr rfl))) (fun _ _ _ _ _ => ts_nil) (fun _ _ _ _ _ => (v_and (isT (by rfl) T.n_isinstance (by rfl) T.n_tuple bt_tuple (.ty _) (vv 1)) (v_one (cmp (op_eqM hr) (callB c_len (by rfl) T.n_len bt_len (a_cons (vv 1) a_nil)) cint (nomark _)))))) a_nil)) (fun _ => rfl)))
 (s_one (s_ret cbl))
 s_nil)
 (s_one (s_ret (callB (c_all rfl) (by rfl) T.n_all bt_all (a_cons (comp rfl S.nd (i_seq (vv 0)) (own := [("round_of", 2), ("rest", 3)]) (blkOk_by (by kernel_rfl)) (by decide) (fun _ _ _ _ _ => (g_tup rfl (g_cons (g_name (i := 2) S.nd (by rfl) (by first | exact Or.inl rfl | exact Or.inr rfl)) (g_cons (g_name (i := 3) S.nd (by rfl) (by first | exact Or.inl rfl | exact Or.inr rfl)) g_nil)))) (fun _ _ _ _ _ => ts_nil) (fun _ _ _ _ _ => (v_and (callF (ok_is_between T) hr (a_cons (vv 2) (a_cons cint (a_cons (globI T.i_MOST_ROUND) a_nil)))) (v_one (callF (ok_is_between T) hr (a_cons (vv 3) (a_cons cint (a_cons (globI T.i_MOST_NUMBER) a_nil)))))))) a_nil))))))
theorem ok_inverse (T : Txt K mg) : OkF P w K mg base [] "inverse" 1 ["number", "round_of"] f_inverse := have S := sc_inverse
 okF T.d_inverse sc_inverse rfl (fun _ _ _ _ _ _ us hl => match us, hl with | [_, _], _ => rfl) fun cdv A outer s H E hr =>
 (s_cons (s_asg (tupd (a_cons (bin op_modD (vv 0) (vv 1)) (a_cons (vv 1) (a_cons cint (a_cons cint a_nil))))) (g_tup rfl (g_cons (g_name (i := 2) S.nd (by rfl) (by first | exact Or.inl rfl | exact Or.inr rfl)) (g_cons (g_name (i := 3) S.nd (by rfl) (by first | exact Or.inl rfl | exact Or.inr rfl)) (g_cons (g_name (i := 4) S.nd (by rfl) (by first | exact Or.inl rfl | exact Or.inr rfl)) (g_cons (g_name (i := 5) S.nd (by rfl) (by first | exact Or.inl rfl | exact Or.inr rfl)) g_nil))))))
 (s_cons (s_while PassesOwn.never (t_cmp op_gtD (vv 2) cint (nomark _))
 (s_cons (s_set (i := 6) S.nd (by rfl) (by first | exact Or.inl rfl | exact Or.inr rfl) (bin op_fdivD (vv 3) (vv 2)))
 (s_one (s_asg (tupd (a_cons (bin op_subD (vv 3) (bin op_mulD (vv 6) (vv 2))) (a_cons (vv 2) (a_cons (bin op_subD (vv 5) (bin op_mulD (vv 6) (vv 4))) (a_cons (vv 4) a_nil))))) (g_tup rfl (g_cons (g_name (i := 2) S.nd (by rfl) (by first | exact Or.inl rfl | exact Or.inr rfl)) (g_cons (g_name (i := 3) S.nd (by rfl) (by first | exact Or.inl rfl | exact Or.inr rfl)) (g_cons (g_name (i := 4) S.nd (by rfl) (by first | exact Or.inl rfl | exact Or.inr rfl)) (g_cons (g_name (i := 5) S.nd (by rfl) (by first | exact Or.inl rfl | exact Or.inr rfl)) g_nil)))))))))
 (s_one (s_ret (bin op_modD (vv 4) (vv 1))))))
theorem ok_put_together (T : Txt K mg) : OkF P w K mg base [] "put_together" 2 ["one", "other"] f_put_together := have S := sc_put_together
 okF T.d_put_together sc_put_together rfl (fun _ _ _ _ _ _ us hl => match us, hl with | [_, _], _ => rfl) fun cdv A outer s H E hr =>
 (s_cons (s_set (i := 2) S.nd (by rfl) (by first | exact Or.inl rfl | exact Or.inr rfl) (callF (ok_common T) hr (a_cons (ix (vv 0) cint (fun _ _ => rfl)) (a_cons (ix (vv 1) cint (fun _ _ => rfl)) a_nil))))
 (s_cons (s_if (t_cmp (op_neM hr) (bin op_modD (bin op_subD (ix (vv 1) cint (fun _ _ => rfl)) (ix (vv 0) cint (fun _ _ => rfl))) (vv 2)) cint (nomark _))
 (s_one (s_ret cnon))
 s_nil)
 (s_cons (s_par2 (i := 5) (j := 6) (k1 := .f) (k2 := .f) rfl S.nd (by rfl) (by rfl) (by decide) (by rfl) (by rfl) (a_cons (bin op_fdivD (bin op_subD (ix (vv 1) cint (fun _ _ => rfl)) (ix (vv 0) cint (fun _ _ => rfl))) (vv 2)) (a_cons (bin op_fdivD (ix (vv 1) cint (fun _ _ => rfl)) (vv 2)) a_nil)) (by rfl))
 (s_cons (s_set (i := 3) S.nd (by rfl) (by first | exact Or.inl rfl | exact Or.inr rfl) (bin op_modD (bin op_mulD (vv 5) (callF (ok_inverse T) hr (a_cons (bin op_fdivD (ix (vv 0) cint (fun _ _ => rfl)) (vv 2)) (a_cons (vv 6) a_nil)))) (vv 6)))
 (s_cons (s_set (i := 4) S.nd (by rfl) (by first | exact Or.inl rfl | exact Or.inr rfl) (bin op_mulD (ix (vv 0) cint (fun _ _ => rfl)) (vv 6)))
 (s_one (s_ret (tupd (a_cons (vv 4) (a_cons (bin op_modD (bin op_addD (ix (vv 0) cint (fun _ _ => rfl)) (bin op_mulD (ix (vv 0) cint (fun _ _ => rfl)) (vv 3))) (vv 4)) a_nil))))))))))
theorem ok_all_together (T : Txt K mg) : OkF P w K mg base [] "all_together" 3 ["rests"] f_all_together := have S := sc_all_together
 okF T.d_all_together sc_all_together rfl (fun _ _ _ _ _ _ us hl => match us, hl with | [_], _ => rfl) fun cdv A outer s H E hr =>
 (s_cons (s_set (i := 1) S.nd (by rfl) (by first | exact Or.inl rfl | exact Or.inr rfl) (tupd (a_cons cint (a_cons cint a_nil))))
 (s_cons (s_for (fz := []) PassesOwn.never rfl (i_seq (vv 0)) (g_name (i := 2) S.nd (by rfl) (by first | exact Or.inl rfl | exact Or.inr rfl))
 (s_one (s_set (i := 1) S.nd (by rfl) (by first | exact Or.inl rfl | exact Or.inr rfl) (ifx (t_cmp op_isND (vv 1) cnon (nomark _)) cnon (callF (ok_put_together T) hr (a_cons (vv 1) (a_cons (vv 2) a_nil)))))))
 (s_one (s_ret (vv 1)))))
theorem ok_solve (T : Txt K mg) : OkF P w K mg base [] "solve" 4 ["rests"] f_solve := have S := sc_solve
 okF T.d_solve sc_solve rfl (fun _ _ _ _ _ _ us hl => match us, hl with | [_], _ => rfl) fun cdv A outer s H E hr =>
 (s_cons (s_if (t_not (t_truth (callF (ok_are_rests T) hr (a_cons (vv 0) a_nil)) (fun _ => rfl)))
 (s_one s_never)
 s_nil)
 (s_cons (s_for (fz := []) PassesOwn.never rfl (i_enum (by rfl) T.n_enumerate (vv 0)) (g_tup rfl (g_cons (g_name (i := 1) S.nd (by rfl) (by first | exact Or.inl rfl | exact Or.inr rfl)) (g_cons (g_name (i := 2) S.nd (by rfl) (by first | exact Or.inl rfl | exact Or.inr rfl)) g_nil)))
 (s_one (s_for (fz := []) PassesOwn.never rfl (i_range2 (by rfl) T.n_range (a_cons (bin op_addD (vv 1) cint) (a_cons (callB c_len (by rfl) T.n_len bt_len (a_cons (vv 0) a_nil)) a_nil))) (g_name (i := 3) S.nd (by rfl) (by first | exact Or.inl rfl | exact Or.inr rfl))
 (s_one (s_if (t_cmp op_isND (callF (ok_put_together T) hr (a_cons (vv 2) (a_cons (ix (vv 0) (vv 3) (fun _ _ => rfl)) a_nil))) cnon (nomark _))
 (s_one (s_ret (tupd (a_cons (globS T.i_TWO) (a_cons (vv 1) (a_cons (vv 3) a_nil))))))
 s_nil)))))
 (s_one (s_ret (tupd (a_cons (globS T.i_ALL) (a_star (callF (ok_all_together T) hr (a_cons (vv 0) a_nil)) a_nil)))))))
theorem ok__law_do_clash (T : Txt K mg) : OkF P w K mg base [] "_law_do_clash" 5 ["one", "other", "here", "there"] f__law_do_clash := have S := sc__law_do_clash
 okF T.d__law_do_clash sc__law_do_clash rfl (fun _ _ _ _ _ _ us hl => match us, hl with | [_, _, _, _], _ => rfl) fun cdv A outer s H E hr =>
 (s_cons (s_for (fz := []) PassesOwn.never rfl (i_range1 (by rfl) T.n_range (a_cons (ix (vv 0) cint (fun _ _ => rfl)) a_nil)) (g_name (i := 4) S.nd (by rfl) (by first | exact Or.inl rfl | exact Or.inr rfl))
 (s_one (s_for (fz := []) PassesOwn.never rfl (i_range1 (by rfl) T.n_range (a_cons (ix (vv 1) cint (fun _ _ => rfl)) a_nil)) (g_name (i := 5) S.nd (by rfl) (by first | exact Or.inl rfl | exact Or.inr rfl))
 (s_one (s_if (t_cmp (op_eqM hr) (ix (callF (ok_solve T) hr (a_cons (tupd (a_cons (tupd (a_cons (ix (vv 0) cint (fun _ _ => rfl)) (a_cons (callTy c_int (by rfl) T.n_int bt_int (a_cons (bin op_addD (vv 2) (vv 4)) a_nil)) a_nil))) (a_cons (tupd (a_cons (ix (vv 1) cint (fun _ _ => rfl)) (a_cons (callTy c_int (by rfl) T.n_int bt_int (a_cons (bin op_addD (vv 3) (vv 5)) a_nil)) a_nil))) a_nil))) a_nil)) cint (fun _ _ => rfl)) cstr (nomark _))
 (s_one (s_ret cbl))
 s_nil)))))
 (s_one (s_ret cbl)))
theorem ok__law_has (T : Txt K mg) : OkF P w K mg base [] "_law_has" 1 ["lap", "arc", "time"] f__law_has := have S := sc__law_has
 okF T.d__law_has sc__law_has rfl (fun _ _ _ _ _ _ us hl => match us, hl with | [_, _, _], _ => rfl) fun cdv A outer s H E hr =>
 (s_cons (s_par2 (i := 3) (j := 4) (k1 := .f) (k2 := .f) rfl S.nd (by rfl) (by rfl) (by decide) (by rfl) (by rfl) (a_cons (ix (vv 1) cint (fun _ _ => rfl)) (a_cons (bin op_addD (ix (vv 1) cint (fun _ _ => rfl)) (ix (vv 1) cint (fun _ _ => rfl))) a_nil)) (by rfl))
 (s_one (s_ret (v_or (chain op_leD op_ltD (vv 3) (vv 2) (vv 4)) (v_one (chain op_leD op_ltD (vv 3) (bin op_addD (vv 2) (vv 0)) (vv 4)))))))
theorem ok__law_right (T : Txt K mg) : OkF P w K mg base [] "_law_right" 7 ["pot"] f__law_right := have S := sc__law_right
 okF T.d__law_right sc__law_right rfl (fun _ _ _ _ _ _ us hl => match us, hl with | [_], _ => rfl) fun cdv A outer s H E hr =>
 (s_cons (s_setL (i := 1) S.nd (by rfl) (by first | exact Or.inl rfl | exact Or.inr rfl) (lstd a_nil))
 (s_cons (s_for (fz := []) PassesOwn.never rfl (i_range1 (by rfl) T.n_range (a_cons (bin op_addD cint (callF (ok__law_take T) hr (a_cons (vv 0) (a_cons cint a_nil)))) a_nil)) (g_name (i := 2) S.nd (by rfl) (by first | exact Or.inl rfl | exact Or.inr rfl))
 (s_cons (s_set (i := 7) S.nd (by rfl) (by first | exact Or.inl rfl | exact Or.inr rfl) (callTy c_int (by rfl) T.n_int bt_int (a_cons (callF (ok__law_of T) hr (a_cons (vv 0) (a_cons (lstd (a_cons cint (a_cons cint (a_cons cint (a_cons cint (a_cons cint (a_cons cint a_nil))))))) a_nil))) a_nil)))
 (s_one (s_own mt_appendD PySem.F.slot_list_append PySem.F.type_list_append (i := 1) (by rfl) (by first | exact Or.inl rfl | exact Or.inr (Or.inl rfl) | exact Or.inr (Or.inr rfl)) (a_cons (tupd (a_cons (vv 7) (a_cons (callTy c_int (by rfl) T.n_int bt_int (a_cons (bin op_addD cint (callF (ok__law_take T) hr (a_cons (vv 0) (a_cons (callB (c_max hr rfl) (by rfl) T.n_max bt_max (a_cons cint (a_cons (bin op_fdivD (vv 7) cint) a_nil))) a_nil)))) a_nil)) a_nil))) a_nil)))))
 (s_cons (s_setL (i := 1) S.nd (by rfl) (by first | exact Or.inl rfl | exact Or.inr rfl) (callTy c_tuple (by rfl) T.n_tuple bt_tuple (a_cons (vv 1) a_nil)))
 (s_cons (s_set (i := 3) S.nd (by rfl) (by first | exact Or.inl rfl | exact Or.inr rfl) (callTy c_tuple (by rfl) T.n_tuple bt_tuple (a_cons (comp rfl S.nd (i_seq (vv 1)) (own := [("every", 7), ("long", 13)]) (blkOk_by (by kernel_rfl)) (by decide) (fun _ _ _ _ _ => (g_tup rfl (g_cons (g_name (i := 7) S.nd (by rfl) (by first | exact Or.inl rfl | exact Or.inr rfl)) (g_cons (g_name (i := 13) S.nd (by rfl) (by first | exact Or.inl rfl | exact Or.inr rfl)) g_nil)))) (fun _ _ _ _ _ => ts_nil) (fun _ _ _ _ _ => (callTy c_int (by rfl) T.n_int bt_int (a_cons (callF (ok__law_take T) hr (a_cons (vv 0) (a_cons (vv 7) a_nil))) a_nil)))) a_nil)))
 (s_cons (s_asg (tupd (a_cons (callF (ok__law_arcs_of T) hr (a_cons (vv 1) (a_cons (vv 3) a_nil))) (a_cons (callF (ok_clash T) hr (a_cons (vv 1) (a_cons (vv 3) a_nil))) a_nil))) (g_tup rfl (g_cons (g_name (i := 8) S.nd (by rfl) (by first | exact Or.inl rfl | exact Or.inr rfl)) (g_cons (g_name (i := 9) S.nd (by rfl) (by first | exact Or.inl rfl | exact Or.inr rfl)) g_nil))))
 (s_cons (s_if (t_cmp op_gtD (callB c_len (by rfl) T.n_len bt_len (a_cons (vv 8) a_nil)) cint (nomark _))
 (s_one (s_ret cbl))
 s_nil)
 (s_cons (s_if (t_cmp (op_neM hr) (cmp op_isND (vv 9) cnon (nomark _)) (cmp op_ltD (ix (callF (ok_load T) hr (a_cons cint (a_cons (vv 8) a_nil))) cint (fun _ _ => rfl)) cint (nomark _)) (nomark _))
 (s_one (s_ret cbl))
 s_nil)
 (s_cons (s_setL (i := 4) S.nd (by rfl) (by first | exact Or.inl rfl | exact Or.inr rfl) (lstd a_nil))
 (s_cons (s_for (fz := [1]) PassesOwn.never rfl (i_range1 (by rfl) T.n_range (a_cons (callB c_len (by rfl) T.n_len bt_len (a_cons (vv 1) a_nil)) a_nil)) (g_name (i := 5) S.nd (by rfl) (by first | exact Or.inl rfl | exact Or.inr rfl))
 (s_one (s_for (fz := [1]) PassesOwn.never rfl (i_range2 (by rfl) T.n_range (a_cons (bin op_addD (vv 5) cint) (a_cons (callB c_len (by rfl) T.n_len bt_len (a_cons (vv 1) a_nil)) a_nil))) (g_name (i := 10) S.nd (by rfl) (by first | exact Or.inl rfl | exact Or.inr rfl))
 (s_one (s_own mt_extendD PySem.F.slot_list_extend PySem.F.type_list_extend (i := 4) (by rfl) (by first | exact Or.inl rfl | exact Or.inr (Or.inl rfl) | exact Or.inr (Or.inr rfl)) (a_cons (ifx (t_truth (callF (ok__law_do_clash T) hr (a_cons (ix (vv 1) (vv 5) (fun _ _ => rfl)) (a_cons (ix (vv 1) (vv 10) (fun _ _ => rfl)) (a_cons (ix (vv 3) (vv 5) (fun _ _ => rfl)) (a_cons (ix (vv 3) (vv 10) (fun _ _ => rfl)) a_nil))))) (fun _ => rfl)) (lstd (a_cons (tupd (a_cons (vv 5) (a_cons (vv 10) a_nil))) a_nil)) (lstd a_nil)) a_nil))))))
 (s_cons (s_if (t_w (t_or (t_cmp (op_neM hr) (cmp op_isND (vv 9) cnon (nomark _)) (cmp (op_eqM hr) (vv 4) (lstd a_nil) (nomark _)) (nomark _)) (t_or1 (t_w (t_and (t_cmp op_notND (vv 9) cnon (nomark _)) (t_and1 (t_cmp (op_neM hr) (sl (vv 9) part0 (part1 cint)) (ix (vv 4) cint (fun _ _ => rfl)) (nomark _))))))))
 (s_one (s_ret cbl))
 s_nil)
 (s_cons (s_if (t_cmp op_notND (vv 9) cnon (nomark _))
 (s_cons (s_set (i := 11) S.nd (by rfl) (by first | exact Or.inl rfl | exact Or.inr rfl) (lstd (a_cons (ix (vv 1) (ix (vv 9) cint (fun _ _ => rfl)) (fun _ _ => rfl)) (a_cons (ix (vv 1) (ix (vv 9) cint (fun _ _ => rfl)) (fun _ _ => rfl)) a_nil))))
 (s_cons (s_set (i := 12) S.nd (by rfl) (by first | exact Or.inl rfl | exact Or.inr rfl) (callF (ok__law_arcs_of T) hr (a_cons (vv 11) (a_cons (lstd (a_cons (ix (vv 3) (ix (vv 9) cint (fun _ _ => rfl)) (fun _ _ => rfl)) (a_cons (ix (vv 3) (ix (vv 9) cint (fun _ _ => rfl)) (fun _ _ => rfl)) a_nil))) a_nil))))
 (s_one (s_if (t_cmp (op_neM hr) (callB c_len (by rfl) T.n_len bt_len (a_cons (comp rfl S.nd (i_seq (vv 12)) (own := [("arc", 14)]) (blkOk_by (by kernel_rfl)) (by decide) (fun _ _ _ _ _ => (g_name (i := 14) S.nd (by rfl) (by first | exact Or.inl rfl | exact Or.inr rfl))) (fun _ _ _ _ _ => (ts_one (t_truth (callF (ok__law_has T) hr (a_cons cint (a_cons (vv 14) (a_cons (bin op_modD (ix (vv 9) cint (fun _ _ => rfl)) cint) a_nil)))) (fun _ => rfl)))) (fun _ _ _ _ _ => (vv 14))) a_nil)) cint (nomark _))
 (s_one (s_ret cbl))
 s_nil))))
 s_nil)
 (s_cons (s_set (i := 6) S.nd (by rfl) (by first | exact Or.inl rfl | exact Or.inr rfl) (callF (ok_placing T) hr (a_cons (vv 1) a_nil)))
 (s_cons (s_if (t_cmp (op_eqM hr) (ix (vv 6) cint (fun _ _ => rfl)) cstr (nomark _))
 (s_one (s_ret (v_and (cmp op_isND (callF (ok_clash T) hr (a_cons (vv 1) (a_cons (ix (vv 6) cint (fun _ _ => rfl)) a_nil))) cnon (nomark _)) (v_one (cmp (op_eqM hr) (ix (callF (ok_load T) hr (a_cons cint (a_cons (callF (ok__law_arcs_of T) hr (a_cons (vv 1) (a_cons (ix (vv 6) cint (fun _ _ => rfl)) a_nil))) a_nil))) cint (fun _ _ => rfl)) cint (nomark _))))))
 s_nil)
 (s_cons (s_if (t_cmp (op_eqM hr) (callB c_len (by rfl) T.n_len bt_len (a_cons (vv 1) a_nil)) cint (nomark _))
 (s_one (s_ret (cmp op_ltD (callF (ok_room T) hr (a_cons (vv 1) (a_cons cint (a_cons cint a_nil)))) cint (nomark _))))
 s_nil)
 (s_one (s_ret (v_and (cmp op_leD (callB (c_max hr rfl) (by rfl) T.n_max bt_max (a_cons (callF (ok_frames T) hr (a_cons (vv 1) a_nil)) a_nil)) cint (nomark _)) (v_one (cmp op_gtD (callB c_len (by rfl) T.n_len bt_len (a_cons (vv 1) a_nil)) cint (nomark _))))))))))))))))))))
theorem ok_law (T : Txt K mg) : OkF P w K mg base [] "law" 8 ["script"] f_law := have S := sc_law
 okF T.d_law sc_law rfl (fun _ _ _ _ _ _ us hl => match us, hl with | [_], _ => rfl) fun cdv A outer s H E hr =>
 (s_cons (s_for (fz := []) PassesOwn.never rfl (i_seq (callF (ok__law_cells T) hr (a_cons (vv 0) (a_cons cint a_nil)))) (g_name (i := 1) S.nd (by rfl) (by first | exact Or.inl rfl | exact Or.inr rfl))
 (s_cons (s_setI (i := 2) S.nd (by rfl) (by first | exact Or.inl rfl | exact Or.inr rfl) (callF (ok__law_pot T) hr (a_cons (vv 0) (a_cons (vv 1) a_nil))))
 (s_one (s_if (t_not (t_truth (callB (c_all rfl) (by rfl) T.n_all bt_all (a_cons (comp rfl S.nd (i_range1 (by rfl) T.n_range (a_cons cint a_nil)) (own := [("lap", 3)]) (blkOk_by (by kernel_rfl)) (by decide) (fun _ _ _ _ _ => (g_name (i := 3) S.nd (by rfl) (by first | exact Or.inl rfl | exact Or.inr rfl))) (fun _ _ _ _ _ => ts_nil) (fun _ _ _ _ _ => (callF (ok__law_right T) hr (a_cons (vv 2) a_nil)))) a_nil)) (fun _ => rfl)))
 (s_one (s_ret cbl))
 s_nil))))
 (s_one (s_ret cbl)))
end
def fn : List He.DefD := [⟨("_law_cells", none), "_law_cells", "_law_cells", defArgs s__law_cells, defBody s__law_cells, defScope s__law_cells, [], []⟩, ⟨("_law_pot", none), "_law_pot", "_law_pot", defArgs s__law_pot, defBody s__law_pot, defScope s__law_pot, [], []⟩, ⟨("is_integer", none), "is_integer", "is_integer", defArgs s_is_integer, defBody s_is_integer, defScope s_is_integer, [], []⟩, ⟨("is_between", none), "is_between", "is_between", defArgs s_is_between, defBody s_is_between, defScope s_is_between, [], []⟩, ⟨("is_piece", none), "is_piece", "is_piece", defArgs s_is_piece, defBody s_is_piece, defScope s_is_piece, [], []⟩, ⟨("check_pieces", none), "check_pieces", "check_pieces", defArgs s_check_pieces, defBody s_check_pieces, defScope s_check_pieces, [], []⟩, ⟨("common", none), "common", "common", defArgs s_common, defBody s_common, defScope s_common, [], []⟩, ⟨("least_with", none), "least_with", "least_with", defArgs s_least_with, defBody s_least_with, defScope s_least_with, [], []⟩, ⟨("frames_of", none), "frames_of", "frames_of", defArgs s_frames_of, defBody s_frames_of, defScope s_frames_of, [], []⟩, ⟨("check_tried", none), "check_tried", "check_tried", defArgs s_check_tried, defBody s_check_tried, defScope s_check_tried, [], []⟩, ⟨("do_clash", none), "do_clash", "do_clash", defArgs s_do_clash, defBody s_do_clash, defScope s_do_clash, [], []⟩, ⟨("clashing", none), "clashing", "clashing", defArgs s_clashing, defBody s_clashing, defScope s_clashing, [], []⟩, ⟨("placing", none), "placing", "placing", defArgs s_placing, defBody s_placing, defScope s_placing, [], []⟩, ⟨("_law_arcs_of", none), "_law_arcs_of", "_law_arcs_of", defArgs s__law_arcs_of, defBody s__law_arcs_of, defScope s__law_arcs_of, [], []⟩, ⟨("are_starts", none), "are_starts", "are_starts", defArgs s_are_starts, defBody s_are_starts, defScope s_are_starts, [], []⟩, ⟨("is_at_work", none), "is_at_work", "is_at_work", defArgs s_is_at_work, defBody s_is_at_work, defScope s_is_at_work, [], []⟩, ⟨("first_minute", none), "first_minute", "first_minute", defArgs s_first_minute, defBody s_first_minute, defScope s_first_minute, [], []⟩, ⟨("clash", none), "clash", "clash", defArgs s_clash, defBody s_clash, defScope s_clash, [], []⟩, ⟨("_law_take", none), "_law_take", "_law_take", defArgs s__law_take, defBody s__law_take, defScope s__law_take, [], []⟩, ⟨("_law_of", none), "_law_of", "_law_of", defArgs s__law_of, defBody s__law_of, defScope s__law_of, [], []⟩, ⟨("room", none), "room", "room", defArgs s_room, defBody s_room, defScope s_room, [], []⟩, ⟨("check_lap", none), "check_lap", "check_lap", defArgs s_check_lap, defBody s_check_lap, defScope s_check_lap, [], []⟩, ⟨("are_arcs", none), "are_arcs", "are_arcs", defArgs s_are_arcs, defBody s_are_arcs, defScope s_are_arcs, [], []⟩, ⟨("check_arcs", none), "check_arcs", "check_arcs", defArgs s_check_arcs, defBody s_check_arcs, defScope s_check_arcs, [], []⟩, ⟨("has_time", none), "has_time", "has_time", defArgs s_has_time, defBody s_has_time, defScope s_has_time, [], []⟩, ⟨("told_load", none), "told_load", "told_load", defArgs s_told_load, defBody s_told_load, defScope s_told_load, [], []⟩, ⟨("load", none), "load", "load", defArgs s_load, defBody s_load, defScope s_load, [], []⟩, ⟨("frames", none), "frames", "frames", defArgs s_frames, defBody s_frames, defScope s_frames, [], []⟩, ⟨("are_rests", none), "are_rests", "are_rests", defArgs s_are_rests, defBody s_are_rests, defScope s_are_rests, [], []⟩, ⟨("inverse", none), "inverse", "inverse", defArgs s_inverse, defBody s_inverse, defScope s_inverse, [], []⟩, ⟨("put_together", none), "put_together", "put_together", defArgs s_put_together, defBody s_put_together, defScope s_put_together, [], []⟩, ⟨("all_together", none), "all_together", "all_together", defArgs s_all_together, defBody s_all_together, defScope s_all_together, [], []⟩, ⟨("solve", none), "solve", "solve", defArgs s_solve, defBody s_solve, defScope s_solve, [], []⟩, ⟨("_law_do_clash", none), "_law_do_clash", "_law_do_clash", defArgs s__law_do_clash, defBody s__law_do_clash, defScope s__law_do_clash, [], []⟩, ⟨("_law_has", none), "_law_has", "_law_has", defArgs s__law_has, defBody s__law_has, defScope s__law_has, [], []⟩, ⟨("_law_right", none), "_law_right", "_law_right", defArgs s__law_right, defBody s__law_right, defScope s__law_right, [], []⟩, ⟨("law", none), "law", "law", defArgs s_law, defBody s_law, defScope s_law, [], []⟩]
def fa : List He.Fa := [.glo "_law_cells", .glo "_law_pot", .glo "is_integer", .glo "is_between", .glo "is_piece", .glo "check_pieces", .glo "common", .glo "least_with", .glo "frames_of", .glo "check_tried", .glo "do_clash", .glo "clashing", .glo "placing", .glo "_law_arcs_of", .glo "are_starts", .glo "is_at_work", .glo "first_minute", .glo "clash", .glo "_law_take", .glo "_law_of", .glo "room", .glo "check_lap", .glo "are_arcs", .glo "check_arcs", .glo "has_time", .glo "told_load", .glo "load", .glo "frames", .glo "are_rests", .glo "inverse", .glo "put_together", .glo "all_together", .glo "solve", .glo "_law_do_clash", .glo "_law_has", .glo "_law_right", .glo "law", .free "len", .free "min", .free "max", .free "list", .free "range", .free "abs", .free "int", .free "isinstance", .free "bool", .free "tuple", .free "all", .free "enumerate", .free "zip", .free "sorted", .free "set", .int "MOST_EVERY" 1440, .int "MOST_PIECES" 5, .int "MOST_TRIED" 20000, .str "STARTS" "starts", .str "CASES" "cases", .int "MOST_LAP" 99999, .int "MOST_SPELLS" 40, .int "MOST_RESTS" 6, .int "MOST_ROUND" 999999, .int "MOST_NUMBER" 999999999, .str "TWO" "two", .str "ALL" "all"]
theorem txt {K : PySem.W.Frag} {h : Heap} {mg : Str → Option Value} (X : K.In h) (G : h.Ns mainGlobals mg) (c : He.SaysD fa fn K) : Txt K mg :=
 ⟨⟨c.def_ 0 rfl, He.glo_ok X G (c.fact 0 (f := .glo "_law_cells") rfl)⟩,
  ⟨c.def_ 1 rfl, He.glo_ok X G (c.fact 1 (f := .glo "_law_pot") rfl)⟩,
  ⟨c.def_ 2 rfl, He.glo_ok X G (c.fact 2 (f := .glo "is_integer") rfl)⟩,
  ⟨c.def_ 3 rfl, He.glo_ok X G (c.fact 3 (f := .glo "is_between") rfl)⟩,
  ⟨c.def_ 4 rfl, He.glo_ok X G (c.fact 4 (f := .glo "is_piece") rfl)⟩,
  ⟨c.def_ 5 rfl, He.glo_ok X G (c.fact 5 (f := .glo "check_pieces") rfl)⟩,
  ⟨c.def_ 6 rfl, He.glo_ok X G (c.fact 6 (f := .glo "common") rfl)⟩,
  ⟨c.def_ 7 rfl, He.glo_ok X G (c.fact 7 (f := .glo "least_with") rfl)⟩,
  ⟨c.def_ 8 rfl, He.glo_ok X G (c.fact 8 (f := .glo "frames_of") rfl)⟩,
  ⟨c.def_ 9 rfl, He.glo_ok X G (c.fact 9 (f := .glo "check_tried") rfl)⟩,
  ⟨c.def_ 10 rfl, He.glo_ok X G (c.fact 10 (f := .glo "do_clash") rfl)⟩,
  ⟨c.def_ 11 rfl, He.glo_ok X G (c.fact 11 (f := .glo "clashing") rfl)⟩,
  ⟨c.def_ 12 rfl, He.glo_ok X G (c.fact 12 (f := .glo "placing") rfl)⟩,
  ⟨c.def_ 13 rfl, He.glo_ok X G (c.fact 13 (f := .glo "_law_arcs_of") rfl)⟩,
  ⟨c.def_ 14 rfl, He.glo_ok X G (c.fact 14 (f := .glo "are_starts") rfl)⟩,
  ⟨c.def_ 15 rfl, He.glo_ok X G (c.fact 15 (f := .glo "is_at_work") rfl)⟩,
  ⟨c.def_ 16 rfl, He.glo_ok X G (c.fact 16 (f := .glo "first_minute") rfl)⟩,
  ⟨c.def_ 17 rfl, He.glo_ok X G (c.fact 17 (f := .glo "clash") rfl)⟩,
  ⟨c.def_ 18 rfl, He.glo_ok X G (c.fact 18 (f := .glo "_law_take") rfl)⟩,
  ⟨c.def_ 19 rfl, He.glo_ok X G (c.fact 19 (f := .glo "_law_of") rfl)⟩,
  ⟨c.def_ 20 rfl, He.glo_ok X G (c.fact 20 (f := .glo "room") rfl)⟩,
  ⟨c.def_ 21 rfl, He.glo_ok X G (c.fact 21 (f := .glo "check_lap") rfl)⟩,
  ⟨c.def_ 22 rfl, He.glo_ok X G (c.fact 22 (f := .glo "are_arcs") rfl)⟩,
  ⟨c.def_ 23 rfl, He.glo_ok X G (c.fact 23 (f := .glo "check_arcs") rfl)⟩,
  ⟨c.def_ 24 rfl, He.glo_ok X G (c.fact 24 (f := .glo "has_time") rfl)⟩,
  ⟨c.def_ 25 rfl, He.glo_ok X G (c.fact 25 (f := .glo "told_load") rfl)⟩,
  ⟨c.def_ 26 rfl, He.glo_ok X G (c.fact 26 (f := .glo "load") rfl)⟩,
  ⟨c.def_ 27 rfl, He.glo_ok X G (c.fact 27 (f := .glo "frames") rfl)⟩,
  ⟨c.def_ 28 rfl, He.glo_ok X G (c.fact 28 (f := .glo "are_rests") rfl)⟩,
  ⟨c.def_ 29 rfl, He.glo_ok X G (c.fact 29 (f := .glo "inverse") rfl)⟩,
  ⟨c.def_ 30 rfl, He.glo_ok X G (c.fact 30 (f := .glo "put_together") rfl)⟩,
  ⟨c.def_ 31 rfl, He.glo_ok X G (c.fact 31 (f := .glo "all_together") rfl)⟩,
  ⟨c.def_ 32 rfl, He.glo_ok X G (c.fact 32 (f := .glo "solve") rfl)⟩,
  ⟨c.def_ 33 rfl, He.glo_ok X G (c.fact 33 (f := .glo "_law_do_clash") rfl)⟩,
  ⟨c.def_ 34 rfl, He.glo_ok X G (c.fact 34 (f := .glo "_law_has") rfl)⟩,
  ⟨c.def_ 35 rfl, He.glo_ok X G (c.fact 35 (f := .glo "_law_right") rfl)⟩,
  ⟨c.def_ 36 rfl, He.glo_ok X G (c.fact 36 (f := .glo "law") rfl)⟩,
  He.free_ok X G (c.fact 37 (f := .free "len") rfl),
  He.free_ok X G (c.fact 38 (f := .free "min") rfl),
  He.free_ok X G (c.fact 39 (f := .free "max") rfl),
  He.free_ok X G (c.fact 40 (f := .free "list") rfl),
  He.free_ok X G (c.fact 41 (f := .free "range") rfl),
  He.free_ok X G (c.fact 42 (f := .free "abs") rfl),
  He.free_ok X G (c.fact 43 (f := .free "int") rfl),
  He.free_ok X G (c.fact 44 (f := .free "isinstance") rfl),
  He.free_ok X G (c.fact 45 (f := .free "bool") rfl),
  He.free_ok X G (c.fact 46 (f := .free "tuple") rfl),
  He.free_ok X G (c.fact 47 (f := .free "all") rfl),
  He.free_ok X G (c.fact 48 (f := .free "enumerate") rfl),
  He.free_ok X G (c.fact 49 (f := .free "zip") rfl),
  He.free_ok X G (c.fact 50 (f := .free "sorted") rfl),
  He.free_ok X G (c.fact 51 (f := .free "set") rfl),
  He.int_ok X G (c.fact 52 (f := .int "MOST_EVERY" 1440) rfl),
  He.int_ok X G (c.fact 53 (f := .int "MOST_PIECES" 5) rfl),
  He.int_ok X G (c.fact 54 (f := .int "MOST_TRIED" 20000) rfl),
  He.str_ok X G (c.fact 55 (f := .str "STARTS" "starts") rfl),
  He.str_ok X G (c.fact 56 (f := .str "CASES" "cases") rfl),
  He.int_ok X G (c.fact 57 (f := .int "MOST_LAP" 99999) rfl),
  He.int_ok X G (c.fact 58 (f := .int "MOST_SPELLS" 40) rfl),
  He.int_ok X G (c.fact 59 (f := .int "MOST_RESTS" 6) rfl),
  He.int_ok X G (c.fact 60 (f := .int "MOST_ROUND" 999999) rfl),
  He.int_ok X G (c.fact 61 (f := .int "MOST_NUMBER" 999999999) rfl),
  He.str_ok X G (c.fact 62 (f := .str "TWO" "two") rfl),
  He.str_ok X G (c.fact 63 (f := .str "ALL" "all") rfl)⟩
end K80
/-! Mi: how computations run: rules for simp, no lambda in any right side. -/
namespace Mi
open PySem hiding Env
open PySem.Spec PyProof.Rows
abbrev Rs (α : Type) := Option (α × Sto)
def bo {α β : Type} (o : Rs α) (f : α → Sto → Rs β) : Rs β := match o with
  | some (a, s) => f a s
  | none => none
section
variable {α β : Type} {a : α} {s st : Sto} {f : α → Sto → Rs β}
@[simp] theorem bo_some : bo (some (a, s)) f = f a s := Eq.trans (b := f a s) rfl rfl
@[simp] theorem bo_none : bo (none : Rs α) f = none := Eq.trans rfl rfl
theorem bind_bo (m : M α) (f : α → M β) (s : Sto) : (m >>= f) s = bo (m s) f := by
  show (match m s with | some (a, s') => f a s' | none => none) = _
  cases m s <;> rfl
@[simp] theorem pure_ap : (Pure.pure a : M α) s = some (a, s) := Eq.trans rfl rfl
@[simp] theorem fail_ap : (M.fail : M α) s = none := Eq.trans rfl rfl
@[simp] theorem ofO_some : M.ofO (some a) s = some (a, s) := Eq.trans rfl rfl
@[simp] theorem ofO_none : (M.ofO none : M α) s = none := Eq.trans rfl rfl
@[simp] theorem ite_ap {c : Bool} : M.ite c a s = if c = true then some (a, s) else none := by unfold M.ite; split <;> rfl
end
/-- a plain value is handed on -/
def kD (f : D → Sto → Rs R) : R → Sto → Rs R
  | .v d, s => f d s
  | _, _ => none
section
variable {env e : Env} {st s : Sto} {i n : Nat} {r x y : R} {d : D} {g : R → M R} {g2 g3 : R → R → M R} {ma mb mc : Env → M R} {ms : Env → M (List R)} {t u : Env → M Bool}
@[simp] theorem rdSlot_v : rdSlot (.v d) = .v d := Eq.trans rfl rfl
@[simp] theorem rdSlot_l {o : O} : rdSlot (.l o) = .o o := Eq.trans rfl rfl
@[simp] theorem rdSlot_b {o : O} : rdSlot (.b o) = .b o := Eq.trans rfl rfl
@[simp] theorem toO_v : toO (.v d) = .v d := Eq.trans rfl rfl
@[simp] theorem toO_l {o : O} : toO (.l o) = .l o := Eq.trans rfl rfl
@[simp] theorem toO_o {o : O} : toO (.o o) = .o o := Eq.trans rfl rfl
@[simp] theorem toO_b {o : O} : toO (.b o) = .o o := Eq.trans rfl rfl
@[simp] theorem lend_v : lend (.v d) = .v d := Eq.trans rfl rfl
@[simp] theorem lend_l {o : O} : lend (.l o) = .b o := Eq.trans rfl rfl
@[simp] theorem lend_o {o : O} : lend (.o o) = .b o := Eq.trans rfl rfl
@[simp] theorem lend_b {o : O} : lend (.b o) = .b o := Eq.trans rfl rfl
def vSl : Option (Option R) → Sto → Rs R
  | some (some r), s => some (rdSlot r, s)
  | _, _ => none
@[simp] theorem vSl_s : vSl (some (some r)) s = some (rdSlot r, s) := Eq.trans rfl rfl
@[simp] theorem eVar_ap : eVar i env st = vSl env[i]? st := by
  unfold eVar vSl
  cases env[i]? with
  | none => rfl
  | some o => cases o <;> rfl
@[simp] theorem eC_ap : eC d env st = some (.v d, st) := Eq.trans rfl rfl
@[simp] theorem eU_ap : eU g ma env st = bo (ma env st) g := bind_bo _ _ _
def eOp1 (g : R → R → M R) (mb : Env → M R) (env : Env) (a : R) (s : Sto) : Rs R := bo (mb env s) (g a)
@[simp] theorem eOp_ap : eOp g2 ma mb env st = bo (ma env st) (eOp1 g2 mb env) := bind_bo _ _ _
@[simp] theorem eOp1_ap : eOp1 g2 mb env x s = bo (mb env s) (g2 x) := Eq.trans rfl rfl
/-- two ways by a truth value -/
def two {α : Type} (a b : Env → M α) (env : Env) : Bool → Sto → Rs α
  | true, s => a env s
  | false, s => b env s
@[simp] theorem two_t {α : Type} {a b : Env → M α} : two a b env true s = a env s := Eq.trans rfl rfl
@[simp] theorem two_f {α : Type} {a b : Env → M α} : two a b env false s = b env s := Eq.trans rfl rfl
theorem two_eq {α : Type} (a b : Env → M α) (env : Env) : (fun c => if c = true then a env else b env) = two a b env := by
  funext c s
  cases c <;> rfl
@[simp] theorem eIf_ap : eIf t ma mb env st = bo (t env st) (two ma mb env) := by
  rw [← two_eq]
  exact bind_bo _ _ _
@[simp] theorem isBl_ap {b : Bool} : isBl (.v (.bl b)) s = some (b, s) := Eq.trans rfl rfl
@[simp] theorem tBl_ap : tBl ma env st = bo (ma env st) isBl := bind_bo _ _ _
@[simp] theorem tTr_ap : tTr ma env st = bo (ma env st) truR := bind_bo _ _ _
@[simp] theorem truR_non : truR (.v .non) s = some (false, s) := Eq.trans rfl rfl
@[simp] theorem truR_bl {b : Bool} : truR (.v (.bl b)) s = some (b, s) := Eq.trans rfl rfl
@[simp] theorem truR_int {k : Int} : truR (.v (.int k)) s = some (k != 0, s) := Eq.trans rfl rfl
@[simp] theorem truR_tup {ds : List D} : truR (.v (.tup ds)) s = some (!ds.isEmpty, s) := Eq.trans rfl rfl
@[simp] theorem truR_l {ds : List D} : truR (.l (.lst ds)) s = some (!ds.isEmpty, s) := Eq.trans rfl rfl
@[simp] theorem truR_o {ds : List D} : truR (.o (.lst ds)) s = some (!ds.isEmpty, s) := Eq.trans rfl rfl
@[simp] theorem truR_b {ds : List D} : truR (.b (.lst ds)) s = some (!ds.isEmpty, s) := Eq.trans rfl rfl
@[simp] theorem tAnd2_ap : tAnd2 t u env st = bo (t env st) (two u (fun _ => pure false) env) := by
  rw [← two_eq]
  exact bind_bo _ _ _
@[simp] theorem tOr2_ap : tOr2 t u env st = bo (t env st) (two (fun _ => pure true) u env) := by
  rw [← two_eq]
  exact bind_bo _ _ _
def neg1 (c : Bool) (s : Sto) : Rs Bool := some (!c, s)
@[simp] theorem neg1_ap {c : Bool} : neg1 c s = some (!c, s) := Eq.trans rfl rfl
@[simp] theorem tNot1_ap : tNot1 t env st = bo (t env st) neg1 := bind_bo _ _ _
@[simp] theorem tTrue_ap : tTrue env st = some (true, st) := Eq.trans rfl rfl
def eChain3 (g' : R → R → M R) (mc : Env → M R) (env : Env) (y : R) : Bool → Sto → Rs R
  | true, s => bo (mc env s) (g' y)
  | false, s => some (.v (.bl false), s)
@[simp] theorem eChain3_t : eChain3 g3 mc env y true s = bo (mc env s) (g3 y) := Eq.trans rfl rfl
@[simp] theorem eChain3_f : eChain3 g3 mc env y false s = some (.v (.bl false), s) := Eq.trans rfl rfl
def eChain2 (g g' : R → R → M R) (mc : Env → M R) (env : Env) (x y : R) (s : Sto) : Rs R := bo (bo (g x y s) isBl) (eChain3 g' mc env y)
@[simp] theorem eChain2_ap : eChain2 g2 g3 mc env x y s = bo (bo (g2 x y s) isBl) (eChain3 g3 mc env y) := Eq.trans rfl rfl
def eChain1 (g g' : R → R → M R) (mb mc : Env → M R) (env : Env) (x : R) (s : Sto) : Rs R := bo (mb env s) (eChain2 g g' mc env x)
@[simp] theorem eChain1_ap : eChain1 g2 g3 mb mc env x s = bo (mb env s) (eChain2 g2 g3 mc env x) := Eq.trans rfl rfl
theorem bo_as {α β γ : Type} (o : Rs α) (f : α → Sto → Rs β) (h : β → Sto → Rs γ) : bo o (fun a s => bo (f a s) h) = bo (bo o f) h := by
  cases o <;> rfl
@[simp] theorem eChain_ap : eChain g2 g3 ma mb mc env st = bo (ma env st) (eChain1 g2 g3 mb mc env) := by
  unfold eChain
  rw [bind_bo]
  congr 1
  funext x s1
  rw [bind_bo]
  unfold eChain1
  congr 1
  funext y s2
  rw [bind_bo]
  unfold eChain2
  rw [← bo_as]
  congr 1
  funext z s3
  rw [bind_bo]
  congr 1
  funext c s4
  cases c
  · rfl
  · exact bind_bo _ _ _
@[simp] theorem eAnd_ap : eAnd ma mb env st = bo (bo (ma env st) isBl) (two mb (fun _ => pure (.v (.bl false))) env) := by
  unfold eAnd
  rw [bind_bo, ← bo_as]
  congr 1
  funext z s3
  rw [bind_bo, ← two_eq]
@[simp] theorem eOr_ap : eOr ma mb env st = bo (bo (ma env st) isBl) (two (fun _ => pure (.v (.bl true))) mb env) := by
  unfold eOr
  rw [bind_bo, ← bo_as]
  congr 1
  funext z s3
  rw [bind_bo, ← two_eq]
def not1 (c : Bool) (s : Sto) : Rs R := some (.v (.bl (!c)), s)
@[simp] theorem not1_ap {c : Bool} : not1 c s = some (.v (.bl (!c)), s) := Eq.trans rfl rfl
@[simp] theorem eNot_ap : eNot ma env st = bo (bo (ma env st) isBl) not1 := by
  unfold eNot
  rw [bind_bo, ← bo_as]
  congr 1
/-! arguments -/
@[simp] theorem aNil_ap : aNil env st = some ([], st) := Eq.trans rfl rfl
def aCons2 (x : R) (xs : List R) (s : Sto) : Rs (List R) := some (x :: xs, s)
@[simp] theorem aCons2_ap {xs : List R} : aCons2 x xs s = some (x :: xs, s) := Eq.trans rfl rfl
def aCons1 (r : Env → M (List R)) (env : Env) (x : R) (s : Sto) : Rs (List R) := bo (r env s) (aCons2 x)
@[simp] theorem aCons1_ap : aCons1 ms env x s = bo (ms env s) (aCons2 x) := Eq.trans rfl rfl
@[simp] theorem aCons_ap : aCons ma ms env st = bo (ma env st) (aCons1 ms env) := by
  unfold aCons
  rw [bind_bo]
  congr 1
def aStar2 (ds : List D) (xs : List R) (s : Sto) : Rs (List R) := some (ds.map .v ++ xs, s)
@[simp] theorem aStar2_ap {xs : List R} {ds : List D} : aStar2 ds xs s = some (ds.map .v ++ xs, s) := Eq.trans rfl rfl
def aStar1 (r : Env → M (List R)) (env : Env) (ds : List D) (s : Sto) : Rs (List R) := bo (r env s) (aStar2 ds)
@[simp] theorem aStar1_ap {ds : List D} : aStar1 ms env ds s = bo (ms env s) (aStar2 ds) := Eq.trans rfl rfl
@[simp] theorem aStar_ap : aStar ma ms env st = bo (bo (ma env st) asSeq) (aStar1 ms env) := by
  unfold aStar
  rw [bind_bo, ← bo_as]
  congr 1
@[simp] theorem toD_v : toD (.v d) s = some (d, s) := Eq.trans rfl rfl
@[simp] theorem toDs_nil : toDs [] s = some ([], s) := Eq.trans rfl rfl
@[simp] theorem toDs_cons {rs : List R} : toDs (.v d :: rs) s = bo (toDs rs s) fun ds s => some (d :: ds, s) := by
  show (toD (.v d) >>= fun d => toDs rs >>= fun ds => pure (d :: ds)) s = _
  rw [bind_bo, toD_v, bo_some, bind_bo]
  rfl
@[simp] theorem toDs_map : ∀ {ds : List D} {s : Sto}, toDs (ds.map .v) s = some (ds, s)
  | [], _ => rfl
  | d :: ds, s => by rw [List.map_cons, toDs_cons, toDs_map]; rfl
@[simp] theorem toDs_app : ∀ {ds : List D} {rs : List R} {s : Sto}, toDs (ds.map .v ++ rs) s = bo (toDs rs s) fun es s => some (ds ++ es, s)
  | [], rs, s => by
    show toDs rs s = _
    cases toDs rs s <;> rfl
  | d :: ds, rs, s => by
    rw [List.map_cons, List.cons_append, toDs_cons, toDs_app]
    cases toDs rs s <;> rfl
def mkTup (ds : List D) (s : Sto) : Rs R := if lenOk ds.length = true then some (.v (.tup ds), s) else none
def mkLst (ds : List D) (s : Sto) : Rs R := if lenOk ds.length = true then some (.l (.lst ds), s) else none
@[simp] theorem mkTup_ap {ds : List D} (h : ds.length ≤ 16777216) : mkTup ds s = some (.v (.tup ds), s) := if_pos (decide_eq_true h)
@[simp] theorem mkLst_ap {ds : List D} (h : ds.length ≤ 16777216) : mkLst ds s = some (.l (.lst ds), s) := if_pos (decide_eq_true h)
@[simp] theorem eTup_ap : eTup ms env st = bo (bo (ms env st) toDs) mkTup := by
  unfold eTup
  rw [bind_bo, ← bo_as]
  congr 1
  funext x s1
  rw [bind_bo]
  congr 1
  funext ds s2
  unfold mkTup
  split <;> rfl
@[simp] theorem eLst_ap : eLst ms env st = bo (bo (ms env st) toDs) mkLst := by
  unfold eLst
  rw [bind_bo, ← bo_as]
  congr 1
  funext x s1
  rw [bind_bo]
  congr 1
  funext ds s2
  unfold mkLst
  split <;> rfl
@[simp] theorem eB_ap {g : List R → M R} : eB g ms env st = bo (ms env st) g := bind_bo _ _ _
def lastO (r : R) (s : Sto) : Rs R := some (toO r, s)
@[simp] theorem lastO_ap : lastO r s = some (toO r, s) := Eq.trans rfl rfl
def callK (np : Nat) (m : List R → M R) (rs : List R) (s : Sto) : Rs R := if rs.length = np then bo (m (rs.map lend) s) lastO else none
@[simp] theorem callK_ap {m : List R → M R} {rs : List R} (h : rs.length = n) : callK n m rs s = bo (m (rs.map lend) s) lastO := if_pos h
@[simp] theorem eCall_ap {m : List R → M R} : eCall n m ms env st = bo (ms env st) (callK n m) := by
  unfold eCall
  rw [bind_bo]
  congr 1
  funext rs s1
  unfold callK
  split
  · rw [bind_bo]
    rfl
  · rfl
/-! slices -/
@[simp] theorem ePart_n : ePart none env st = some (none, st) := Eq.trans rfl rfl
def parK : R → Sto → Rs (Option Int)
  | .v (.int i), s => some (some i, s)
  | _, _ => none
@[simp] theorem parK_ap {i : Int} : parK (.v (.int i)) s = some (some i, s) := Eq.trans rfl rfl
@[simp] theorem ePart_s : ePart (some ma) env st = bo (ma env st) parK := by
  show (ma env >>= fun r => match r with | .v (.int i) => pure (some i) | _ => M.fail) st = _
  rw [bind_bo]
  congr 1
  funext r s1
  cases r with
  | v d => cases d <;> rfl
  | _ => rfl
def eSl2 (a : R) (l : Option Int) (h : Option Int) (s : Sto) : Rs R := gSl a l h s
@[simp] theorem eSl2_ap {l h : Option Int} : eSl2 x l h s = gSl x l h s := Eq.trans rfl rfl
def eSl1 (mh : Env → M (Option Int)) (env : Env) (a : R) (l : Option Int) (s : Sto) : Rs R := bo (mh env s) (eSl2 a l)
@[simp] theorem eSl1_ap {mh : Env → M (Option Int)} {l : Option Int} : eSl1 mh env x l s = bo (mh env s) (eSl2 x l) := Eq.trans rfl rfl
def eSl0 (ml mh : Env → M (Option Int)) (env : Env) (a : R) (s : Sto) : Rs R := bo (ml env s) (eSl1 mh env a)
@[simp] theorem eSl0_ap {ml mh : Env → M (Option Int)} : eSl0 ml mh env x s = bo (ml env s) (eSl1 mh env x) := Eq.trans rfl rfl
@[simp] theorem eSl_ap {ml mh : Env → M (Option Int)} : eSl ma ml mh env st = bo (ma env st) (eSl0 ml mh env) := by
  unfold eSl
  rw [bind_bo]
  congr 1
/-! list(range(..)) -/
def lrK : R → Sto → Rs R
  | .v (.int n), s => eLR 0 n s
  | _, _ => none
@[simp] theorem lrK_ap {k : Int} : lrK (.v (.int k)) s = eLR 0 k s := Eq.trans rfl rfl
@[simp] theorem eLR1_ap : eLR1 ma env st = bo (ma env st) lrK := by
  unfold eLR1
  rw [bind_bo]
  congr 1
  funext r s1
  cases r with
  | v d => cases d <;> rfl
  | _ => rfl
@[simp] theorem eLR_ap {i j : Int} (h : rgIn i j = true) : eLR i j s = some (.l (.lst (rgD i j)), s) := by
  unfold eLR
  rw [if_pos h]
  rfl
end

/-! ### operators -/
section
variable {i j : Int} {s : Sto} {a b r : R} {d : D}
@[simp] theorem gAdd_ap : gAdd (.v (.int i)) (.v (.int j)) s = some (.v (.int (i + j)), s) := Eq.trans rfl rfl
@[simp] theorem gAdd_ll {xs ys : List D} (h : xs.length + ys.length ≤ 16777216) : gAdd (.l (.lst xs)) (.l (.lst ys)) s = some (.l (.lst (xs ++ ys)), s) := by
  simp [gAdd, asLst, bind_bo, lenOk, h]
@[simp] theorem gSub_ap : gSub (.v (.int i)) (.v (.int j)) s = some (.v (.int (i - j)), s) := Eq.trans rfl rfl
theorem gMul_ap (h : cMul i j = true) : gMul (.v (.int i)) (.v (.int j)) s = some (.v (.int (i * j)), s) := by
  simp [gMul, h, iv]
@[simp] theorem gMul_r (h1 : -18446744073709551616 < j) (h2 : j < 18446744073709551616) : gMul (.v (.int i)) (.v (.int j)) s = some (.v (.int (i * j)), s) := gMul_ap (by simp [cMul]; omega)
@[simp] theorem gMul_l (h1 : -18446744073709551616 < i) (h2 : i < 18446744073709551616) : gMul (.v (.int i)) (.v (.int j)) s = some (.v (.int (i * j)), s) := gMul_ap (by simp [cMul]; omega)
@[simp] theorem gMod_ap (h : j ≠ 0) : gMod (.v (.int i)) (.v (.int j)) s = some (.v (.int (i.fmod j)), s) := by
  simp [gMod, gI, h]
@[simp] theorem gFdiv_ap (h : j ≠ 0) (h1 : -1073741824 < j) (h2 : j < 1073741824) : gFdiv (.v (.int i)) (.v (.int j)) s = some (.v (.int (i.fdiv j)), s) := by
  have h3 : j.natAbs < 1073741824 := by omega
  simp [gFdiv, gI, h, h3]
@[simp] theorem gLt_ap : gLt (.v (.int i)) (.v (.int j)) s = some (.v (.bl (decide (i < j))), s) := Eq.trans rfl rfl
@[simp] theorem gLe_ap : gLe (.v (.int i)) (.v (.int j)) s = some (.v (.bl (decide (i ≤ j))), s) := Eq.trans rfl rfl
@[simp] theorem gGt_ap : gGt (.v (.int i)) (.v (.int j)) s = some (.v (.bl (decide (j < i))), s) := Eq.trans rfl rfl
@[simp] theorem gGe_ap : gGe (.v (.int i)) (.v (.int j)) s = some (.v (.bl (decide (j ≤ i))), s) := Eq.trans rfl rfl
@[simp] theorem gNeg_ap : gNeg (.v (.int i)) s = some (.v (.int (-i)), s) := Eq.trans rfl rfl
@[simp] theorem gIsN_non : gIsN (.v .non) (.v .non) s = some (.v (.bl true), s) := Eq.trans rfl rfl
@[simp] theorem gIsN_int : gIsN (.v (.int i)) (.v .non) s = some (.v (.bl false), s) := Eq.trans rfl rfl
@[simp] theorem gIsN_tup {ds : List D} : gIsN (.v (.tup ds)) (.v .non) s = some (.v (.bl false), s) := Eq.trans rfl rfl
@[simp] theorem gIsN_str {z : Str} : gIsN (.v (.str z)) (.v .non) s = some (.v (.bl false), s) := Eq.trans rfl rfl
@[simp] theorem gNotN_non : gNotN (.v .non) (.v .non) s = some (.v (.bl false), s) := Eq.trans rfl rfl
@[simp] theorem gNotN_int : gNotN (.v (.int i)) (.v .non) s = some (.v (.bl true), s) := Eq.trans rfl rfl
@[simp] theorem gNotN_tup {ds : List D} : gNotN (.v (.tup ds)) (.v .non) s = some (.v (.bl true), s) := Eq.trans rfl rfl
@[simp] theorem gNotN_str {z : Str} : gNotN (.v (.str z)) (.v .non) s = some (.v (.bl true), s) := Eq.trans rfl rfl
theorem eqv_int : PyData.eqv (.int i) (.int j) = decide (i = j) := by
  rw [PyData.eqv]
  rfl
theorem shaped_int : SeqAt.shaped (.int i) = true := by
  unfold SeqAt.shaped
  rw [PyData.canLay0, PyData.depth]
  rfl
@[simp] theorem gEq_ii : gEq (.v (.int i)) (.v (.int j)) s = some (.v (.bl (decide (i = j))), s) := by
  simp [gEq, gCmp, pdR, pdD, shaped_int, eqv_int, bv]
@[simp] theorem gNe_ii : gNe (.v (.int i)) (.v (.int j)) s = some (.v (.bl (!decide (i = j))), s) := by
  simp [gNe, gCmp, pdR, pdD, shaped_int, eqv_int, bv]
@[simp] theorem gIx_tup {ds : List D} : gIx (.v (.tup ds)) (.v (.int i)) s = M.ofO ((L2.atI ds i).map .v) s := Eq.trans rfl rfl
@[simp] theorem gIx_l {ds : List D} : gIx (.l (.lst ds)) (.v (.int i)) s = M.ofO ((L2.atI ds i).map .v) s := Eq.trans rfl rfl
@[simp] theorem gIx_o {ds : List D} : gIx (.o (.lst ds)) (.v (.int i)) s = M.ofO ((L2.atI ds i).map .v) s := Eq.trans rfl rfl
@[simp] theorem gIx_b {ds : List D} : gIx (.b (.lst ds)) (.v (.int i)) s = M.ofO ((L2.atI ds i).map .v) s := Eq.trans rfl rfl
@[simp] theorem gIx_bc {ds : List D} : gIx (.b (.cst ds)) (.v (.int i)) s = M.ofO ((L2.atI ds i).map .v) s := Eq.trans rfl rfl
theorem gIx_st {ds : List D} {n : Nat} (h : s[n]? = some (.lst ds)) : gIx (.v (.obj n)) (.v (.int i)) s = M.ofO ((L2.atI ds i).map .v) s := by
  simp [gIx, asSeq, asLst, h, bind_bo]
end
end Mi
/-! Mi: loops and comprehensions by invariants. -/
namespace Mi
open PySem hiding Env
section
variable {ck : Sto → Prop} {g : Tg} {b : Env → M Fl} {t : Env → M Bool} {m : Env → M R} {env e : Env} {st : Sto}
theorem for_nil (hc : ck st) : forL ck g b [] env st = some (.nx env, st) := by
  unfold forL
  exact if_pos hc
noncomputable def fk (ck : Sto → Prop) (g : Tg) (b : Env → M Fl) (ds : List D) : Fl → Sto → Rs Fl
  | .nx e, s => forL ck g b ds e s
  | .ct e, s => forL ck g b ds e s
  | .bk e, s => some (.nx e, s)
  | .rt r, s => some (.rt r, s)
theorem for_cons {d : D} {ds : List D} {s1 : Sto} (hc : ck st) (hg : g d env st = some (e, s1)) : forL ck g b (d :: ds) env st = bo (b e s1) (fk ck g b ds) := by
  unfold forL
  rw [if_pos hc, bind_bo, hg, bo_some, bind_bo]
  congr 1
  funext fl s
  cases fl <;> rfl
theorem for_nx {d : D} {ds : List D} {e2 : Env} {s1 s2 : Sto} (hc : ck st) (hg : g d env st = some (e, s1)) (hb : b e s1 = some (.nx e2, s2)) : forL ck g b (d :: ds) env st = forL ck g b ds e2 s2 := by
  rw [for_cons hc hg, hb]
  rfl
theorem for_rt {d : D} {ds : List D} {r : R} {s1 s2 : Sto} (hc : ck st) (hg : g d env st = some (e, s1)) (hb : b e s1 = some (.rt r, s2)) : forL ck g b (d :: ds) env st = some (.rt r, s2) := by
  rw [for_cons hc hg, hb]
  rfl
/-- a loop's end: all items walked, or a return -/
def Ends (Inv : Env → Sto → Prop) (Rt : R → Sto → Prop) (o : Rs Fl) : Prop := (∃ e s, o = some (.nx e, s) ∧ Inv e s) ∨ ∃ r s, o = some (.rt r, s) ∧ Rt r s
theorem for_post {ds : List D} (Inv : Nat → Env → Sto → Prop) (Rt : R → Sto → Prop)
    (h : ∀ i d env st, ds[i]? = some d → Inv i env st → ck st ∧ ∃ e st1, g d env st = some (e, st1) ∧ Ends (Inv (i + 1)) Rt (b e st1))
    (hc : ∀ env st, Inv ds.length env st → ck st) (h0 : Inv 0 env st) : Ends (Inv ds.length) Rt (forL ck g b ds env st) := by
  have key : ∀ (k i : Nat) (env : Env) (st : Sto), i + k = ds.length → Inv i env st → Ends (Inv ds.length) Rt (forL ck g b (ds.drop i) env st) := by
    intro k
    induction k with
    | zero =>
      intro i env st e hI
      have e2 : i = ds.length := e
      rw [e2] at hI
      rw [List.drop_eq_nil_of_le (by omega), for_nil (hc _ _ hI)]
      exact .inl ⟨_, _, rfl, hI⟩
    | succ k ih =>
      intro i env st e hI
      have hlt : i < ds.length := by omega
      (rw [List.drop_eq_getElem_cons hlt]); obtain ⟨c, e1, s1, hg, hb⟩ := h i _ env st (List.getElem?_eq_getElem hlt) hI
      rcases hb with ⟨e2, s2, hb, hI2⟩ | ⟨r, s2, hb, hr⟩
      · rw [for_nx c hg hb]
        exact ih (i + 1) e2 s2 (by omega) hI2
      · rw [for_rt c hg hb]
        exact .inr ⟨r, s2, rfl, hr⟩
  have := key ds.length 0 env st (by omega) h0
  rwa [List.drop_zero] at this
theorem for_inv {ds : List D} (Inv : Nat → Env → Sto → Prop)
    (h : ∀ i d env st, ds[i]? = some d → Inv i env st → ck st ∧ ∃ e st1 e2 st2, g d env st = some (e, st1) ∧ b e st1 = some (.nx e2, st2) ∧ Inv (i + 1) e2 st2)
    (hc : ∀ env st, Inv ds.length env st → ck st) (h0 : Inv 0 env st) : ∃ e s, forL ck g b ds env st = some (.nx e, s) ∧ Inv ds.length e s := by
  rcases for_post (ds := ds) (ck := ck) (g := g) (b := b) (env := env) (st := st) Inv (fun _ _ => False) (fun i d env st hd hI => by
    obtain ⟨c, e1, s1, e2, s2, hg, hb, hI2⟩ := h i d env st hd hI
    exact ⟨c, e1, s1, hg, .inl ⟨e2, s2, hb, hI2⟩⟩) hc h0 with h | ⟨_, _, _, z⟩
  · exact h
  · exact z.elim
/-! comprehensions -/
theorem comp_nil {acc : List D} (hc : ck st) : compL ck g t m env [] acc st = some (acc, st) := by
  unfold compL
  exact if_pos hc
open Classical in
theorem comp_yes {d y : D} {ds acc : List D} {s1 s2 s3 : Sto} (hc : ck st) (hg : g d env st = some (e, s1)) (ht : t e s1 = some (true, s2)) (hm : m e s2 = some (.v y, s3)) (hl : acc.length + 1 ≤ 16777216) :
    compL ck g t m env (d :: ds) acc st = compL ck g t m env ds (acc ++ [y]) s3 := by
  have hl2 : lenOk (acc.length + 1) = true := decide_eq_true hl
  rw [compL]
  show (if ck st then _ else none) = _
  rw [if_pos hc, bind_bo, hg, bo_some, bind_bo, ht, bo_some, if_pos rfl, bind_bo, hm, bo_some, bind_bo, toD_v, bo_some, if_pos hl2]
open Classical in
theorem comp_no {d : D} {ds acc : List D} {s1 s2 : Sto} (hc : ck st) (hg : g d env st = some (e, s1)) (ht : t e s1 = some (false, s2)) :
    compL ck g t m env (d :: ds) acc st = compL ck g t m env ds acc s2 := by
  rw [compL]
  show (if ck st then _ else none) = _
  rw [if_pos hc, bind_bo, hg, bo_some, bind_bo, ht, bo_some, if_neg (by simp)]
theorem comp_pure (F : D → Option D) : ∀ {ds acc : List D} (hc : ck st) (hl : acc.length + ds.length ≤ 16777216)
    (h : ∀ d ∈ ds, ∃ e, g d env st = some (e, st) ∧ ((t e st = some (false, st) ∧ F d = none) ∨ (t e st = some (true, st) ∧ ∃ y, m e st = some (.v y, st) ∧ F d = some y))),
    compL ck g t m env ds acc st = some (acc ++ ds.filterMap F, st)
  | [], acc, hc, _, _ => by rw [comp_nil hc, List.filterMap_nil, List.append_nil]
  | d :: ds, acc, hc, hl, h => by
    rw [List.length_cons] at hl
    obtain ⟨e, hg, ⟨ht, hF⟩ | ⟨ht, y, hm, hF⟩⟩ := h d (by simp)
    · rw [comp_no hc hg ht, comp_pure F hc (by omega) (fun d hd => h d (by simp [hd])), List.filterMap_cons_none hF]
    · rw [comp_yes hc hg ht hm (by omega), comp_pure F hc (by rw [List.length_append, List.length_singleton]; omega) (fun d hd => h d (by simp [hd])), List.filterMap_cons_some hF, List.append_assoc]
      rfl
/-- every item gives one: the state may change -/
theorem comp_inv {ds : List D} (Inv : Nat → List D → Sto → Prop)
    (h : ∀ i d acc st, ds[i]? = some d → Inv i acc st → ck st ∧ acc.length + 1 ≤ 16777216 ∧ ∃ e s1 s2, g d env st = some (e, s1) ∧ ((t e s1 = some (false, s2) ∧ Inv (i + 1) acc s2) ∨ (t e s1 = some (true, s2) ∧ ∃ y s3, m e s2 = some (.v y, s3) ∧ Inv (i + 1) (acc ++ [y]) s3)))
    (hc : ∀ acc st, Inv ds.length acc st → ck st) (h0 : Inv 0 [] st) : ∃ acc s, compL ck g t m env ds [] st = some (acc, s) ∧ Inv ds.length acc s := by
  have key : ∀ (k i : Nat) (acc : List D) (st : Sto), i + k = ds.length → Inv i acc st → ∃ acc' s, compL ck g t m env (ds.drop i) acc st = some (acc', s) ∧ Inv ds.length acc' s := by
    intro k
    induction k with
    | zero =>
      intro i acc st e hI
      have e2 : i = ds.length := e
      rw [e2] at hI
      rw [List.drop_eq_nil_of_le (by omega), comp_nil (hc _ _ hI)]
      exact ⟨_, _, rfl, hI⟩
    | succ k ih =>
      intro i acc st e hI
      have hlt : i < ds.length := by omega
      (rw [List.drop_eq_getElem_cons hlt]); obtain ⟨c, hl, e1, s1, s2, hg, ⟨ht, hI2⟩ | ⟨ht, y, s3, hm, hI2⟩⟩ := h i _ acc st (List.getElem?_eq_getElem hlt) hI
      · rw [comp_no c hg ht]
        exact ih (i + 1) acc s2 (by omega) hI2
      · rw [comp_yes c hg ht hm hl]
        exact ih (i + 1) _ s3 (by omega) hI2
  have := key ds.length 0 [] st (by omega) h0
  rwa [List.drop_zero] at this
end
/-! ### statements -/
section
variable {env e : Env} {st s : Sto} {i j n : Nat} {r x y : R} {d : D} {ma mb mc : Env → M R} {ms : Env → M (List R)} {t u : Env → M Bool} {sa sb : Env → M Fl}
@[simp] theorem sNil_ap : sNil env st = some (.nx env, st) := Eq.trans rfl rfl
def sq1 (b : Env → M Fl) : Fl → Sto → Rs Fl
  | .nx e, s => b e s
  | f, s => some (f, s)
@[simp] theorem sq1_nx : sq1 sb (.nx e) s = sb e s := Eq.trans rfl rfl
@[simp] theorem sq1_rt : sq1 sb (.rt r) s = some (.rt r, s) := Eq.trans rfl rfl
@[simp] theorem sSeq_ap : sSeq sa sb env st = bo (sa env st) (sq1 sb) := by
  unfold sSeq
  rw [bind_bo]
  congr 1
  funext fl s1
  cases fl <;> rfl
def rt1 (r : R) (s : Sto) : Rs Fl := some (.rt (toO r), s)
@[simp] theorem rt1_ap : rt1 r s = some (.rt (toO r), s) := Eq.trans rfl rfl
@[simp] theorem sRet_ap : sRet ma env st = bo (ma env st) rt1 := by
  unfold sRet
  rw [bind_bo]
  rfl
def rv1 : Option (Option R) → Sto → Rs Fl
  | some (some r), s => some (.rt (toO r), s)
  | _, _ => none
@[simp] theorem rv1_ap : rv1 (some (some r)) s = some (.rt (toO r), s) := Eq.trans rfl rfl
@[simp] theorem sRetV_ap : sRetV i env st = rv1 env[i]? st := by
  unfold sRetV rv1
  cases env[i]? with
  | none => rfl
  | some o => cases o <;> rfl
@[simp] theorem sRetN_ap : sRetN env st = some (.rt (.v .non), st) := Eq.trans rfl rfl
def ex1 (env : Env) (_ : R) (s : Sto) : Rs Fl := some (.nx env, s)
@[simp] theorem ex1_ap : ex1 env r s = some (.nx env, s) := Eq.trans rfl rfl
@[simp] theorem sExpr_ap : sExpr ma env st = bo (ma env st) (ex1 env) := by
  unfold sExpr
  rw [bind_bo]
  rfl
@[simp] theorem sIf_ap : sIf t sa sb env st = bo (t env st) (two sa sb env) := by
  rw [← two_eq]
  exact bind_bo _ _ _
@[simp] theorem sNever_ap : sNever env st = none := Eq.trans rfl rfl
@[simp] theorem keepR_v : keepR (.v d) = some (.v d) := Eq.trans rfl rfl
@[simp] theorem keepR_l {o : O} : keepR (.l o) = some (.b o) := Eq.trans rfl rfl
@[simp] theorem keepR_b {o : O} : keepR (.b o) = some (.b o) := Eq.trans rfl rfl
@[simp] theorem keepL_v : keepL (.v d) = some (.v d) := Eq.trans rfl rfl
@[simp] theorem keepL_l {o : O} : keepL (.l o) = some (.l o) := Eq.trans rfl rfl
/-- a value is laid -/
def put (i : Nat) (env : Env) : Option R → Sto → Rs Fl
  | some q, s => if i < env.length then some (.nx (env.set i (some q)), s) else none
  | none, _ => none
@[simp] theorem put_ap (h : i < env.length) : put i env (some r) s = some (.nx (env.set i (some r)), s) := if_pos h
def set1 (i : Nat) (env : Env) (r : R) (s : Sto) : Rs Fl := put i env (keepR r) s
@[simp] theorem set1_ap : set1 i env r s = put i env (keepR r) s := Eq.trans rfl rfl
def setL1 (i : Nat) (env : Env) (r : R) (s : Sto) : Rs Fl := put i env (keepL r) s
@[simp] theorem setL1_ap : setL1 i env r s = put i env (keepL r) s := Eq.trans rfl rfl
@[simp] theorem sSet_ap : sSet i ma env st = bo (ma env st) (set1 i env) := by
  unfold sSet
  rw [bind_bo]
  congr 1
  funext r s1
  rw [bind_bo]
  unfold set1 put
  cases keepR r with
  | none => rfl
  | some q =>
    show (ite (i < env.length) (pure _ : M Fl) M.fail) s1 = _
    by_cases h : i < env.length
    · rw [if_pos h]
      exact (if_pos h).symm
    · rw [if_neg h]
      exact (if_neg h).symm
@[simp] theorem sSetL_ap : sSetL i ma env st = bo (ma env st) (setL1 i env) := by
  unfold sSetL
  rw [bind_bo]
  congr 1
  funext r s1
  rw [bind_bo]
  unfold setL1 put
  cases keepL r with
  | none => rfl
  | some q =>
    show (ite (i < env.length) (pure _ : M Fl) M.fail) s1 = _
    by_cases h : i < env.length
    · rw [if_pos h]
      exact (if_pos h).symm
    · rw [if_neg h]
      exact (if_neg h).symm
@[simp] theorem alloc_v : alloc (.v d) s = some (.v d, s) := Eq.trans rfl rfl
@[simp] theorem alloc_l {o : O} : alloc (.l o) s = some (.v (.obj s.length), s ++ [o]) := Eq.trans rfl rfl
def putR (i : Nat) (env : Env) (r : R) (s : Sto) : Rs Fl := put i env (some r) s
@[simp] theorem putR_ap : putR i env r s = put i env (some r) s := Eq.trans rfl rfl
@[simp] theorem sSetI_ap : sSetI i ma env st = bo (bo (ma env st) alloc) (putR i env) := by
  unfold sSetI
  rw [bind_bo, ← bo_as]
  congr 1
  funext r s1
  rw [bind_bo]
  congr 1
  funext q s2
  unfold putR put
  show (ite (i < env.length) (pure _ : M Fl) M.fail) s2 = _
  by_cases h : i < env.length
  · rw [if_pos h]
    exact (if_pos h).symm
  · rw [if_neg h]
    exact (if_neg h).symm
/-! targets -/
@[simp] theorem gN_ap (h : i < env.length) : gN i d env st = some (env.set i (some (.v d)), st) := by
  unfold gN
  rw [if_pos h]
  rfl
@[simp] theorem gNl_ap : gNl [] env st = some (env, st) := Eq.trans rfl rfl
def gc1 (r : List D → Env → M Env) (ds : List D) (e : Env) (s : Sto) : Rs Env := r ds e s
@[simp] theorem gc1_ap {g : List D → Env → M Env} {ds : List D} : gc1 g ds e s = g ds e s := Eq.trans rfl rfl
@[simp] theorem gCs_ap {g : Tg} {g' : List D → Env → M Env} {ds : List D} : gCs g g' (d :: ds) env st = bo (g d env st) (gc1 g' ds) := by
  show (g d env >>= fun e => g' ds e) st = _
  rw [bind_bo]
  rfl
@[simp] theorem gTp_ap {g : List D → Env → M Env} {ds : List D} (h : ds.length = n) : gTp n g (.tup ds) env st = g ds env st := by
  unfold gTp
  dsimp only
  rw [if_pos h]
def as1 (e : Env) (s : Sto) : Rs Fl := some (.nx e, s)
@[simp] theorem as1_ap : as1 e s = some (.nx e, s) := Eq.trans rfl rfl
def as0 (g : Tg) (env : Env) (d : D) (s : Sto) : Rs Fl := bo (g d env s) as1
@[simp] theorem as0_ap {g : Tg} : as0 g env d s = bo (g d env s) as1 := Eq.trans rfl rfl
@[simp] theorem sAsg_ap {g : Tg} : sAsg g ma env st = bo (bo (ma env st) toD) (as0 g env) := by
  unfold sAsg
  rw [bind_bo, ← bo_as]
  congr 1
@[simp] theorem laid_v {k : Md} : laid k (.v d) s = some (.v d, s) := by cases k <;> rfl
@[simp] theorem laid_f {o : O} : laid .f (.l o) s = some (.b o, s) := Eq.trans rfl rfl
@[simp] theorem laid_l {o : O} : laid .l (.l o) s = some (.l o, s) := Eq.trans rfl rfl
def lay1 (i : Nat) (ks : List (Nat × Md)) (rs : List R) (env : Env) (q : R) (s : Sto) : Rs Env := if i < env.length then layAll ks rs (env.set i (some q)) s else none
@[simp] theorem lay1_ap {ks : List (Nat × Md)} {rs : List R} (h : i < env.length) : lay1 i ks rs env r s = layAll ks rs (env.set i (some r)) s := if_pos h
@[simp] theorem layAll_nil : layAll [] [] env s = some (env, s) := Eq.trans rfl rfl
@[simp] theorem layAll_cons {k : Md} {ks : List (Nat × Md)} {rs : List R} : layAll ((i, k) :: ks) (r :: rs) env s = bo (laid k r s) (lay1 i ks rs env) := by
  show (laid k r >>= fun q => if i < env.length then layAll ks rs (env.set i (some q)) else M.fail) s = _
  rw [bind_bo]
  congr 1
  funext q s1
  unfold lay1
  by_cases h : i < env.length
  · rw [if_pos h, if_pos h]
  · rw [if_neg h, if_neg h]
    rfl
def par1 (ks : List (Nat × Md)) (env : Env) (rs : List R) (s : Sto) : Rs Fl := bo (layAll ks rs env s) as1
@[simp] theorem par1_ap {ks : List (Nat × Md)} {rs : List R} : par1 ks env rs s = bo (layAll ks rs env s) as1 := Eq.trans rfl rfl
@[simp] theorem sPar_ap {ks : List (Nat × Md)} : sPar ks ms env st = bo (ms env st) (par1 ks env) := by
  unfold sPar
  rw [bind_bo]
  congr 1
/-! walks -/
@[simp] theorem mSeq_ap : mSeq ma env st = bo (ma env st) asIt := bind_bo _ _ _
abbrev tr1 : Sto → Prop := fun _ => True
@[simp] theorem asIt_tup {ds : List D} : asIt (.v (.tup ds)) s = some (⟨ds, tr1⟩, s) := Eq.trans rfl rfl
@[simp] theorem asIt_l {ds : List D} : asIt (.l (.lst ds)) s = some (⟨ds, tr1⟩, s) := Eq.trans rfl rfl
@[simp] theorem asIt_b {ds : List D} : asIt (.b (.lst ds)) s = some (⟨ds, tr1⟩, s) := Eq.trans rfl rfl
@[simp] theorem asIt_c {ds : List D} : asIt (.b (.cst ds)) s = some (⟨ds, tr1⟩, s) := Eq.trans rfl rfl
def en1 (it : Itm) (s : Sto) : Rs Itm := some (⟨enumD 0 it.ds, it.ck⟩, s)
@[simp] theorem en1_ap {it : Itm} : en1 it s = some (⟨enumD 0 it.ds, it.ck⟩, s) := Eq.trans rfl rfl
@[simp] theorem mEnum_ap : mEnum ma env st = bo (bo (ma env st) asIt) en1 := by
  unfold mEnum
  rw [bind_bo, ← bo_as]
  congr 1
def both (a b : Sto → Prop) : Sto → Prop := fun s => a s ∧ b s
@[simp] theorem both_tr : both tr1 tr1 = tr1 := by
  funext s
  exact propext ⟨fun _ => trivial, fun _ => ⟨trivial, trivial⟩⟩
def zi3 (i1 i2 : Itm) (s : Sto) : Rs Itm := some (⟨zipD i1.ds i2.ds, both i1.ck i2.ck⟩, s)
@[simp] theorem zi3_ap {i1 i2 : Itm} : zi3 i1 i2 s = some (⟨zipD i1.ds i2.ds, both i1.ck i2.ck⟩, s) := Eq.trans rfl rfl
def zi2 (r2 : R) (i1 : Itm) (s : Sto) : Rs Itm := bo (asIt r2 s) (zi3 i1)
@[simp] theorem zi2_ap {i1 : Itm} : zi2 r i1 s = bo (asIt r s) (zi3 i1) := Eq.trans rfl rfl
def zi1 (r1 r2 : R) (s : Sto) : Rs Itm := bo (asIt r1 s) (zi2 r2)
@[simp] theorem zi1_ap : zi1 x y s = bo (asIt x s) (zi2 y) := Eq.trans rfl rfl
def zi0 (mb : Env → M R) (env : Env) (r1 : R) (s : Sto) : Rs Itm := bo (mb env s) (zi1 r1)
@[simp] theorem zi0_ap : zi0 mb env x s = bo (mb env s) (zi1 x) := Eq.trans rfl rfl
@[simp] theorem mZip_ap : mZip ma mb env st = bo (ma env st) (zi0 mb env) := by
  unfold mZip
  rw [bind_bo]
  congr 1
def ra1 : List R → M Itm := fun rs => match rs with
  | [.v (.int j)] => M.ite (smallI j) ⟨rangeD 0 j.toNat, fun _ => True⟩
  | _ => M.fail
@[simp] theorem ra1_ap {k : Int} (h1 : -4611686018427387904 ≤ k) (h2 : k < 4611686018427387904) : ra1 [.v (.int k)] s = some (⟨rangeD 0 k.toNat, tr1⟩, s) := by
  show M.ite _ _ _ = _
  rw [ite_ap, if_pos (by simp [smallI]; omega)]
@[simp] theorem mR1_ap : mR1 ms env st = bo (ms env st) ra1 := bind_bo _ _ _
def ra2 : List R → M Itm := fun rs => match rs with
  | [.v (.int i), .v (.int j)] => M.ite (smallI i && smallI j) ⟨rangeD i (j - i).toNat, fun _ => True⟩
  | _ => M.fail
@[simp] theorem ra2_ap {i k : Int} (h1 : -4611686018427387904 ≤ k) (h2 : k < 4611686018427387904) (h3 : -4611686018427387904 ≤ i) (h4 : i < 4611686018427387904) : ra2 [.v (.int i), .v (.int k)] s = some (⟨rangeD i (k - i).toNat, tr1⟩, s) := by
  show M.ite _ _ _ = _
  rw [ite_ap, if_pos (by simp [smallI]; omega)]
@[simp] theorem mR2_ap : mR2 ms env st = bo (ms env st) ra2 := bind_bo _ _ _
noncomputable def fo1 (g : Tg) (b : Env → M Fl) (env : Env) (it : Itm) (s : Sto) : Rs Fl := forL it.ck g b it.ds env s
theorem sFor_ap {fz : List Nat} {mi : Env → M Itm} {g : Tg} : sFor fz mi g sa env st = bo (mi (freeze fz env) st) (fo1 g sa (freeze fz env)) := by
  unfold sFor
  rw [bind_bo]
  rfl
@[simp] theorem sFor_ap0 {mi : Env → M Itm} {g : Tg} : sFor [] mi g sa env st = bo (mi env st) (fo1 g sa env) := sFor_ap
@[simp] theorem fo1_ap {g : Tg} {it : Itm} : fo1 g sa env it s = forL it.ck g sa it.ds env s := Eq.trans rfl rfl
def co2 (ds : List D) (s : Sto) : Rs R := some (.l (.lst ds), s)
@[simp] theorem co2_ap {ds : List D} : co2 ds s = some (.l (.lst ds), s) := Eq.trans rfl rfl
noncomputable def co1 (vs : List Nat) (g : Tg) (t : Env → M Bool) (m : Env → M R) (env : Env) (it : Itm) (s : Sto) : Rs R := bo (compL it.ck g t m (wipeE env vs) it.ds [] s) co2
@[simp] theorem co1_ap {vs : List Nat} {g : Tg} {it : Itm} : co1 vs g t ma env it s = bo (compL it.ck g t ma (wipeE env vs) it.ds [] s) co2 := Eq.trans rfl rfl
@[simp] theorem eComp_ap {vs : List Nat} {mi : Env → M Itm} {g : Tg} : eComp vs mi g t ma env st = bo (mi env st) (co1 vs g t ma env) := by
  unfold eComp
  rw [bind_bo]
  congr 1
/-! own lists -/
@[simp] theorem ownAt_ap {ds : List D} (h : env[i]? = some (some (.l (.lst ds)))) : ownAt i env = some ds := by
  unfold ownAt
  rw [h]
def ow3 (i : Nat) (env : Env) (p : R × List D) (s : Sto) : Rs Fl := some (.nx (env.set i (some (.l (.lst p.2)))), s)
@[simp] theorem ow3_ap {ds : List D} : ow3 i env (r, ds) s = some (.nx (env.set i (some (.l (.lst ds)))), s) := Eq.trans rfl rfl
def ow1 (i : Nat) (f : List D → List R → M (R × List D)) (env : Env) (rs : List R) (s : Sto) : Rs Fl := match ownAt i env with
  | some ds => bo (f ds rs s) (ow3 i env)
  | none => none
@[simp] theorem ow1_ap {f : List D → List R → M (R × List D)} {rs : List R} {ds : List D} (h : env[i]? = some (some (.l (.lst ds)))) : ow1 i f env rs s = bo (f ds rs s) (ow3 i env) := by
  unfold ow1
  rw [ownAt_ap h]
@[simp] theorem sOwn_ap {f : List D → List R → M (R × List D)} : sOwn i (fun ds rs => f ds rs >>= fun p => pure p.2) ms env st = bo (ms env st) (ow1 i f env) := by
  unfold sOwn
  rw [bind_bo]
  congr 1
  funext rs s1
  rw [bind_bo]
  unfold ow1
  cases ownAt i env with
  | none => rfl
  | some ds =>
    rw [ofO_some, bo_some, bind_bo]
    show bo ((f ds rs >>= fun p => pure p.2) s1) _ = _
    rw [bind_bo]
    show _ = bo (f ds rs s1) (ow3 i env)
    cases f ds rs s1 <;> rfl
@[simp] theorem fAppend_ap {ds : List D} (h : ds.length + 1 ≤ 16777216) : fAppend ds [.v d] s = some ((.v .non, ds ++ [d]), s) := by
  have h2 : lenOk (ds.length + 1) = true := decide_eq_true h
  unfold fAppend
  dsimp only
  rw [if_pos h2]
  rfl
@[simp] theorem fExtend_l {ds es : List D} (h : ds.length + es.length ≤ 16777216) : fExtend ds [.l (.lst es)] s = some ((.v .non, ds ++ es), s) := by
  have h2 : lenOk (ds.length + es.length) = true := decide_eq_true h
  show (asLst (.l (.lst es)) >>= fun es => if lenOk (ds.length + es.length) = true then pure (R.v .non, ds ++ es) else M.fail) s = _
  rw [bind_bo]
  show (if lenOk (ds.length + es.length) = true then pure (R.v .non, ds ++ es) else M.fail : M (R × List D)) s = _
  rw [if_pos h2]
  rfl
def po3 (j i : Nat) (env : Env) (p : R × List D) (s : Sto) : Rs Fl := match p.1 with
  | .v d => if j < env.length then some (.nx ((env.set i (some (.l (.lst p.2)))).set j (some (.v d))), s) else none
  | _ => none
@[simp] theorem po3_ap {ds : List D} (h : j < env.length) : po3 j i env (.v d, ds) s = some (.nx ((env.set i (some (.l (.lst ds)))).set j (some (.v d))), s) := if_pos h
def po1 (j i : Nat) (env : Env) (rs : List R) (s : Sto) : Rs Fl := match ownAt i env with
  | some ds => bo (fPop ds rs s) (po3 j i env)
  | none => none
@[simp] theorem po1_ap {rs : List R} {ds : List D} (h : env[i]? = some (some (.l (.lst ds)))) : po1 j i env rs s = bo (fPop ds rs s) (po3 j i env) := by
  unfold po1
  rw [ownAt_ap h]
@[simp] theorem sPop_ap : sPop j i ms env st = bo (ms env st) (po1 j i env) := by
  unfold sPop
  rw [bind_bo]
  congr 1
  funext rs s1
  rw [bind_bo]
  unfold po1
  cases ownAt i env with
  | none => rfl
  | some ds =>
    rw [ofO_some, bo_some, bind_bo]
    congr 1
    funext p s2
    rw [bind_bo]
    unfold po3
    cases p.1 with
    | v d =>
      rw [toD_v, bo_some]
      dsimp only
      split <;> rfl
    | _ => rfl
@[simp] theorem fPop_ap {ds : List D} : fPop (ds ++ [d]) [] s = some ((.v d, ds), s) := by
  unfold fPop
  simp [bind_bo]
/-! built-ins -/
@[simp] theorem bLen_t {ds : List D} : bLen [.v (.tup ds)] s = some (.v (.int ds.length), s) := Eq.trans rfl rfl
@[simp] theorem bLen_l {ds : List D} : bLen [.l (.lst ds)] s = some (.v (.int ds.length), s) := Eq.trans rfl rfl
@[simp] theorem bLen_o {ds : List D} : bLen [.o (.lst ds)] s = some (.v (.int ds.length), s) := Eq.trans rfl rfl
@[simp] theorem bLen_b {ds : List D} : bLen [.b (.lst ds)] s = some (.v (.int ds.length), s) := Eq.trans rfl rfl
@[simp] theorem bLen_c {ds : List D} : bLen [.b (.cst ds)] s = some (.v (.int ds.length), s) := Eq.trans rfl rfl
@[simp] theorem bAbs_ap {k : Int} : bAbs [.v (.int k)] s = some (.v (.int k.natAbs), s) := by
  show some (R.v (.int (if k < 0 then -k else k)), s) = _
  split <;> (congr 4; omega)
@[simp] theorem bInt_i {k : Int} : bInt [.v (.int k)] s = some (.v (.int k), s) := Eq.trans rfl rfl
@[simp] theorem bInt_b {b : Bool} : bInt [.v (.bl b)] s = some (.v (.int (if b = true then 1 else 0)), s) := Eq.trans rfl rfl
@[simp] theorem bMax_2 {a b : Int} : bMax [.v (.int a), .v (.int b)] s = some (.v (.int (max a b)), s) := by
  show some (R.v (.int (if b > a then b else a)), s) = _
  congr 4
  split <;> omega
@[simp] theorem bMin_2 {a b : Int} : bMin [.v (.int a), .v (.int b)] s = some (.v (.int (min a b)), s) := by
  show some (R.v (.int (if b < a then b else a)), s) = _
  congr 4
  split <;> omega
@[simp] theorem bTup_l {ds : List D} : bTup [.l (.lst ds)] s = some (.v (.tup ds), s) := Eq.trans rfl rfl
@[simp] theorem bTup_o {ds : List D} : bTup [.o (.lst ds)] s = some (.v (.tup ds), s) := Eq.trans rfl rfl
@[simp] theorem bTup_b {ds : List D} : bTup [.b (.lst ds)] s = some (.v (.tup ds), s) := Eq.trans rfl rfl
@[simp] theorem bTup_t {ds : List D} : bTup [.v (.tup ds)] s = some (.v (.tup ds), s) := Eq.trans rfl rfl
theorem bAll_l {bs : List Bool} : bAll [.l (.lst (bs.map .bl))] s = some (.v (.bl (bs.all id)), s) := by
  show bo (M.ofO (allBls (bs.map D.bl)) s) _ = _
  rw [allBls_map]
  rfl
theorem bMax_l {ns : List Int} (h : ns ≠ []) : bMax [.v (.tup (ns.map .int))] s = some (.v (.int (maxL ns)), s) := by
  show bo (M.ofO (allInts (ns.map D.int)) s) _ = _
  rw [allInts_map, ofO_some, bo_some, if_neg h]
  rfl
theorem bMin_o {ns : List Int} (h : ns ≠ []) : bMin [.o (.lst (ns.map .int))] s = some (.v (.int (minL ns)), s) := by
  show bo (M.ofO (allInts (ns.map D.int)) s) _ = _
  rw [allInts_map, ofO_some, bo_some, if_neg h]
  rfl
@[simp] theorem asSeq_t {ds : List D} : asSeq (.v (.tup ds)) s = some (ds, s) := Eq.trans rfl rfl
@[simp] theorem gRevL_l {ds : List D} : gRevL (.l (.lst ds)) s = some (.l (.lst ds.reverse), s) := Eq.trans rfl rfl
@[simp] theorem gSl_t {ds : List D} {l h : Option Int} : gSl (.v (.tup ds)) l h s = some (.v (.tup (cutD ds l h)), s) := Eq.trans rfl rfl
@[simp] theorem gSl_l {ds : List D} {l h : Option Int} : gSl (.l (.lst ds)) l h s = some (.l (.lst (cutD ds l h)), s) := Eq.trans rfl rfl
@[simp] theorem isTt_t {ds : List D} : gIsT "tuple" (.v (.tup ds)) s = some (.v (.bl true), s) := Eq.trans rfl rfl
@[simp] theorem isTi_i {k : Int} : gIsT "int" (.v (.int k)) s = some (.v (.bl true), s) := Eq.trans rfl rfl
@[simp] theorem isTb_i {k : Int} : gIsT "bool" (.v (.int k)) s = some (.v (.bl false), s) := Eq.trans rfl rfl
def fn1 : Fl → Sto → Rs R
  | .rt r, s => some (toO r, s)
  | .nx _, s => some (.v .non, s)
  | _, _ => none
@[simp] theorem fn1_rt : fn1 (.rt r) s = some (toO r, s) := Eq.trans rfl rfl
@[simp] theorem fn1_nx : fn1 (.nx e) s = some (.v .non, s) := Eq.trans rfl rfl
theorem runFn_ap {b : Env → M Fl} {rs : List R} : runFn n b rs st = bo (b (rs.map some ++ List.replicate n none) st) fn1 := by
  unfold runFn
  rw [bind_bo]
  congr 1
  funext fl s1
  cases fl <;> rfl
/-! while -/
def wh1 (n : Nat) (t : Env → M Bool) (b : Env → M Fl) : Fl → Sto → Rs Fl
  | .nx e, s => whileN n t b e s
  | .ct e, s => whileN n t b e s
  | .bk e, s => some (.nx e, s)
  | .rt r, s => some (.rt r, s)
theorem while_yes {e2 : Env} {s2 : Sto} {fl : Fl × Sto} (ht : t env st = some (true, s)) (hb : sa env s = some (.nx e2, s2)) (hw : sWhile t sa e2 s2 = some fl) : sWhile t sa env st = some fl := by
  obtain ⟨k, hk⟩ := while_inv hw
  refine while_some (n := k + 1) ?_
  show (t env >>= _) st = _
  rw [bind_bo, ht, bo_some, if_pos rfl, bind_bo, hb]
  exact hk
theorem while_no (ht : t env st = some (false, s)) : sWhile t sa env st = some (.nx env, s) := by
  refine while_some (n := 1) ?_
  show (t env >>= _) st = _
  rw [bind_bo, ht, bo_some, if_neg (by simp)]
  rfl
theorem while_rt {s2 : Sto} (ht : t env st = some (true, s)) (hb : sa env s = some (.rt r, s2)) : sWhile t sa env st = some (.rt r, s2) := by
  refine while_some (n := 1) ?_
  show (t env >>= _) st = _
  rw [bind_bo, ht, bo_some, if_pos rfl, bind_bo, hb]
  rfl
end
/-! ** of small ints; signs of // and % -/
@[simp] theorem gPow_ap {i j : Int} {s : Sto} (h1 : -18446744073709551616 < i) (h2 : i < 18446744073709551616) (h3 : 0 ≤ j) (h4 : j ≤ 1000000) : gPow (.v (.int i)) (.v (.int j)) s = some (.v (.int (i ^ j.toNat)), s) := by
  have hb : Builtin.Int.intBits i ≤ 64 := PyProof.Rows.intBits_le (by omega)
  have hb2 : (Builtin.Int.intBits i : Int) * j ≤ 2 ^ 27 := by
    have e1 : (Builtin.Int.intBits i : Int) ≤ 64 := by exact_mod_cast hb
    have e2 := Int.mul_le_mul e1 h4 h3 (by omega)
    omega
  rw [show (2 : Int) ^ 27 = 134217728 by decide] at hb2
  simp [gPow, gI, h3, hb2]
theorem fmod_nn (i : Int) {j : Int} (h : 0 < j) : 0 ≤ i.fmod j ∧ i.fmod j < j := by
  (rw [Int.fmod_eq_emod_of_nonneg _ (by omega)]); exact ⟨Int.emod_nonneg _ (by omega), Int.emod_lt_of_pos _ h⟩
theorem fdiv_nn {i j : Int} (h : 0 ≤ i) (hj : 0 < j) : 0 ≤ i.fdiv j ∧ i.fdiv j ≤ i := by
  rw [Int.fdiv_eq_ediv_of_nonneg _ (by omega)]
  exact ⟨Int.ediv_nonneg h (by omega), Int.ediv_le_self _ h⟩
theorem atI_nat {α : Type} {xs : List α} {i : Nat} : L2.atI xs (i : Int) = xs[i]? := by
  unfold L2.atI L2.ixN
  rw [if_pos (by omega)]
  by_cases h : i < xs.length
  · rw [if_pos (by omega)]
    simp
  · rw [if_neg (by omega), List.getElem?_eq_none (by omega)]
    rfl
section
variable {α : Type} {a b c d e : α} {xs : List α}
@[simp] theorem atI_0 : L2.atI (a :: xs) 0 = some a := atI_nat (i := 0)
@[simp] theorem atI_1 : L2.atI (a :: b :: xs) 1 = some b := atI_nat (i := 1)
@[simp] theorem atI_2 : L2.atI (a :: b :: c :: xs) 2 = some c := atI_nat (i := 2)
@[simp] theorem atI_3 : L2.atI (a :: b :: c :: d :: xs) 3 = some d := atI_nat (i := 3)
@[simp] theorem atI_4 : L2.atI (a :: b :: c :: d :: e :: xs) 4 = some e := atI_nat (i := 4)
end
@[simp] theorem ixN_30 : L2.ixN 3 0 = some 0 := Eq.trans rfl rfl
@[simp] theorem ixN_31 : L2.ixN 3 1 = some 1 := Eq.trans rfl rfl
@[simp] theorem ixN_32 : L2.ixN 3 2 = some 2 := Eq.trans rfl rfl
/-! factors that are natural numbers -/
theorem nat_lt {n : Nat} (h : n ≤ 1000000) : (n : Int) < 18446744073709551616 := Int.lt_of_le_of_lt (Int.ofNat_le.mpr h) (by decide)
theorem nat_gt (n : Nat) : (-18446744073709551616 : Int) < (n : Int) := Int.lt_of_lt_of_le (by decide) (Int.natCast_nonneg n)
@[simp] theorem gMul_nr {i : Int} {n : Nat} {s : Sto} (h : n ≤ 1000000) : gMul (.v (.int i)) (.v (.int (n : Int))) s = some (.v (.int (i * n)), s) := gMul_r (nat_gt n) (nat_lt h)
@[simp] theorem gMul_nl {i : Int} {n : Nat} {s : Sto} (h : n ≤ 1000000) : gMul (.v (.int (n : Int))) (.v (.int i)) s = some (.v (.int (n * i)), s) := gMul_l (nat_gt n) (nat_lt h)
/-! one turn -/
theorem turn_nx {g : Tg} {b : Env → M Fl} {d : D} {env e e2 : Env} {st s1 s2 : Sto} {ck : Sto → Prop} {I : Env → Sto → Prop} (hc : ck st) (hg : g d env st = some (e, s1)) (hb : b e s1 = some (.nx e2, s2)) (hI : I e2 s2) :
    ck st ∧ ∃ e st1 e2 st2, g d env st = some (e, st1) ∧ b e st1 = some (.nx e2, st2) ∧ I e2 st2 := ⟨hc, _, _, _, _, hg, hb, hI⟩
theorem turn_n {g : Tg} {b : Env → M Fl} {d : D} {env e e2 : Env} {st s1 s2 : Sto} {ck : Sto → Prop} {I : Env → Sto → Prop} {Rt : R → Sto → Prop} (hc : ck st) (hg : g d env st = some (e, s1)) (hb : b e s1 = some (.nx e2, s2)) (hI : I e2 s2) :
    ck st ∧ ∃ e st1, g d env st = some (e, st1) ∧ Ends I Rt (b e st1) := ⟨hc, _, _, hg, .inl ⟨_, _, hb, hI⟩⟩
theorem turn_r {g : Tg} {b : Env → M Fl} {d : D} {env e : Env} {r : R} {st s1 s2 : Sto} {ck : Sto → Prop} {I : Env → Sto → Prop} {Rt : R → Sto → Prop} (hc : ck st) (hg : g d env st = some (e, s1)) (hb : b e s1 = some (.rt r, s2)) (hI : Rt r s2) :
    ck st ∧ ∃ e st1, g d env st = some (e, st1) ∧ Ends I Rt (b e st1) := ⟨hc, _, _, hg, .inr ⟨_, _, hb, hI⟩⟩
end Mi
namespace K80
open Mi
theorem is_integer_ev (a : Int) (st : Sto) : f_is_integer [.v (.int a)] st = some (.v (.bl true), st) := by
  simp [f_is_integer, runFn_ap, m_is_integer]
theorem is_between_ev (a lo hi : Int) (st : Sto) : f_is_between [.v (.int a), .v (.int lo), .v (.int hi)] st = some (.v (.bl (decide (lo ≤ a) && decide (a ≤ hi))), st) := by
  simp [f_is_between, runFn_ap, m_is_between, is_integer_ev]
  cases h : decide (lo ≤ a) <;> simp
theorem between_yes {a lo hi : Int} (h1 : lo ≤ a) (h2 : a ≤ hi) (st : Sto) : f_is_between [.v (.int a), .v (.int lo), .v (.int hi)] st = some (.v (.bl true), st) := by
  rw [is_between_ev, decide_eq_true h1, decide_eq_true h2]
  rfl
theorem common_loop : ∀ (n a b : Nat), b ≤ n → ∀ st, sWhile t1_common b1_common [some (.v (.int a)), some (.v (.int b))] st =
    some (.nx [some (.v (.int (Nat.gcd a b : Nat))), some (.v (.int 0))], st)
  | n, a, 0, _, st => by
    rw [while_no (s := st) (by simp [t1_common])]
    simp
  | 0, a, b + 1, h, st => by omega
  | n + 1, a, b + 1, h, st => by
    have hb : ((b + 1 : Nat) : Int) ≠ 0 := by omega
    have hm : Int.fmod (a : Int) ((b + 1 : Nat) : Int) = ((a % (b + 1) : Nat) : Int) := by
      (rw [Int.fmod_eq_emod_of_nonneg _ (by omega)]); rfl
    have ih := common_loop n (b + 1) (a % (b + 1)) (by have := Nat.mod_lt a (show b + 1 > 0 by omega); omega) st
    rw [Nat.gcd_comm a, Nat.gcd_rec (b + 1) a, Nat.gcd_comm]
    generalize ((b + 1 : Nat) : Int) = B at *
    refine while_yes (s := st) (s2 := st) (by simp [t1_common, hb]) (by simp [b1_common, hb]; rfl) ?_
    rw [hm]
    exact ih
theorem common_ev (a b : Nat) (st : Sto) : f_common [.v (.int a), .v (.int b)] st = some (.v (.int (Nat.gcd a b : Nat)), st) := by
  simp [f_common, runFn_ap, m_common, common_loop b a b (Nat.le_refl _)]
/-! pieces -/
abbrev Pc := Nat × Nat
def pcD (p : Pc) : D := .tup [.int p.1, .int p.2]
def pcs (ps : List Pc) : R := .v (.tup (ps.map pcD))
theorem is_piece_ev {p : Pc} (h1 : 1 ≤ p.1) (h2 : p.1 ≤ 1440) (h3 : 1 ≤ p.2) (h4 : p.2 ≤ p.1) (st : Sto) : f_is_piece [.v (pcD p)] st = some (.v (.bl true), st) := by
  have a1 := between_yes (a := p.1) (lo := 1) (hi := 1440) (by omega) (by omega)
  have a2 := between_yes (a := p.2) (lo := 1) (hi := p.1) (by omega) (by omega)
  simp [f_is_piece, runFn_ap, m_is_piece, pcD, a1, a2]
/-! drawn numbers -/
def PotAt (n B : Nat) (st : Sto) : Prop := ∃ a b c : Int, st[n]? = some (.lst [.int a, .int b, .int c]) ∧ 0 ≤ a ∧ 0 ≤ b ∧ b < 2305843009213693952 ∧ 0 ≤ c ∧ c ≤ B
theorem take_ev {n B : Nat} {st : Sto} {u : Int} (h : PotAt n B st) (hB : B ≤ 1000000) (h0 : 0 < u) (h1 : u < 1000000) :
    ∃ (r : Int) (st' : Sto), f__law_take [.v (.obj n), .v (.int u)] st = some (.v (.int r), st') ∧ 0 ≤ r ∧ r < u ∧ PotAt n (B + 1) st' := by
  obtain ⟨a, b, c, hp, ha, hb, hb2, hc, hcB⟩ := h
  have hlt : n < st.length := (List.getElem?_eq_some_iff.mp hp).1
  have hst : stAt n st = some [.int a, .int b, .int c] := by simp [stAt, hp]
  have hix : ∀ i, gIx (.v (.obj n)) (.v (.int i)) st = M.ofO ((L2.atI [D.int a, .int b, .int c] i).map .v) st := fun i => gIx_st hp
  by_cases hpos : 0 < a
  · refine ⟨a.fmod u, st.set n (.lst [.int (a.fdiv u), .int b, .int c]), ?_, ?_, ?_, a.fdiv u, b, c, ?_, ?_, hb, hb2, hc, by omega⟩
    · simp (disch := first | omega | (simp; done) | (simp; omega)) [f__law_take, runFn_ap, m__law_take, hix, hpos, gItem, bind_bo, lstNo, hst]
    · exact (fmod_nn a h0).1
    · exact (fmod_nn a h0).2
    · rw [List.getElem?_set_self hlt]
    · exact (fdiv_nn ha h0).1
  · obtain ⟨p, hp1, hp2, hp3⟩ : ∃ p : Int, L2.atI [D.int 2147483647, .int 2147483629, .int 2147483587, .int 2147483579, .int 2147483563] ((c + 1).fmod 5) = some (.int p) ∧ 0 < p ∧ p < 2147483648 := by
      have h5 := fmod_nn (c + 1) (show (0 : Int) < 5 by decide)
      generalize (c + 1).fmod 5 = k at h5
      have : k = 0 ∨ k = 1 ∨ k = 2 ∨ k = 3 ∨ k = 4 := by omega
      rcases this with rfl | rfl | rfl | rfl | rfl <;> exact ⟨_, rfl, by decide, by decide⟩
    have hq : 0 ≤ 90647 * (c + 1) * (c + 1) ∧ 90647 * (c + 1) * (c + 1) ≤ 100000000000000000 := by
      have e1 : 0 ≤ (c + 1) * (c + 1) := Int.mul_nonneg (by omega) (by omega)
      have e2 : (c + 1) * (c + 1) ≤ 1000001 * 1000001 := Int.mul_le_mul (by omega) (by omega) (by omega) (by omega)
      rw [Int.mul_assoc]
      omega
    obtain ⟨m1, hm1⟩ : ∃ m1, ((b + 90647 * (c + 1) * (c + 1) + 239) ^ 3).fmod p = m1 := ⟨_, rfl⟩
    have hm2 := fmod_nn ((b + 90647 * (c + 1) * (c + 1) + 239) ^ 3) hp2
    rw [hm1] at hm2
    have hix2 : ∀ i, gIx (.v (.obj n)) (.v (.int i)) (st.set n (.lst [.int a, .int b, .int (c + 1)])) = M.ofO ((L2.atI [D.int a, .int b, .int (c + 1)] i).map .v) (st.set n (.lst [.int a, .int b, .int (c + 1)])) := fun i => gIx_st (List.getElem?_set_self hlt)
    refine ⟨(Int.fdiv ((m1 * (m1.fmod 10391 + 331 * (c + 1))).fmod 2305843009213693907) 283).fmod u, st.set n (.lst [.int a, .int b, .int (c + 1)]), ?_, (fmod_nn _ h0).1, (fmod_nn _ h0).2, a, b, c + 1, List.getElem?_set_self hlt, ha, hb, hb2, by omega, by omega⟩
    simp (disch := first | omega | (simp; done) | (simp; omega)) [f__law_take, runFn_ap, m__law_take, hix, hix2, hpos, gItem, bind_bo, lstNo, hst, hp1, hm1]
end K80
namespace K80
open Mi
/-! ### the drawn pieces -/
def Good (p : Pc) : Prop := (p.1 = 3 ∨ p.1 = 4 ∨ p.1 = 6 ∨ p.1 = 8 ∨ p.1 = 12 ∨ p.1 = 24) ∧ 1 ≤ p.2 ∧ (p.2 = 1 ∨ p.2 * 3 ≤ p.1)
theorem Good.bd {p : Pc} (h : Good p) : 3 ≤ p.1 ∧ p.1 ≤ 24 ∧ 1 ≤ p.2 ∧ p.2 < p.1 ∧ p.2 ≤ 8 := by
  obtain ⟨h1, h2, h3⟩ := h
  omega
def stD (s : Nat) : D := .int (s : Int)
def sts (ss : List Nat) : R := .v (.tup (ss.map stD))
/-- two pieces clash -/
def dc (p q : Pc) (s t : Nat) : Bool := decide (((t : Int) - s).fmod (Nat.gcd p.1 q.1 : Nat) < p.2) || decide (((s : Int) - t).fmod (Nat.gcd p.1 q.1 : Nat) < q.2)
theorem do_clash_ev (p q : Pc) (s t : Nat) (hp : Good p) (st : Sto) : f_do_clash [.v (pcD p), .v (stD s), .v (pcD q), .v (stD t)] st = some (.v (.bl (dc p q s t)), st) := by
  have hg : (Nat.gcd p.1 q.1 : Nat) ≠ 0 := by
    have := hp.bd
    exact Nat.gcd_ne_zero_left (by omega)
  have hg2 : ((Nat.gcd p.1 q.1 : Nat) : Int) ≠ 0 := by omega
  unfold pcD stD dc
  simp [f_do_clash, runFn_ap, m_do_clash, common_ev, hg]
  cases h : decide (((t : Int) - s).fmod (Nat.gcd p.1 q.1 : Nat) < p.2) <;> simp [hg]
theorem at_work_ev (p : Pc) (s : Int) (m : Int) (hp : Good p) (st : Sto) : f_is_at_work [.v (pcD p), .v (.int s), .v (.int m)] st = some (.v (.bl (decide ((m - s).fmod (p.1 : Int) < p.2))), st) := by
  have := hp.bd
  have h1 : p.1 ≠ 0 := by omega
  unfold pcD
  simp [f_is_at_work, runFn_ap, m_is_at_work, h1]
/-! ### the checks -/
theorem check_pieces_ev {ps : List Pc} (h0 : 0 < ps.length) (h5 : ps.length ≤ 5) (hg : ∀ p ∈ ps, Good p) (st : Sto) : f_check_pieces [pcs ps] st = some (.v .non, st) := by
  obtain ⟨ds, hc, ha⟩ : ∃ ds, compL tr1 g1_check_pieces tTrue e1_check_pieces [some (pcs ps), none] (ps.map pcD) [] st = some (ds, st) ∧ bAll [.l (.lst ds)] st = some (.v (.bl true), st) := by
    refine ⟨(ps.map fun _ => true).map .bl, ?_, by rw [bAll_l]; simp⟩
    rw [comp_pure (fun _ => some (.bl true)) trivial (by simp; omega)]
    · simp [List.filterMap_map, Function.comp_def]
    · intro d hd
      obtain ⟨p, hp, rfl⟩ := List.mem_map.mp hd
      have := (hg p hp).bd
      refine ⟨_, by simp [g1_check_pieces]; rfl, .inr ⟨by simp, _, ?_, rfl⟩⟩
      simp [e1_check_pieces, is_piece_ev (p := p) (by omega) (by omega) (by omega) (by omega)]
  have hl2 : (ps.length : Int) ≤ 5 := by omega
  unfold pcs at *
  simp [f_check_pieces, runFn_ap, m_check_pieces, wipeE, h0, hl2, hc, ha]
/-! ### the arcs -/
def arc1 (p : Pc) (s : Nat) : List Pc := (List.range (24 / p.1)).map fun k => ((s + p.1 * k) % 24, p.2)
def arcs (ps : List Pc) (ss : List Nat) : List Pc := ((ps.zip ss).map fun x => arc1 x.1 x.2).flatten
theorem zipD_zip (ps : List Pc) (ss : List Nat) : zipD (ps.map pcD) (ss.map stD) = (ps.zip ss).map fun x => D.tup [pcD x.1, stD x.2] := by
  induction ps generalizing ss with
  | nil => rfl
  | cons p ps ih => cases ss with
    | nil => rfl
    | cons s ss => simp [zipD, ih]
theorem arc1_len {p : Pc} (h : Good p) (s : Nat) : (arc1 p s).length ≤ 8 := by
  (unfold arc1); rw [List.length_map, List.length_range]
  have := h.bd
  have : 24 / p.1 ≤ 24 / 3 := Nat.div_le_div_left (by omega) (by omega)
  omega
theorem arcs_len {ps : List Pc} (hg : ∀ p ∈ ps, Good p) (ss : List Nat) : (arcs ps ss).length ≤ 8 * ps.length := by
  induction ps generalizing ss with
  | nil => simp [arcs]
  | cons p ps ih => cases ss with
    | nil => simp [arcs]
    | cons s ss =>
      have h1 := ih (fun q hq => hg q (by simp [hq])) ss
      have h2 := arc1_len (hg p (by simp)) s
      have e : arcs (p :: ps) (s :: ss) = arc1 p s ++ arcs ps ss := by simp [arcs]
      (rw [e, List.length_append, List.length_cons]); omega
theorem arc1_ev (p : Pc) (s : Nat) (hp : Good p) (x0 x1 x2 : Option R) (st : Sto) :
    compL tr1 g1__law_arcs_of tTrue e1__law_arcs_of
      [x0, x1, x2, some (.v (.int s)), some (.v (.int p.1)), some (.v (.int p.2)), none] (rangeD 0 (Int.fdiv 24 p.1).toNat) [] st = some ((arc1 p s).map pcD, st) := by
  have hb := hp.bd
  have e : (Int.fdiv 24 (p.1 : Int)).toNat = 24 / p.1 := by
    rw [Int.fdiv_eq_ediv_of_nonneg _ (by omega)]
    exact Int.toNat_natCast (24 / p.1)
  have hn : 24 / p.1 ≤ 24 := Nat.div_le_self _ _
  rw [e, comp_pure (fun d => match d with | .int k => some (.tup [.int ((s + p.1 * k).fmod 24), .int p.2]) | _ => none) trivial (by simp [rangeD]; omega)]
  · congr 2
    unfold rangeD arc1
    rw [List.nil_append, List.filterMap_map, List.map_map, ← List.filterMap_eq_map]
    congr 1
    funext k
    simp only [Function.comp]
    congr 1
    unfold pcD
    congr 4
    (rw [Int.fmod_eq_emod_of_nonneg _ (by omega)]); simp
  · intro d hd
    obtain ⟨k, hk, rfl⟩ := List.mem_map.mp hd
    refine ⟨_, by simp [g1__law_arcs_of]; rfl, .inr ⟨by simp, _, ?_, rfl⟩⟩
    have h1 : p.1 ≤ 1000000 := by omega
    simp [e1__law_arcs_of, h1]
def apre (ps : List Pc) (ss : List Nat) (i : Nat) : List D := (((ps.zip ss).take i).map fun x => arc1 x.1 x.2).flatten.map pcD
theorem apre_zero (ps : List Pc) (ss : List Nat) : apre ps ss 0 = [] := by simp [apre]
theorem apre_end (ps : List Pc) (ss : List Nat) : apre ps ss (ps.zip ss).length = (arcs ps ss).map pcD := by
  unfold apre arcs
  rw [List.take_length]
theorem apre_succ {ps : List Pc} {ss : List Nat} {i : Nat} {z : Pc × Nat} (q : (ps.zip ss)[i]? = some z) : apre ps ss (i + 1) = apre ps ss i ++ (arc1 z.1 z.2).map pcD := by
  unfold apre
  rw [List.take_add_one, q]
  simp
theorem apre_len {ps : List Pc} (hg : ∀ p ∈ ps, Good p) (ss : List Nat) (i : Nat) : (apre ps ss i).length ≤ 8 * ps.length := by
  have h := arcs_len hg ss
  refine Nat.le_trans ?_ h
  unfold apre arcs
  rw [List.length_map, List.length_flatten, List.length_flatten, List.map_map, List.map_map, ← List.take_append_drop i (ps.zip ss)]
  rw [List.take_append_drop i (ps.zip ss)]
  conv => rhs; rw [← List.take_append_drop i (ps.zip ss), List.map_append, List.sum_append]
  omega
theorem arcs_loop {ps : List Pc} {ss : List Nat} (hg : ∀ p ∈ ps, Good p) (h5 : ps.length ≤ 5) (x y : Option R) (st : Sto) : ∃ L e s, L = (arcs ps ss).map pcD ∧ s = st ∧
    forL tr1 g2__law_arcs_of b1__law_arcs_of ((ps.zip ss).map fun x => D.tup [pcD x.1, stD x.2]) [x, y, some (.l (.lst [])), none, none, none, none] st = some (.nx (x :: y :: some (.l (.lst L)) :: e), s) := by
  have hf := for_inv (ck := tr1) (g := g2__law_arcs_of) (b := b1__law_arcs_of) (ds := (ps.zip ss).map fun x => D.tup [pcD x.1, stD x.2]) (env := [x, y, some (.l (.lst [])), none, none, none, none]) (st := st)
    (fun i e s => s = st ∧ ∃ x3 x4 x5, e = [x, y, some (.l (.lst (apre ps ss i))), x3, x4, x5, none]) ?step (fun _ _ _ => trivial) ⟨rfl, none, none, none, by rw [apre_zero]⟩
  case step =>
    rintro i d e s hd ⟨rfl, x3, x4, x5, rfl⟩
    rw [List.getElem?_map] at hd
    cases q : (ps.zip ss)[i]? with
    | none => rw [q] at hd; cases hd
    | some z =>
      rw [q] at hd
      cases hd
      have hz : z.1 ∈ ps := (List.of_mem_zip (List.mem_of_getElem? q)).1
      have hp := hg _ hz
      have hb := hp.bd
      have a1 := arc1_ev z.1 z.2 hp
      have h2 : (Int.fdiv 24 (z.1.1 : Int)) ≤ 24 := (fdiv_nn (by decide) (by omega)).2
      have h3 : 0 ≤ (Int.fdiv 24 (z.1.1 : Int)) := (fdiv_nn (by decide) (by omega)).1
      have h8 := gFdiv_ap (i := 24) (s := s) (show ((z.1.1 : Nat) : Int) ≠ 0 by omega) (by omega) (by omega)
      have h9 := ra1_ap (s := s) (show -4611686018427387904 ≤ (Int.fdiv 24 (z.1.1 : Int)) by omega) (by omega)
      have hl : (apre ps ss i).length + ((arc1 z.1 z.2).map pcD).length ≤ 16777216 := by
        have := apre_len hg ss i
        have := arc1_len hp z.2
        rw [List.length_map]
        omega
      rw [apre_succ q]
      generalize apre ps ss i = A at *
      generalize (arc1 z.1 z.2).map pcD = B at *
      have hx := fExtend_l (s := s) hl
      exact turn_nx (I := fun e s' => s' = s ∧ ∃ x3 x4 x5, e = [x, y, some (.l (.lst (A ++ B))), x3, x4, x5, none]) trivial (by simp [g2__law_arcs_of, pcD, stD]; exact ⟨rfl, rfl⟩) (by simp [b1__law_arcs_of, h8, h9, wipeE, a1, hx]; and_intros <;> rfl) ⟨rfl, _, _, _, rfl⟩
  obtain ⟨e, s, he, rfl, x3, x4, x5, rfl⟩ := hf
  rw [List.length_map, apre_end] at he
  exact ⟨_, _, _, rfl, rfl, he⟩
theorem arcs_ev {ps : List Pc} {ss : List Nat} (hg : ∀ p ∈ ps, Good p) (h5 : ps.length ≤ 5) (x y : R) (hx : rdSlot x = x) (hy : rdSlot y = y) (hx2 : ∀ s, asIt x s = some (⟨ps.map pcD, tr1⟩, s)) (hy2 : ∀ s, asIt y s = some (⟨ss.map stD, tr1⟩, s)) (st : Sto) :
    f__law_arcs_of [x, y] st = some (.v (.tup ((arcs ps ss).map pcD)), st) := by
  obtain ⟨L, e, _, hL, rfl, he⟩ := arcs_loop (ss := ss) hg h5 (some x) (some y) st
  simp [f__law_arcs_of, runFn_ap, m__law_arcs_of, hx, hy, hx2, hy2, zipD_zip, he, hL]
end K80
namespace K80
open Mi
@[simp] theorem stD_ap (s : Nat) : stD s = .int (s : Int) := Eq.trans rfl rfl
@[simp] theorem pcD_0 (p : Pc) (s : Sto) : gIx (.v (pcD p)) (.v (.int 0)) s = some (.v (.int p.1), s) := Eq.trans rfl rfl
@[simp] theorem pcD_1 (p : Pc) (s : Sto) : gIx (.v (pcD p)) (.v (.int 1)) s = some (.v (.int p.2), s) := Eq.trans rfl rfl
@[simp] theorem pcD_len (p : Pc) (s : Sto) : bLen [.v (pcD p)] s = some (.v (.int 2), s) := Eq.trans rfl rfl
@[simp] theorem pcD_tup (p : Pc) (s : Sto) : gIsT "tuple" (.v (pcD p)) s = some (.v (.bl true), s) := Eq.trans rfl rfl
/-- starts that fit -/
def Stt (ps : List Pc) (ss : List Nat) : Prop := ss.length = ps.length ∧ ∀ x ∈ ss.zip ps, x.1 < x.2.1
theorem zipD_zip2 (ps : List Pc) (ss : List Nat) : zipD (ss.map stD) (ps.map pcD) = (ss.zip ps).map fun x => D.tup [D.int x.1, pcD x.2] := by
  induction ps generalizing ss with
  | nil => cases ss <;> rfl
  | cons p ps ih => cases ss with
    | nil => rfl
    | cons s ss =>
      rw [List.map_cons, List.map_cons, List.zip_cons_cons, List.map_cons, ← ih]
      rfl
theorem are_starts_ev {ps : List Pc} {ss : List Nat} (h5 : ps.length ≤ 5) (h : Stt ps ss) (st : Sto) : f_are_starts [pcs ps, sts ss] st = some (.v (.bl true), st) := by
  obtain ⟨ds, hc, ha⟩ : ∃ ds, compL tr1 g1_are_starts tTrue e1_are_starts [some (pcs ps), some (sts ss), none, none, none] ((ss.zip ps).map fun x => D.tup [D.int x.1, pcD x.2]) [] st = some (ds, st) ∧ bAll [.l (.lst ds)] st = some (.v (.bl true), st) := by
    refine ⟨((ss.zip ps).map fun _ => true).map .bl, ?_, by rw [bAll_l]; simp⟩
    rw [comp_pure (fun _ => some (.bl true)) trivial (by simp; omega)]
    · simp [List.filterMap_map, Function.comp_def]
    · intro d hd
      obtain ⟨x, hx, rfl⟩ := List.mem_map.mp hd
      have hlt := h.2 x hx
      have hb := between_yes (a := x.1) (lo := 0) (hi := (x.2.1 : Int) - 1) (by omega) (by omega)
      refine ⟨_, by simp [g1_are_starts, pcD]; rfl, .inr ⟨by simp, _, ?_, rfl⟩⟩
      simp [e1_are_starts, hb]
  have hl := h.1
  have hl2 : (ss.length : Int) = (ps.length : Int) := by omega
  unfold pcs sts at *
  simp [f_are_starts, runFn_ap, m_are_starts, wipeE, zipD_zip2, hc, ha, hl2]
/-! ### the first minute -/
def mins (p : Pc) (s : Nat) (q : Pc) : List Int := (List.range (q.1 / Nat.gcd p.1 q.1)).map fun k : Nat => (s : Int) + p.1 * (k : Nat)
def aw (q : Pc) (t : Nat) (m : Int) : Bool := decide ((m - t).fmod (q.1 : Int) < q.2)
def fnd (p : Pc) (s : Nat) (q : Pc) (t : Nat) : List Int := ((mins p s q).filter (aw q t)).take 1
theorem cut1 (ds : List D) : cutD ds none (some 1) = ds.take 1 := by
  unfold cutD
  rw [HT.sIx_none, show (1 : Int) = ((1 : Nat) : Int) from rfl, HT.sIx_nat, List.drop_zero]
  cases ds with
  | nil => rfl
  | cons d ds => simp
theorem mins_ev (p : Pc) (s : Nat) (q : Pc) (hp : Good p) (hq : Good q) (x0 x1 x2 x3 x4 x7 x8 x9 x11 : Option R) (st : Sto) :
    compL tr1 g1_first_minute tTrue e1_first_minute [x0, x1, x2, x3, x4, some (.v (pcD p)), some (.v (.int s)), x7, x8, x9, none, x11] (rangeD 0 (Int.fdiv q.1 (Nat.gcd p.1 q.1 : Nat)).toNat) [] st = some ((mins p s q).map .int, st) := by
  have hb := hp.bd
  have hb2 := hq.bd
  have e : (Int.fdiv (q.1 : Int) ((Nat.gcd p.1 q.1 : Nat) : Int)).toNat = q.1 / Nat.gcd p.1 q.1 := by
    rw [Int.fdiv_eq_ediv_of_nonneg _ (by omega)]
    exact Int.toNat_natCast (q.1 / Nat.gcd p.1 q.1)
  have hn : q.1 / Nat.gcd p.1 q.1 ≤ 24 := Nat.le_trans (Nat.div_le_self _ _) hb2.2.1
  rw [e, comp_pure (fun d => match d with | .int k => some (.int ((s : Int) + p.1 * k)) | _ => none) trivial (by simp [rangeD]; omega)]
  · congr 2
    unfold rangeD mins
    rw [List.nil_append, List.filterMap_map, List.map_map, ← List.filterMap_eq_map]
    congr 1
    funext k
    simp
  · intro d hd
    obtain ⟨k, hk, rfl⟩ := List.mem_map.mp hd
    have h1 : p.1 ≤ 1000000 := by omega
    refine ⟨_, by simp [g1_first_minute]; rfl, .inr ⟨by simp, _, by simp [e1_first_minute, h1]; rfl, by simp⟩⟩
theorem filt_ev (q : Pc) (t : Nat) (hq : Good q) (ms : List Int) (hl : ms.length ≤ 1000) (x0 x1 x2 x3 x4 x5 x6 x9 x10 : Option R) (st : Sto) :
    compL tr1 g2_first_minute c1_first_minute e2_first_minute [x0, x1, x2, x3, x4, x5, x6, some (.v (pcD q)), some (.v (.int t)), x9, x10, none] (ms.map .int) [] st = some ((ms.filter (aw q t)).map .int, st) := by
  rw [comp_pure (fun d => match d with | .int k => if aw q t k = true then some (.int k) else none | _ => none) trivial (by simp; omega)]
  · congr 2
    rw [List.nil_append, List.filterMap_map]
    induction ms with
    | nil => rfl
    | cons m ms ih =>
      have ih := ih (by simp at hl; omega)
      by_cases h : aw q t m = true
      · rw [List.filterMap_cons_some (b := .int m) (by simp [h]), List.filter_cons_of_pos h, List.map_cons, ih]
      · rw [List.filterMap_cons_none (by simp [h]), List.filter_cons_of_neg h, ih]
  · intro d hd
    obtain ⟨k, hk, rfl⟩ := List.mem_map.mp hd
    have e := at_work_ev q t k hq st
    refine ⟨_, by simp [g2_first_minute]; rfl, ?_⟩
    by_cases h : aw q t k = true
    · refine .inr ⟨?_, .int k, by simp [e2_first_minute], by simp [h]⟩
      unfold aw at h
      simp [c1_first_minute, e, h]
    · refine .inl ⟨?_, by simp [h]⟩
      unfold aw at h
      simp [c1_first_minute, e, h]
theorem first_step (p q : Pc) (s t : Nat) (hp : Good p) (hq : Good q) (x0 x1 x2 x3 y5 y6 y7 y8 y9 : Option R) (L : List Int) (hL : L.length ≤ 10) (st : Sto) :
    ∃ z1 z2 z3 z4 z5, ∀ ds, forL tr1 g3_first_minute b1_first_minute (.tup [pcD p, .int s, pcD q, .int t] :: ds) [x0, x1, x2, x3, some (.l (.lst (L.map .int))), y5, y6, y7, y8, y9, none, none] st =
      forL tr1 g3_first_minute b1_first_minute ds [x0, x1, x2, x3, some (.l (.lst ((L ++ fnd p s q t).map .int))), z1, z2, z3, z4, z5, none, none] st := by
  have hb := hp.bd
  have hb2 := hq.bd
  have hg : 0 < Nat.gcd p.1 q.1 := Nat.gcd_pos_of_pos_left _ (by omega)
  have hg2 : Nat.gcd p.1 q.1 ≤ p.1 := Nat.gcd_le_left _ (by omega)
  have hn : q.1 / Nat.gcd p.1 q.1 ≤ 24 := Nat.le_trans (Nat.div_le_self _ _) hb2.2.1
  have h8 := gFdiv_ap (i := q.1) (s := st) (show ((Nat.gcd p.1 q.1 : Nat) : Int) ≠ 0 by omega) (by omega) (by omega)
  have h2 : Int.fdiv (q.1 : Int) (Nat.gcd p.1 q.1 : Nat) ≤ q.1 := (fdiv_nn (by omega) (by omega)).2
  have h3 : 0 ≤ Int.fdiv (q.1 : Int) (Nat.gcd p.1 q.1 : Nat) := (fdiv_nn (by omega) (by omega)).1
  have h9 := ra1_ap (s := st) (show -4611686018427387904 ≤ Int.fdiv (q.1 : Int) (Nat.gcd p.1 q.1 : Nat) by omega) (by omega)
  have a1 := mins_ev p s q hp hq
  have hml : (mins p s q).length ≤ 1000 := by
    unfold mins
    simp
    omega
  have a2 := filt_ev q t hq (mins p s q) hml
  have hf : (L.map D.int).length + (((mins p s q).filter (aw q t)).map D.int |>.take 1).length ≤ 16777216 := by
    simp
    omega
  have hx := fExtend_l (s := st) hf
  have e1 : L.map D.int ++ (((mins p s q).filter (aw q t)).map D.int |>.take 1) = (L ++ fnd p s q t).map D.int := by
    rw [List.map_append, ← List.map_take]
    rfl
  rw [← e1]
  generalize L.map D.int = A at *
  generalize (mins p s q).map D.int = B at *
  generalize ((mins p s q).filter (aw q t)).map D.int = C at *
  refine ⟨some (.v (pcD p)), some (.v (.int s)), some (.v (pcD q)), some (.v (.int t)), some (.b (.lst B)), fun ds => ?_⟩
  rw [for_nx (e2 := [x0, x1, x2, x3, some (.l (.lst (A ++ C.take 1))), some (.v (pcD p)), some (.v (.int s)), some (.v (pcD q)), some (.v (.int t)), some (.b (.lst B)), none, none]) (s2 := st) trivial (by simp [g3_first_minute]; and_intros <;> rfl)
    (by simp [b1_first_minute, common_ev, h8, h9, wipeE, a1, a2, cut1, hx])]
end K80
namespace K80
open Mi
/-! ### the numbers -/
def Es : List Nat := [3, 4, 6, 8, 12, 24]
theorem Good.es {p : Pc} (h : Good p) : p.1 ∈ Es := by
  obtain ⟨h1, _⟩ := h
  simp only [Es, List.mem_cons, List.not_mem_nil, or_false]
  exact h1
theorem laps_fin : (Es.all fun e => Es.all fun f => (List.range f).all fun d => (List.range (f / Nat.gcd e f)).any fun k => (d + e * k) % f == d % Nat.gcd e f) = true := by decide +kernel
/-- some lap of the one comes as near to the other as can be -/
theorem laps {p q : Pc} (hp : Good p) (hq : Good q) (d : Int) : ∃ k : Nat, k < q.1 / Nat.gcd p.1 q.1 ∧ (d + p.1 * (k : Nat)).fmod (q.1 : Int) = d.fmod (Nat.gcd p.1 q.1 : Nat) := by
  have hb := hp.bd
  have hb2 := hq.bd
  have h := laps_fin
  rw [List.all_eq_true] at h
  have h := h _ hp.es
  rw [List.all_eq_true] at h
  have h := h _ hq.es
  rw [List.all_eq_true] at h
  have hd0 := Int.emod_nonneg d (show (q.1 : Int) ≠ 0 by omega)
  have hd1 := Int.emod_lt_of_pos d (show (0 : Int) < q.1 by omega)
  obtain ⟨r, hr⟩ := Int.eq_ofNat_of_zero_le hd0
  have h := h r (List.mem_range.mpr (by omega))
  rw [List.any_eq_true] at h
  obtain ⟨k, hk, h⟩ := h
  rw [List.mem_range] at hk
  have h := eq_of_beq h
  refine ⟨k, hk, ?_⟩
  have hg : 0 < Nat.gcd p.1 q.1 := Nat.gcd_pos_of_pos_left _ (by omega)
  rw [Int.fmod_eq_emod_of_nonneg _ (by omega), Int.fmod_eq_emod_of_nonneg _ (by omega)]
  have e1 : (d + p.1 * (k : Nat)) % (q.1 : Int) = ((r + p.1 * k) % q.1 : Nat) := by
    rw [← Int.emod_add_emod, hr]
    simp
  have e2 : d % ((Nat.gcd p.1 q.1 : Nat) : Int) = (r % Nat.gcd p.1 q.1 : Nat) := by
    rw [← Int.emod_emod_of_dvd d (show ((Nat.gcd p.1 q.1 : Nat) : Int) ∣ (q.1 : Int) from Int.natCast_dvd_natCast.mpr (Nat.gcd_dvd_right _ _)), hr]
    simp
  rw [e1, e2, h]
theorem mem_mins {p q : Pc} {s : Nat} {m : Int} (h : m ∈ mins p s q) : ∃ k : Nat, m = s + p.1 * (k : Nat) := by
  unfold mins at h
  rw [List.mem_map] at h
  obtain ⟨k, _, rfl⟩ := h
  exact ⟨k, rfl⟩
theorem own_at {p q : Pc} {s : Nat} {m : Int} (hp : Good p) (h : m ∈ mins p s q) : aw p s m = true ∧ 0 ≤ m := by
  have hb := hp.bd
  obtain ⟨k, rfl⟩ := mem_mins h
  have hk : 0 ≤ (p.1 : Int) * (k : Nat) := Int.mul_nonneg (by omega) (by omega)
  refine ⟨?_, by omega⟩
  unfold aw
  (rw [Int.fmod_eq_emod_of_nonneg _ (by omega), show (s : Int) + p.1 * (k : Nat) - s = p.1 * (k : Nat) by omega, Int.mul_emod_right]); exact decide_eq_true (by omega)
theorem fnd_mem {p q : Pc} {s t : Nat} {m : Int} (hp : Good p) (h : m ∈ fnd p s q t) : aw p s m = true ∧ aw q t m = true ∧ 0 ≤ m := by
  unfold fnd at h
  have h := List.mem_of_mem_take h
  rw [List.mem_filter] at h
  have := own_at hp h.1
  exact ⟨this.1, h.2, this.2⟩
theorem fnd_ne {p q : Pc} {s t : Nat} (hp : Good p) (hq : Good q) (h : ((s : Int) - t).fmod (Nat.gcd p.1 q.1 : Nat) < q.2) : fnd p s q t ≠ [] := by
  obtain ⟨k, hk, e⟩ := laps hp hq ((s : Int) - t)
  have hm : ((s : Int) + p.1 * (k : Nat)) ∈ (mins p s q).filter (aw q t) := by
    rw [List.mem_filter]
    refine ⟨List.mem_map.mpr ⟨k, List.mem_range.mpr hk, rfl⟩, ?_⟩
    unfold aw
    rw [show (s : Int) + p.1 * (k : Nat) - t = (s : Int) - t + p.1 * (k : Nat) by omega, e]
    exact decide_eq_true h
  unfold fnd
  cases q2 : (mins p s q).filter (aw q t) with
  | nil => rw [q2] at hm; cases hm
  | cons a l => simp
theorem aw_ev (p : Pc) (s : Nat) (m : Int) (hp : Good p) (st : Sto) : f_is_at_work [.v (pcD p), .v (.int s), .v (.int m)] st = some (.v (.bl (aw p s m)), st) := at_work_ev p s m hp st
theorem fnd_len (p : Pc) (s : Nat) (q : Pc) (t : Nat) : (fnd p s q t).length ≤ 1 := by
  unfold fnd
  rw [List.length_take]
  omega
theorem first_ev {p q : Pc} {s t : Nat} (hp : Good p) (hq : Good q) (h : dc p q s t = true) (st : Sto) : ∃ m : Int, f_first_minute [.v (pcD p), .v (.int s), .v (pcD q), .v (.int t)] st = some (.v (.int m), st) ∧ aw p s m = true ∧ aw q t m = true ∧ 0 ≤ m := by
  have e1 := aw_ev p s 0 hp
  have e2 := aw_ev q t 0 hq
  by_cases h1 : aw p s 0 = true ∧ aw q t 0 = true
  · exact ⟨0, by simp [f_first_minute, runFn_ap, m_first_minute, e1, e2, h1.1, h1.2], h1.1, h1.2, by omega⟩
  · obtain ⟨z1, z2, z3, z4, z5, f1⟩ := first_step p q s t hp hq (some (.v (pcD p))) (some (.v (.int s))) (some (.v (pcD q))) (some (.v (.int t))) none none none none none [] (by simp) st
    obtain ⟨y1, y2, y3, y4, y5, f2⟩ := first_step q p t s hq hp (some (.v (pcD p))) (some (.v (.int s))) (some (.v (pcD q))) (some (.v (.int t))) z1 z2 z3 z4 z5 (fnd p s q t) (by have := fnd_len p s q t; omega) st
    have f3 := f1 [.tup [pcD q, .int t, pcD p, .int s]]
    rw [List.nil_append, f2, for_nil trivial, List.map_nil] at f3
    have hne : fnd p s q t ++ fnd q t p s ≠ [] := by
      unfold dc at h
      rw [Bool.or_eq_true] at h
      intro z
      rw [List.append_eq_nil_iff] at z
      rcases h with h | h
      · rw [Nat.gcd_comm] at h
        exact fnd_ne hq hp (of_decide_eq_true h) z.2
      · exact fnd_ne hp hq (of_decide_eq_true h) z.1
    have hm := minL_mem hne
    refine ⟨minL (fnd p s q t ++ fnd q t p s), ?_, ?_⟩
    · have hmin := bMin_o (s := st) hne
      generalize (fnd p s q t ++ fnd q t p s).map D.int = A at *
      by_cases h2 : aw p s 0 = true
      · have h3 : aw q t 0 = false := by simpa [h2] using h1
        simp [f_first_minute, runFn_ap, m_first_minute, e1, e2, h2, h3, f3, hmin]
      · have h2 : aw p s 0 = false := by simpa using h2
        simp [f_first_minute, runFn_ap, m_first_minute, e1, e2, h2, f3, hmin]
    · rcases List.mem_append.mp hm.1 with z | z
      · exact fnd_mem hp z
      · have := fnd_mem hq z
        exact ⟨this.2.1, this.1, this.2.2⟩
end K80
namespace K80
open Mi
/-! ### the first pair that clashes -/
def pat (ps : List Pc) (i : Nat) : Pc := ps.getD i (3, 1)
def sat (ss : List Nat) (i : Nat) : Nat := ss.getD i 0
def D2 (ps : List Pc) (ss : List Nat) (i j : Nat) : Bool := dc (pat ps i) (pat ps j) (sat ss i) (sat ss j)
theorem pat_good {ps : List Pc} (hg : ∀ p ∈ ps, Good p) (i : Nat) : Good (pat ps i) := by
  unfold pat
  (rw [List.getD_eq_getElem?_getD]); cases q : ps[i]? with
  | none => exact ⟨.inl rfl, Nat.le_refl _, .inl rfl⟩
  | some p => exact hg p (List.mem_of_getElem? q)
theorem ixP {ps : List Pc} {i : Nat} (h : i < ps.length) (s : Sto) : gIx (pcs ps) (.v (.int (i : Int))) s = some (.v (pcD (pat ps i)), s) := by
  unfold pcs pat
  rw [gIx_tup, atI_nat, List.getElem?_map, List.getD_eq_getElem?_getD, List.getElem?_eq_getElem h]
  rfl
theorem ixS {ss : List Nat} {i : Nat} (h : i < ss.length) (s : Sto) : gIx (sts ss) (.v (.int (i : Int))) s = some (.v (.int (sat ss i : Nat)), s) := by
  unfold sts sat
  rw [gIx_tup, atI_nat, List.getElem?_map, List.getD_eq_getElem?_getD, List.getElem?_eq_getElem h]
  rfl
@[simp] theorem rd_p (ps : List Pc) : rdSlot (pcs ps) = pcs ps := Eq.trans rfl rfl
@[simp] theorem rd_s (ss : List Nat) : rdSlot (sts ss) = sts ss := Eq.trans rfl rfl
@[simp] theorem le_p (ps : List Pc) : lend (pcs ps) = pcs ps := Eq.trans rfl rfl
@[simp] theorem le_s (ss : List Nat) : lend (sts ss) = sts ss := Eq.trans rfl rfl
@[simp] theorem ln_p (ps : List Pc) (s : Sto) : bLen [pcs ps] s = some (.v (.int ps.length), s) := by
  unfold pcs
  rw [bLen_t, List.length_map]
@[simp] theorem ln_s (ss : List Nat) (s : Sto) : bLen [sts ss] s = some (.v (.int ss.length), s) := by
  unfold sts
  rw [bLen_t, List.length_map]
@[simp] theorem it_p (ps : List Pc) (s : Sto) : asIt (pcs ps) s = some (⟨ps.map pcD, tr1⟩, s) := Eq.trans rfl rfl
@[simp] theorem it_s (ss : List Nat) (s : Sto) : asIt (sts ss) s = some (⟨ss.map stD, tr1⟩, s) := Eq.trans rfl rfl
theorem dc_ev {ps : List Pc} (hg : ∀ p ∈ ps, Good p) (ss : List Nat) (i j : Nat) (s : Sto) : f_do_clash [.v (pcD (pat ps i)), .v (.int (sat ss i : Nat)), .v (pcD (pat ps j)), .v (.int (sat ss j : Nat))] s = some (.v (.bl (D2 ps ss i j)), s) :=
  do_clash_ev _ _ _ _ (pat_good hg i) s
/-- what clash tells of a pair -/
def Hit (ps : List Pc) (ss : List Nat) (i : Nat) (r : R) : Prop := ∃ (j : Nat) (m : Int), i < j ∧ j < ps.length ∧ r = .v (.tup [.int (i : Int), .int (j : Int), .int m]) ∧ D2 ps ss i j = true ∧ (∀ k, i < k → k < j → D2 ps ss i k = false) ∧
  aw (pat ps i) (sat ss i) m = true ∧ aw (pat ps j) (sat ss j) m = true ∧ 0 ≤ m
theorem clash_in {ps : List Pc} {ss : List Nat} (hg : ∀ p ∈ ps, Good p) (hl : ss.length = ps.length) (i : Nat) (hi : i < ps.length) (y : Option R) (st : Sto) :
    Ends (fun e s => s = st ∧ (∃ z, e = [some (pcs ps), some (sts ss), some (.v (.int (i : Int))), some (.v (pcD (pat ps i))), z]) ∧ ∀ k, i < k → k < ps.length → D2 ps ss i k = false) (fun r s => s = st ∧ Hit ps ss i r)
      (forL tr1 g1_clash b1_clash (rangeD ((i : Int) + 1) (ps.length - (i + 1))) [some (pcs ps), some (sts ss), some (.v (.int (i : Int))), some (.v (pcD (pat ps i))), y] st) := by
  have hf := for_post (ck := tr1) (g := g1_clash) (b := b1_clash) (ds := rangeD ((i : Int) + 1) (ps.length - (i + 1))) (env := [some (pcs ps), some (sts ss), some (.v (.int (i : Int))), some (.v (pcD (pat ps i))), y]) (st := st)
    (fun n e s => s = st ∧ (∃ z, e = [some (pcs ps), some (sts ss), some (.v (.int (i : Int))), some (.v (pcD (pat ps i))), z]) ∧ ∀ k, i < k → k < i + 1 + n → D2 ps ss i k = false) (fun r s => s = st ∧ Hit ps ss i r)
    ?step (fun _ _ _ => trivial) ⟨rfl, ⟨_, rfl⟩, fun k h1 h2 => by omega⟩
  case step =>
    rintro n d e s hd ⟨rfl, ⟨z, rfl⟩, hn⟩
    unfold rangeD at hd
    rw [List.getElem?_map] at hd
    have hlt : n < ps.length - (i + 1) := by
      rcases Nat.lt_or_ge n (ps.length - (i + 1)) with h | h
      · exact h
      · rw [List.getElem?_eq_none (by rw [List.length_range]; exact h)] at hd
        cases hd
    rw [List.getElem?_range hlt] at hd
    cases hd
    obtain ⟨j, hj⟩ : ∃ j, j = i + 1 + n := ⟨_, rfl⟩
    have ej : (i : Int) + 1 + (n : Nat) = (j : Int) := by omega
    simp only [ej]
    have hjl : j < ps.length := by omega
    have a1 := ixP hjl
    have a2 := ixS (ss := ss) (i := j) (by omega)
    have a3 := ixS (ss := ss) (i := i) (by omega)
    have a4 := dc_ev hg ss i j
    by_cases h : D2 ps ss i j = true
    · obtain ⟨m, hm, hm1, hm2, hm3⟩ := first_ev (pat_good hg i) (pat_good hg j) h s
      refine turn_r (I := fun e s' => s' = s ∧ (∃ z, e = [some (pcs ps), some (sts ss), some (.v (.int (i : Int))), some (.v (pcD (pat ps i))), z]) ∧ ∀ k, i < k → k < i + 1 + (n + 1) → D2 ps ss i k = false) (Rt := fun r s' => s' = s ∧ Hit ps ss i r)
        (r := .v (.tup [.int (i : Int), .int (j : Int), .int m])) (s2 := s) trivial (by simp [g1_clash]; and_intros <;> rfl) ?_ ⟨rfl, j, m, by omega, hjl, rfl, h, fun k h1 h2 => hn k h1 (by omega), hm1, hm2, hm3⟩
      simp [b1_clash, a1, a2, a3, a4, h, hm]
    · have h : D2 ps ss i j = false := by simpa using h
      refine turn_n (e2 := [some (pcs ps), some (sts ss), some (.v (.int (i : Int))), some (.v (pcD (pat ps i))), some (.v (.int (j : Int)))]) (s2 := s) trivial (by simp [g1_clash]; and_intros <;> rfl) ?_ ⟨rfl, ⟨_, rfl⟩, fun k h1 h2 => ?_⟩
      · simp [b1_clash, a1, a2, a3, a4, h]
      · by_cases e : k = j
        · rw [e]; exact h
        · exact hn k h1 (by omega)
  rcases hf with ⟨e, s, he, h1, h2, h3⟩ | h
  · rw [show (rangeD ((i : Int) + 1) (ps.length - (i + 1))).length = ps.length - (i + 1) by simp [rangeD]] at h3
    exact .inl ⟨e, s, he, h1, h2, fun k k1 k2 => h3 k k1 (by omega)⟩
  · exact .inr h
theorem enum_at {ds : List D} {i : Nat} {d : D} (h : (enumD 0 ds)[i]? = some d) : ∃ x, ds[i]? = some x ∧ d = .tup [.int (i : Int), x] := by
  cases q : ds[i]? with
  | none =>
    rw [List.getElem?_eq_none (by rw [enumD_length]; exact List.getElem?_eq_none_iff.mp q)] at h
    cases h
  | some x =>
    rw [enumD_get 0 ds i x q] at h
    cases h
    exact ⟨x, rfl, by simp⟩
theorem clash_ev {ps : List Pc} {ss : List Nat} (hg : ∀ p ∈ ps, Good p) (h0 : 0 < ps.length) (h5 : ps.length ≤ 5) (hS : Stt ps ss) (st : Sto) :
    (f_clash [pcs ps, sts ss] st = some (.v .non, st) ∧ ∀ i j, i < j → j < ps.length → D2 ps ss i j = false) ∨
    ∃ i r, f_clash [pcs ps, sts ss] st = some (r, st) ∧ Hit ps ss i r ∧ ∀ a b, a < i → a < b → b < ps.length → D2 ps ss a b = false := by
  have c1 := check_pieces_ev h0 h5 hg
  have c2 := are_starts_ev h5 hS
  have hf := for_post (ck := tr1) (g := g2_clash) (b := b2_clash) (ds := enumD 0 (ps.map pcD)) (env := [some (pcs ps), some (sts ss), none, none, none]) (st := st)
    (fun n e s => s = st ∧ (∃ x y z, e = [some (pcs ps), some (sts ss), x, y, z]) ∧ ∀ a b, a < n → a < b → b < ps.length → D2 ps ss a b = false)
    (fun r s => s = st ∧ ∃ i, Hit ps ss i r ∧ ∀ a b, a < i → a < b → b < ps.length → D2 ps ss a b = false)
    ?step (fun _ _ _ => trivial) ⟨rfl, ⟨_, _, _, rfl⟩, fun a b h1 => by omega⟩
  case step =>
    rintro i d e s hd ⟨rfl, ⟨x, y, z, rfl⟩, hn⟩
    obtain ⟨x', hx, rfl⟩ := enum_at hd
    rw [List.getElem?_map] at hx
    cases q : ps[i]? with
    | none => rw [q] at hx; cases hx
    | some p =>
      rw [q] at hx
      cases hx
      have hi : i < ps.length := (List.getElem?_eq_some_iff.mp q).1
      have ep : p = pat ps i := by
        unfold pat
        rw [List.getD_eq_getElem?_getD, q]
        rfl
      subst ep
      have h9 := ra2_ap (s := s) (i := (i : Int) + 1) (k := (ps.length : Int)) (by omega) (by omega) (by omega) (by omega)
      have eN : ((ps.length : Int) - ((i : Int) + 1)).toNat = ps.length - (i + 1) := by omega
      rw [eN] at h9
      have hin := clash_in hg hS.1 i hi z s
      have hb : b2_clash [some (pcs ps), some (sts ss), some (.v (.int (i : Int))), some (.v (pcD (pat ps i))), z] s = forL tr1 g1_clash b1_clash (rangeD ((i : Int) + 1) (ps.length - (i + 1))) [some (pcs ps), some (sts ss), some (.v (.int (i : Int))), some (.v (pcD (pat ps i))), z] s := by
        simp [b2_clash, h9]
      refine ⟨trivial, _, _, by simp [g2_clash]; and_intros <;> rfl, ?_⟩
      rw [hb]
      rcases hin with ⟨e2, s2, he, rfl, ⟨z2, rfl⟩, h3⟩ | ⟨r, s2, he, rfl, h3⟩
      · exact .inl ⟨_, _, he, rfl, ⟨_, _, _, rfl⟩, fun a b h1 h2 h4 => if e : a = i then by rw [e]; rw [e] at h2; exact h3 b h2 h4 else hn a b (by omega) h2 h4⟩
      · exact .inr ⟨_, _, he, rfl, i, h3, hn⟩
  rcases hf with ⟨e, s, he, rfl, ⟨x, y, z, rfl⟩, h3⟩ | ⟨r, s, he, rfl, i, h3, h4⟩
  · rw [enumD_length, List.length_map] at h3
    exact .inl ⟨by simp [f_clash, runFn_ap, m_clash, c1, c2, he], fun i j h1 h2 => h3 i j (by omega) h1 h2⟩
  · obtain ⟨j, m, k1, k2, rfl, k⟩ := h3
    exact .inr ⟨i, _, by simp [f_clash, runFn_ap, m_clash, c1, c2, he], ⟨j, m, k1, k2, rfl, k⟩, h4⟩
end K80
namespace K80
open Mi
/-! ### load -/
def Arc (a : Pc) : Prop := a.1 < 24 ∧ 1 ≤ a.2 ∧ a.2 ≤ 8
theorem arcs_arc {ps : List Pc} (hg : ∀ p ∈ ps, Good p) (ss : List Nat) : ∀ a ∈ arcs ps ss, Arc a := by
  intro a ha
  unfold arcs at ha
  rw [List.mem_flatten] at ha
  obtain ⟨l, hl, ha⟩ := ha
  rw [List.mem_map] at hl
  obtain ⟨x, hx, rfl⟩ := hl
  have hp := (hg _ (List.of_mem_zip hx).1).bd
  unfold arc1 at ha
  rw [List.mem_map] at ha
  obtain ⟨k, _, rfl⟩ := ha
  exact ⟨Nat.mod_lt _ (by decide), hp.2.2.1, hp.2.2.2.2⟩
theorem lap_ev (st : Sto) : f_check_lap [.v (.int 24)] st = some (.v .non, st) := by
  have h := between_yes (a := 24) (lo := 1) (hi := 99999) (by decide) (by decide)
  simp [f_check_lap, runFn_ap, m_check_lap, h]
theorem are_arcs_ev {A : List Pc} (hA : ∀ a ∈ A, Arc a) (hl : A.length ≤ 40) (st : Sto) : f_are_arcs [.v (.int 24), pcs A] st = some (.v (.bl true), st) := by
  obtain ⟨d1, c1, a1⟩ : ∃ ds, compL tr1 g1_are_arcs tTrue e1_are_arcs [some (.v (.int 24)), some (pcs A), none, none, none] (A.map pcD) [] st = some (ds, st) ∧ bAll [.l (.lst ds)] st = some (.v (.bl true), st) := by
    refine ⟨(A.map fun _ => true).map .bl, ?_, by rw [bAll_l]; simp⟩
    rw [comp_pure (fun _ => some (.bl true)) trivial (by simp; omega)]
    · simp [List.filterMap_map, Function.comp_def]
    · intro d hd
      obtain ⟨x, hx, rfl⟩ := List.mem_map.mp hd
      exact ⟨_, by simp [g1_are_arcs]; rfl, .inr ⟨by simp, _, by simp [e1_are_arcs], rfl⟩⟩
  obtain ⟨d2, c2, a2⟩ : ∃ ds, compL tr1 g2_are_arcs tTrue e2_are_arcs [some (.v (.int 24)), some (pcs A), none, none, none] (A.map pcD) [] st = some (ds, st) ∧ bAll [.l (.lst ds)] st = some (.v (.bl true), st) := by
    refine ⟨(A.map fun _ => true).map .bl, ?_, by rw [bAll_l]; simp⟩
    rw [comp_pure (fun _ => some (.bl true)) trivial (by simp; omega)]
    · simp [List.filterMap_map, Function.comp_def]
    · intro d hd
      obtain ⟨x, hx, rfl⟩ := List.mem_map.mp hd
      have ha := hA x hx
      unfold Arc at ha
      have b1 := between_yes (a := x.1) (lo := 0) (hi := 23) (by omega) (by omega)
      have b2 := between_yes (a := x.2) (lo := 1) (hi := 24) (by omega) (by omega)
      exact ⟨_, by simp [g2_are_arcs, pcD]; rfl, .inr ⟨by simp, _, by simp [e2_are_arcs, b1, b2], rfl⟩⟩
  have hl2 : ¬ (40 : Int) < (A.length : Int) := by omega
  have ht : gIsT "tuple" (pcs A) st = some (.v (.bl true), st) := rfl
  simp [f_are_arcs, runFn_ap, m_are_arcs, wipeE, c1, a1, c2, a2, hl2, ht]
/-- the arc has the time -/
def has (t : Int) (a : Pc) : Bool := decide ((t - a.1).fmod 24 < a.2)
theorem has_ev (a : Pc) (t : Int) (st : Sto) : f_has_time [.v (.int 24), .v (pcD a), .v (.int t)] st = some (.v (.bl (has t a)), st) := by
  unfold has
  simp [f_has_time, runFn_ap, m_has_time]
def cnt (A : List Pc) (t : Int) : Nat := (A.filter (has t)).length
def times (A : List Pc) : List Int := sortU (0 :: A.map fun a => (a.1 : Int))
theorem cnt_ev (A : List Pc) (hl : A.length ≤ 40) (t : Int) (x0 x1 x2 x4 x6 x7 : Option R) (st : Sto) :
    compL tr1 g2_told_load c1_told_load e2_told_load [some (.v (.int 24)), x1, x2, some (.v (.int t)), x4, none, x6, x7] (A.map pcD) [] st = some ((A.filter (has t)).map pcD, st) := by
  rw [comp_pure (fun d => match d with | .tup [.int b, .int l] => if decide ((t - b).fmod 24 < l) = true then some d else none | _ => none) trivial (by simp; omega)]
  · congr 2
    rw [List.nil_append, List.filterMap_map]
    clear hl
    induction A with
    | nil => rfl
    | cons m ms ih =>
      by_cases h : has t m = true
      · rw [List.filterMap_cons_some (b := pcD m) (by unfold has at h; simp [pcD]; exact of_decide_eq_true h), List.filter_cons_of_pos h, List.map_cons, ih]
      · rw [List.filterMap_cons_none (by unfold has at h; simp [pcD]; have := of_decide_eq_false (Bool.eq_false_iff.mpr h); omega), List.filter_cons_of_neg h, ih]
  · intro d hd
    obtain ⟨a, ha, rfl⟩ := List.mem_map.mp hd
    have e := has_ev a t st
    refine ⟨_, by simp [g2_told_load]; rfl, ?_⟩
    by_cases h : has t a = true
    · refine .inr ⟨by simp [c1_told_load, e, h], pcD a, by simp [e2_told_load], ?_⟩
      unfold has at h
      simp [pcD, h]
    · refine .inl ⟨by simp [c1_told_load, e, h], ?_⟩
      unfold has at h
      simp [pcD, h]
theorem sortSet_ap {ns : List Int} (h : ns.length < 64) (s : Sto) : gSortSet (.l (.lst (ns.map .int))) s = some (.l (.lst ((sortU ns).map .int)), s) := by
  unfold gSortSet
  rw [bind_bo]
  show bo (some (ns.map D.int, s)) _ = _
  rw [bo_some, allInts_map]
  show (if ns.length < 64 then Pure.pure _ else M.fail : M R) s = _
  rw [if_pos h]
  rfl
theorem load_ev {A : List Pc} (hA : ∀ a ∈ A, Arc a) (hl : A.length ≤ 40) (st : Sto) : ∃ (c : Nat) (x : D), f_load [.v (.int 24), pcs A] st = some (.v (.tup [.int (c : Int), x]), st) ∧ (∀ t ∈ times A, cnt A t ≤ c) ∧ (c = 0 ∨ ∃ t ∈ times A, cnt A t = c) := by
  have b1 := lap_ev st
  have b2 := are_arcs_ev hA hl st
  have c1 : compL tr1 g1_told_load tTrue e1_told_load [some (.v (.int 24)), some (pcs A), some (.v (.tup [.int 0, .non])), none, none, none, none, none] (A.map pcD) [] st = some ((A.map fun a => (a.1 : Int)).map .int, st) := by
    rw [comp_pure (fun d => match d with | .tup [b, l] => some b | _ => none) trivial (by simp; omega)]
    · congr 2
      rw [List.nil_append, List.filterMap_map, List.map_map, ← List.filterMap_eq_map]
      rfl
    · intro d hd
      obtain ⟨a, ha, rfl⟩ := List.mem_map.mp hd
      exact ⟨_, by simp [g1_told_load, pcD]; rfl, .inr ⟨by simp, _, by simp [e1_told_load], rfl⟩⟩
  have hs := sortSet_ap (ns := 0 :: A.map fun a => (a.1 : Int)) (by simp; omega) st
  have hadd := gAdd_ll (s := st) (xs := [D.int 0]) (ys := (A.map fun a => (a.1 : Int)).map .int) (by simp; omega)
  have ec : [D.int 0] ++ (A.map fun a => (a.1 : Int)).map .int = (0 :: A.map fun a => (a.1 : Int)).map .int := rfl
  rw [ec] at hadd
  have hf := for_inv (ck := tr1) (g := g3_told_load) (b := b1_told_load) (ds := (times A).map .int) (env := [some (.v (.int 24)), some (pcs A), some (.v (.tup [.int 0, .non])), none, none, none, none, none]) (st := st)
    (fun n e s => s = st ∧ ∃ (c : Nat) (x : D) (y z : Option R), e = [some (.v (.int 24)), some (pcs A), some (.v (.tup [.int (c : Int), x])), y, z, none, none, none] ∧ (∀ t ∈ (times A).take n, cnt A t ≤ c) ∧ (c = 0 ∨ ∃ t ∈ times A, cnt A t = c))
    ?step (fun _ _ _ => trivial) ⟨rfl, 0, .non, none, none, rfl, by simp, .inl rfl⟩
  case step =>
    rintro n d e s hd ⟨rfl, c, x, y, z, rfl, h1, h2⟩
    rw [List.getElem?_map] at hd
    cases q : (times A)[n]? with
    | none => rw [q] at hd; cases hd
    | some t =>
      rw [q] at hd
      cases hd
      have c2 := cnt_ev A hl t none
      have ht : t ∈ times A := List.mem_of_getElem? q
      have htake : ∀ u ∈ (times A).take (n + 1), u ∈ (times A).take n ∨ u = t := by
        intro u hu
        rw [List.take_add_one, q] at hu
        simpa using hu
      have hlen : ((A.filter (has t)).map pcD).length = cnt A t := by rw [List.length_map]; rfl
      have hbl : bLen [.l (.lst ((A.filter (has t)).map pcD))] s = some (.v (.int (cnt A t : Nat)), s) := by
        rw [bLen_l, hlen]
      generalize (A.filter (has t)).map pcD = F at *
      by_cases h : c < cnt A t
      · refine turn_nx (I := fun e s' => s' = s ∧ ∃ (c : Nat) (x : D) (y z : Option R), e = [some (.v (.int 24)), some (pcs A), some (.v (.tup [.int (c : Int), x])), y, z, none, none, none] ∧ (∀ t ∈ (times A).take (n + 1), cnt A t ≤ c) ∧ (c = 0 ∨ ∃ t ∈ times A, cnt A t = c))
          (e2 := [some (.v (.int 24)), some (pcs A), some (.v (.tup [.int (cnt A t : Nat), .int t])), some (.v (.int t)), some (.v (.int (cnt A t : Nat))), none, none, none]) (s2 := s) trivial (by simp [g3_told_load]; and_intros <;> rfl) ?_
          ⟨rfl, cnt A t, .int t, _, _, rfl, fun u hu => ?_, .inr ⟨t, ht, rfl⟩⟩
        · simp [b1_told_load, wipeE, c2, hbl, h]
        · rcases htake u hu with z1 | rfl
          · have := h1 u z1
            omega
          · exact Nat.le_refl _
      · refine turn_nx (I := fun e s' => s' = s ∧ ∃ (c : Nat) (x : D) (y z : Option R), e = [some (.v (.int 24)), some (pcs A), some (.v (.tup [.int (c : Int), x])), y, z, none, none, none] ∧ (∀ t ∈ (times A).take (n + 1), cnt A t ≤ c) ∧ (c = 0 ∨ ∃ t ∈ times A, cnt A t = c))
          (e2 := [some (.v (.int 24)), some (pcs A), some (.v (.tup [.int (c : Nat), x])), some (.v (.int t)), some (.v (.int (cnt A t : Nat))), none, none, none]) (s2 := s) trivial (by simp [g3_told_load]; and_intros <;> rfl) ?_
          ⟨rfl, c, x, _, _, rfl, fun u hu => ?_, h2⟩
        · simp [b1_told_load, wipeE, c2, hbl, h]
        · rcases htake u hu with z1 | rfl
          · exact h1 u z1
          · omega
  obtain ⟨e, s, he, rfl, c, x, y, z, rfl, h1, h2⟩ := hf
  rw [List.take_of_length_le (by simp)] at h1
  refine ⟨c, x, ?_, h1, h2⟩
  unfold times at he
  generalize (sortU (0 :: A.map fun a => (a.1 : Int))).map D.int = T at *
  generalize (0 :: A.map fun a => (a.1 : Int)).map D.int = U at *
  generalize (A.map fun a => (a.1 : Int)).map D.int = W at *
  have b3 : f_check_arcs [.v (.int 24), pcs A] s = some (.v .non, s) := by simp [f_check_arcs, runFn_ap, m_check_arcs, b1, b2]
  have b4 : f_told_load [.v (.int 24), pcs A] s = some (.v (.tup [.int (c : Int), x]), s) := by
    simp [f_told_load, runFn_ap, m_told_load, wipeE, c1, hadd, hs, he]
  simp [f_load, runFn_ap, m_load, b3, b4]
end K80
namespace K80
open Mi
/-! ### arcs and clashes -/
/-- the pieces that can be drawn -/
def Ps : List Pc := [(3, 1), (4, 1), (6, 1), (6, 2), (8, 1), (8, 2), (12, 1), (12, 2), (12, 3), (12, 4), (24, 1), (24, 2), (24, 3), (24, 4), (24, 5), (24, 6), (24, 7), (24, 8)]
theorem Good.ps {p : Pc} (h : Good p) : p ∈ Ps := by
  obtain ⟨e, l⟩ := p
  obtain ⟨h1, h2, h3⟩ := h
  simp only at h1 h2 h3
  rcases h1 with rfl | rfl | rfl | rfl | rfl | rfl
  · obtain rfl : l = 1 := by omega
    decide
  · obtain rfl : l = 1 := by omega
    decide
  · rcases (show l = 1 ∨ l = 2 by omega) with rfl | rfl <;> decide
  · rcases (show l = 1 ∨ l = 2 by omega) with rfl | rfl <;> decide
  · rcases (show l = 1 ∨ l = 2 ∨ l = 3 ∨ l = 4 by omega) with rfl | rfl | rfl | rfl <;> decide
  · rcases (show l = 1 ∨ l = 2 ∨ l = 3 ∨ l = 4 ∨ l = 5 ∨ l = 6 ∨ l = 7 ∨ l = 8 by omega) with rfl | rfl | rfl | rfl | rfl | rfl | rfl | rfl <;> decide
theorem one_fin : (Ps.all fun p => (List.range p.1).all fun s => (List.range 24).all fun t =>
    ((List.range (24 / p.1)).filter fun k => decide ((t + 24 - (s + p.1 * k) % 24) % 24 < p.2)).length == (if (t + 24 - s) % p.1 < p.2 then 1 else 0)) = true := by decide +kernel
theorem has_nat {a : Pc} (ha : a.1 < 24) (t : Nat) : has (t : Int) a = decide ((t + 24 - a.1) % 24 < a.2) := by
  unfold has
  have e : ((t : Int) - a.1).fmod 24 = ((t + 24 - a.1) % 24 : Nat) := by
    (rw [Int.fmod_eq_emod_of_nonneg _ (by omega)]); omega
  (rw [e]); exact decide_eq_decide.mpr (by omega)
theorem aw_nat {p : Pc} {s : Nat} (hp : Good p) (hs : s < p.1) (t : Nat) : aw p s (t : Int) = decide ((t + 24 - s) % p.1 < p.2) := by
  have hb := hp.bd
  unfold aw
  have hd : (p.1 : Int) ∣ 24 := by
    rcases hp.1 with h | h | h | h | h | h <;> rw [h] <;> decide
  have e : ((t : Int) - s).fmod (p.1 : Int) = ((t + 24 - s) % p.1 : Nat) := by
    rw [Int.fmod_eq_emod_of_nonneg _ (by omega), Int.natCast_emod, show ((t + 24 - s : Nat) : Int) = (t : Int) - s + 24 by omega]
    obtain ⟨c, hc⟩ := hd
    rw [hc, Int.add_mul_emod_self_left]
  (rw [e]); exact decide_eq_decide.mpr (by omega)
theorem one_cnt {p : Pc} {s t : Nat} (hp : Good p) (hs : s < p.1) (ht : t < 24) : cnt (arc1 p s) (t : Int) = if aw p s (t : Int) = true then 1 else 0 := by
  have h := one_fin
  rw [List.all_eq_true] at h
  have h := h _ hp.ps
  rw [List.all_eq_true] at h
  have h := h s (List.mem_range.mpr hs)
  rw [List.all_eq_true] at h
  have h := eq_of_beq (h t (List.mem_range.mpr ht))
  rw [aw_nat hp hs]
  unfold cnt arc1
  rw [List.filter_map, List.length_map]
  have e : (has (t : Int) ∘ fun k => ((s + p.1 * k) % 24, p.2)) = fun k => decide ((t + 24 - (s + p.1 * k) % 24) % 24 < p.2) := by
    funext k
    exact has_nat (Nat.mod_lt _ (by decide)) t
  rw [e, h]
  simp
theorem cnt_arcs {ps : List Pc} (hg : ∀ p ∈ ps, Good p) {ss : List Nat} (hS : Stt ps ss) {t : Nat} (ht : t < 24) : cnt (arcs ps ss) (t : Int) = (ps.zip ss).countP fun x => aw x.1 x.2 (t : Int) := by
  obtain ⟨hl, hs⟩ := hS
  induction ps generalizing ss with
  | nil => simp [arcs, cnt]
  | cons p ps ih => cases ss with
    | nil => simp at hl
    | cons s ss =>
      have e : arcs (p :: ps) (s :: ss) = arc1 p s ++ arcs ps ss := by simp [arcs]
      have h1 := one_cnt (hg p (by simp)) (hs (s, p) (by simp)) ht
      have h2 := ih (fun q hq => hg q (by simp [hq])) (ss := ss) (by simpa using hl) (fun x hx => hs x (by simp [hx]))
      unfold cnt at h1 h2 ⊢
      rw [e, List.filter_append, List.length_append, h1, h2, List.zip_cons_cons, List.countP_cons]
      exact Nat.add_comm _ _
theorem zip_at {ps : List Pc} {ss : List Nat} (hl : ss.length = ps.length) {i : Nat} (hi : i < (ps.zip ss).length) : (ps.zip ss)[i] = (pat ps i, sat ss i) := by
  rw [List.length_zip] at hi
  unfold pat sat
  rw [List.getElem_zip, List.getD_eq_getElem?_getD, List.getD_eq_getElem?_getD, List.getElem?_eq_getElem (by omega), List.getElem?_eq_getElem (by omega)]
  rfl
theorem sat_lt {ps : List Pc} {ss : List Nat} (hS : Stt ps ss) {i : Nat} (hi : i < ps.length) : sat ss i < (pat ps i).1 := by
  have hz : i < (ss.zip ps).length := by rw [List.length_zip, hS.1]; omega
  have := hS.2 _ (List.getElem_mem hz)
  rw [List.getElem_zip] at this
  unfold pat sat
  rw [List.getD_eq_getElem?_getD, List.getD_eq_getElem?_getD, List.getElem?_eq_getElem (by rw [hS.1]; omega), List.getElem?_eq_getElem hi]
  exact this
theorem emod_le {x g : Int} (hx : 0 ≤ x) (hg : 0 < g) : x % g ≤ x := by
  have e := Int.emod_add_mul_ediv x g
  have := Int.mul_nonneg (Int.le_of_lt hg) (Int.ediv_nonneg hx (Int.le_of_lt hg))
  omega
/-- both at work at one minute: they clash -/
theorem meet_dc {p q : Pc} {s t : Nat} {m : Int} (hp : Good p) (hq : Good q) (h1 : aw p s m = true) (h2 : aw q t m = true) : dc p q s t = true := by
  have hb := hp.bd
  have hb2 := hq.bd
  have hg : 0 < Nat.gcd p.1 q.1 := Nat.gcd_pos_of_pos_left _ (by omega)
  unfold aw at h1 h2
  have h1 := of_decide_eq_true h1
  have h2 := of_decide_eq_true h2
  rw [Int.fmod_eq_emod_of_nonneg _ (by omega)] at h1 h2
  have d1 : ((Nat.gcd p.1 q.1 : Nat) : Int) ∣ (p.1 : Int) := Int.natCast_dvd_natCast.mpr (Nat.gcd_dvd_left _ _)
  have d2 : ((Nat.gcd p.1 q.1 : Nat) : Int) ∣ (q.1 : Int) := Int.natCast_dvd_natCast.mpr (Nat.gcd_dvd_right _ _)
  have e1 := Int.emod_add_mul_ediv (m - s) p.1
  have e2 := Int.emod_add_mul_ediv (m - t) q.1
  have n1 := Int.emod_nonneg (m - s) (show (p.1 : Int) ≠ 0 by omega)
  have n2 := Int.emod_nonneg (m - t) (show (q.1 : Int) ≠ 0 by omega)
  generalize (m - s) % (p.1 : Int) = x at *
  generalize (m - t) % (q.1 : Int) = y at *
  generalize (m - s) / (p.1 : Int) = u at *
  generalize (m - t) / (q.1 : Int) = v at *
  obtain ⟨a, ha⟩ := d1
  obtain ⟨b, hb'⟩ := d2
  have hG : (0 : Int) < (Nat.gcd p.1 q.1 : Nat) := by omega
  unfold dc
  generalize ((Nat.gcd p.1 q.1 : Nat) : Int) = g at *
  rw [ha, Int.mul_assoc] at e1
  rw [hb', Int.mul_assoc] at e2
  rw [Bool.or_eq_true, Int.fmod_eq_emod_of_nonneg _ (by omega), Int.fmod_eq_emod_of_nonneg _ (by omega)]
  by_cases hxy : y ≤ x
  · left
    refine decide_eq_true ?_
    have e : (t : Int) - s = (x - y) + g * (a * u - b * v) := by
      rw [Int.mul_sub]
      omega
    rw [e, Int.add_mul_emod_self_left]
    have := emod_le (show 0 ≤ x - y by omega) hG
    omega
  · right
    refine decide_eq_true ?_
    have e : (s : Int) - t = (y - x) + g * (b * v - a * u) := by
      rw [Int.mul_sub]
      omega
    rw [e, Int.add_mul_emod_self_left]
    have := emod_le (show 0 ≤ y - x by omega) hG
    omega
theorem laps24_fin : (Es.all fun e => Es.all fun f => decide (f / Nat.gcd e f ≤ 24 / e)) = true := by decide +kernel
/-- where they clash, an arc of the one begins within one of the other -/
theorem dc_meet {p q : Pc} {s t : Nat} (hp : Good p) (hq : Good q) (h : ((s : Int) - t).fmod (Nat.gcd p.1 q.1 : Nat) < q.2) : ∃ k, k < 24 / p.1 ∧ aw p s (((s + p.1 * k) % 24 : Nat) : Int) = true ∧ aw q t (((s + p.1 * k) % 24 : Nat) : Int) = true := by
  have hb := hp.bd
  have hb2 := hq.bd
  obtain ⟨k, hk, e⟩ := laps hp hq ((s : Int) - t)
  have h24 := laps24_fin
  rw [List.all_eq_true] at h24
  have h24 := h24 _ hp.es
  rw [List.all_eq_true] at h24
  have h24 := of_decide_eq_true (h24 _ hq.es)
  have dp : (p.1 : Int) ∣ 24 := by rcases hp.1 with h | h | h | h | h | h <;> rw [h] <;> decide
  have dq : (q.1 : Int) ∣ 24 := by rcases hq.1 with h | h | h | h | h | h <;> rw [h] <;> decide
  have eN : (((s + p.1 * k) % 24 : Nat) : Int) = (s : Int) + p.1 * (k : Nat) - 24 * (((s + p.1 * k) / 24 : Nat) : Int) := by
    have := Nat.mod_add_div (s + p.1 * k) 24
    have e2 : ((s + p.1 * k : Nat) : Int) = (s : Int) + p.1 * (k : Nat) := by simp
    omega
  refine ⟨k, by omega, ?_, ?_⟩
  · obtain ⟨c, hc⟩ := dp
    unfold aw
    refine decide_eq_true ?_
    rw [Int.fmod_eq_emod_of_nonneg _ (by omega), eN]
    generalize (((s + p.1 * k) / 24 : Nat) : Int) = w
    rw [show (s : Int) + p.1 * (k : Nat) - 24 * w - s = p.1 * ((k : Nat) - c * w) by rw [Int.mul_sub, hc, Int.mul_assoc]; omega, Int.mul_emod_right]
    omega
  · obtain ⟨c, hc⟩ := dq
    unfold aw
    refine decide_eq_true ?_
    rw [Int.fmod_eq_emod_of_nonneg _ (by omega)] at e ⊢
    rw [eN]
    generalize (((s + p.1 * k) / 24 : Nat) : Int) = w
    rw [show (s : Int) + p.1 * (k : Nat) - 24 * w - t = (s : Int) - t + p.1 * (k : Nat) + q.1 * (- (c * w)) by rw [Int.mul_neg, hc, Int.mul_assoc]; omega, Int.add_mul_emod_self_left, e]
    exact h
theorem mem_arcs {ps : List Pc} {ss : List Nat} (hl : ss.length = ps.length) {i k : Nat} (hi : i < ps.length) (hk : k < 24 / (pat ps i).1) : ((sat ss i + (pat ps i).1 * k) % 24, (pat ps i).2) ∈ arcs ps ss := by
  have hz : i < (ps.zip ss).length := by rw [List.length_zip, hl]; omega
  unfold arcs
  rw [List.mem_flatten]
  refine ⟨arc1 (pat ps i) (sat ss i), ?_, ?_⟩
  · rw [List.mem_map]
    exact ⟨(ps.zip ss)[i], List.getElem_mem hz, by rw [zip_at hl hz]⟩
  · unfold arc1
    rw [List.mem_map]
    exact ⟨k, List.mem_range.mpr hk, rfl⟩
theorem times_nat {ps : List Pc} (hg : ∀ p ∈ ps, Good p) {ss : List Nat} {t : Int} (h : t ∈ times (arcs ps ss)) : ∃ n : Nat, t = n ∧ n < 24 := by
  unfold times at h
  rw [mem_sortU, List.mem_cons] at h
  rcases h with rfl | h
  · exact ⟨0, rfl, by decide⟩
  · rw [List.mem_map] at h
    obtain ⟨a, ha, rfl⟩ := h
    exact ⟨a.1, rfl, (arcs_arc hg ss a ha).1⟩
theorem times_of {A : List Pc} {a : Pc} (h : a ∈ A) : (a.1 : Int) ∈ times A := by
  unfold times
  rw [mem_sortU]
  exact List.mem_cons_of_mem _ (List.mem_map.mpr ⟨a, h, rfl⟩)
theorem count_le_one {α : Type} {P : α → Bool} : ∀ {l : List α}, l.Pairwise (fun x y => ¬ (P x = true ∧ P y = true)) → l.countP P ≤ 1
  | [], _ => by simp
  | a :: l, h => by
    rw [List.pairwise_cons] at h
    rw [List.countP_cons]
    by_cases ha : P a = true
    · have : l.countP P = 0 := by
        rw [List.countP_eq_zero]
        intro b hb
        exact fun z => h.1 b hb ⟨ha, z⟩
      rw [this]
      split <;> omega
    · have := count_le_one h.2
      rw [if_neg ha]
      omega
/-- no pair clashes: never two at once -/
theorem load_one {ps : List Pc} (hg : ∀ p ∈ ps, Good p) {ss : List Nat} (hS : Stt ps ss) (h : ∀ i j, i < j → j < ps.length → D2 ps ss i j = false) {t : Int} (ht : t ∈ times (arcs ps ss)) : cnt (arcs ps ss) t ≤ 1 := by
  obtain ⟨n, rfl, hn⟩ := times_nat hg ht
  rw [cnt_arcs hg hS hn]
  refine count_le_one ?_
  (rw [List.pairwise_iff_getElem]); intro i j hi hj hij ⟨h1, h2⟩
  rw [zip_at hS.1 hi] at h1
  rw [zip_at hS.1 hj] at h2
  have hjl : j < ps.length := by rw [List.length_zip] at hj; omega
  have := meet_dc (pat_good hg i) (pat_good hg j) h1 h2
  have h3 := h i j hij hjl
  unfold D2 at h3
  rw [this] at h3
  cases h3
theorem count_two {α : Type} {P : α → Bool} {l : List α} {i j : Nat} (hi : i < l.length) (hj : j < l.length) (hij : i < j) (h1 : P l[i] = true) (h2 : P l[j] = true) : 2 ≤ l.countP P := by
  have e : l = l.take j ++ l[j] :: l.drop (j + 1) := by
    rw [← List.drop_eq_getElem_cons hj, List.take_append_drop]
  have hm : l[i] ∈ l.take j := by
    rw [List.mem_take_iff_getElem]
    exact ⟨i, by omega, rfl⟩
  have c1 : 1 ≤ (l.take j).countP P := List.countP_pos_iff.mpr ⟨_, hm, h1⟩
  rw [e, List.countP_append, List.countP_cons, if_pos h2]
  omega
/-- a pair clashes: two at once -/
theorem load_two {ps : List Pc} (hg : ∀ p ∈ ps, Good p) {ss : List Nat} (hS : Stt ps ss) {i j : Nat} (hij : i < j) (hj : j < ps.length) (h : D2 ps ss i j = true) : ∃ t ∈ times (arcs ps ss), 2 ≤ cnt (arcs ps ss) t := by
  have hzi : i < (ps.zip ss).length := by rw [List.length_zip, hS.1]; omega
  have hzj : j < (ps.zip ss).length := by rw [List.length_zip, hS.1]; omega
  have key : ∃ t : Nat, t < 24 ∧ (t : Int) ∈ times (arcs ps ss) ∧ aw (pat ps i) (sat ss i) (t : Int) = true ∧ aw (pat ps j) (sat ss j) (t : Int) = true := by
    unfold D2 dc at h
    rw [Bool.or_eq_true] at h
    rcases h with h | h
    · have h := of_decide_eq_true h
      rw [Nat.gcd_comm] at h
      obtain ⟨k, hk, a1, a2⟩ := dc_meet (pat_good hg j) (pat_good hg i) h
      exact ⟨_, Nat.mod_lt _ (by decide), times_of (mem_arcs hS.1 hj hk), a2, a1⟩
    · have h := of_decide_eq_true h
      obtain ⟨k, hk, a1, a2⟩ := dc_meet (pat_good hg i) (pat_good hg j) h
      exact ⟨_, Nat.mod_lt _ (by decide), times_of (mem_arcs hS.1 (by omega) hk), a1, a2⟩
  obtain ⟨t, ht, hm, a1, a2⟩ := key
  refine ⟨t, hm, ?_⟩
  rw [cnt_arcs hg hS ht]
  exact count_two hzi hzj hij (by rw [zip_at hS.1 hzi]; exact a1) (by rw [zip_at hS.1 hzj]; exact a2)
end K80
namespace K80
open Mi
/-! ### rests -/
theorem inv_loop : ∀ (n : Nat) (one other here there : Int) (x0 x1 x6 : Option R) (st : Sto), 0 ≤ one → one ≤ n → one ≤ 1000000 → 0 ≤ other → other ≤ 1000000 →
    ∃ (h : Int) (y2 y3 y5 y6 : Option R), sWhile t1_inverse b1_inverse [x0, x1, some (.v (.int one)), some (.v (.int other)), some (.v (.int here)), some (.v (.int there)), x6] st = some (.nx [x0, x1, y2, y3, some (.v (.int h)), y5, y6], st) ∧ (one ≤ 1 → h = here) := by
  intro n
  induction n with
  | zero =>
    intro one other here there x0 x1 x6 st h0 h1 hm1 h2 h3
    refine ⟨here, _, _, _, _, while_no (s := st) ?_, fun _ => rfl⟩
    have : ¬ 1 < one := by omega
    simp [t1_inverse, this]
  | succ n ih =>
    intro one other here there x0 x1 x6 st h0 h1 hm1 h2 h3
    by_cases h : 1 < one
    · have hd := fdiv_nn h2 (show 0 < one by omega)
      have em : other - other.fdiv one * one = other.fmod one := by
        rw [Int.fmod_def, Int.mul_comm]
      have hm := fmod_nn other (show 0 < one by omega)
      have hone : one < 1073741824 := by
        omega
      have g1 := gFdiv_ap (i := other) (s := st) (show one ≠ 0 by omega) (by omega) hone
      have g2 := gMul_l (i := other.fdiv one) (j := one) (s := st) (by omega) (by omega)
      have g3 := gMul_l (i := other.fdiv one) (j := here) (s := st) (by omega) (by omega)
      obtain ⟨hh, y2, y3, y5, y6, hw, _⟩ := ih (other.fmod one) one (there - other.fdiv one * here) here x0 x1 (some (.v (.int (other.fdiv one)))) st hm.1 (by omega) (by omega) (by omega) (by omega)
      refine ⟨hh, y2, y3, y5, y6, while_yes (s := st) (s2 := st) (by simp [t1_inverse, h]) (by simp [b1_inverse, g1, g2, g3, em]) hw, fun z => by omega⟩
    · refine ⟨here, _, _, _, _, while_no (s := st) ?_, fun _ => rfl⟩
      simp [t1_inverse, h]
theorem inverse_ev (a b : Nat) (hb : 1 ≤ b) (hb2 : b ≤ 1000) (st : Sto) : ∃ r : Int, f_inverse [.v (.int a), .v (.int b)] st = some (.v (.int r), st) ∧ 0 ≤ r ∧ r < b ∧ (a = 1 → 2 ≤ b → r = 1) := by
  have hm := fmod_nn (a : Int) (show (0 : Int) < b by omega)
  obtain ⟨h, y2, y3, y5, y6, hw, he⟩ := inv_loop 1000 ((a : Int).fmod b) b 1 0 (some (.v (.int a))) (some (.v (.int b))) none st hm.1 (by omega) (by omega) (by omega) (by omega)
  have hr := fmod_nn h (show (0 : Int) < b by omega)
  have hb0 : b ≠ 0 := by omega
  refine ⟨h.fmod b, by simp [f_inverse, runFn_ap, m_inverse, hb0, hw], hr.1, hr.2, fun h1 h2 => ?_⟩
  have e1 : (a : Int).fmod b = 1 := by
    rw [h1, Int.fmod_eq_emod_of_nonneg _ (by omega)]
    exact Int.emod_eq_of_lt (by decide) (by omega)
  rw [he (by omega), Int.fmod_eq_emod_of_nonneg _ (by omega)]
  exact Int.emod_eq_of_lt (by decide) (by omega)
def rsD (a : Nat) (x : Int) : D := .tup [.int a, .int x]
@[simp] theorem rsD_0 (a : Nat) (x : Int) (s : Sto) : gIx (.v (rsD a x)) (.v (.int 0)) s = some (.v (.int a), s) := Eq.trans rfl rfl
@[simp] theorem rsD_1 (a : Nat) (x : Int) (s : Sto) : gIx (.v (rsD a x)) (.v (.int 1)) s = some (.v (.int x), s) := Eq.trans rfl rfl
theorem put_none {a b : Nat} (ha : 0 < a) (x y : Int) (h : (y - x).fmod (Nat.gcd a b : Nat) ≠ 0) (st : Sto) : f_put_together [.v (rsD a x), .v (rsD b y)] st = some (.v .non, st) := by
  have hg : 0 < Nat.gcd a b := Nat.gcd_pos_of_pos_left _ ha
  have hg2 : Nat.gcd a b ≠ 0 := by omega
  have g1 := gMod_ap (i := y - x) (j := (Nat.gcd a b : Nat)) (s := st) (by omega)
  simp [f_put_together, runFn_ap, m_put_together, common_ev, g1, h]
theorem put_some {a b : Nat} (ha : 0 < a) (ha2 : a ≤ 1000) (hb : 0 < b) (hb2 : b ≤ 1000) (x y : Int) (h : (y - x).fmod (Nat.gcd a b : Nat) = 0) (st : Sto) : ∃ r : Int,
    f_put_together [.v (rsD a x), .v (rsD b y)] st = some (.v (rsD (a * (b / Nat.gcd a b)) r), st) ∧ (a = 1 → x = 0 → 2 ≤ b → r = y.fmod b) := by
  have hg : 0 < Nat.gcd a b := Nat.gcd_pos_of_pos_left _ ha
  have hgb : Nat.gcd a b ≤ b := Nat.gcd_le_right _ hb
  have hga : Nat.gcd a b ≤ a := Nat.gcd_le_left _ ha
  have hw : 1 ≤ b / Nat.gcd a b := (Nat.le_div_iff_mul_le hg).mpr (by omega)
  have hw2 : b / Nat.gcd a b ≤ 1000 := Nat.le_trans (Nat.div_le_self _ _) hb2
  obtain ⟨i, hi, hi0, hi1, hi2⟩ := inverse_ev (a / Nat.gcd a b) (b / Nat.gcd a b) hw hw2 st
  have g1 := gMod_ap (i := y - x) (j := (Nat.gcd a b : Nat)) (s := st) (by omega)
  have g2 := gFdiv_ap (i := y - x) (j := (Nat.gcd a b : Nat)) (s := st) (by omega) (by omega) (by omega)
  have g3 := gFdiv_ap (i := b) (j := (Nat.gcd a b : Nat)) (s := st) (by omega) (by omega) (by omega)
  have g4 := gFdiv_ap (i := a) (j := (Nat.gcd a b : Nat)) (s := st) (by omega) (by omega) (by omega)
  have e3 : Int.fdiv (b : Int) (Nat.gcd a b : Nat) = (b / Nat.gcd a b : Nat) := by
    rw [Int.fdiv_eq_ediv_of_nonneg _ (by omega), Int.natCast_ediv]
  have e4 : Int.fdiv (a : Int) (Nat.gcd a b : Nat) = (a / Nat.gcd a b : Nat) := by
    rw [Int.fdiv_eq_ediv_of_nonneg _ (by omega), Int.natCast_ediv]
  rw [e3] at g3
  rw [e4] at g4
  have hk : a * (b / Nat.gcd a b) ≠ 0 := Nat.mul_ne_zero (by omega) (by omega)
  have g5 := gMul_r (i := (y - x).fdiv (Nat.gcd a b : Nat)) (j := i) (s := st) (by omega) (by omega)
  have g6 := gMod_ap (i := (y - x).fdiv (Nat.gcd a b : Nat) * i) (j := (b / Nat.gcd a b : Nat)) (s := st) (by omega)
  have g7 := gMul_nl (i := (b / Nat.gcd a b : Nat)) (n := a) (s := st) (by omega)
  have g8 := gMul_nl (i := ((y - x).fdiv (Nat.gcd a b : Nat) * i).fmod (b / Nat.gcd a b : Nat)) (n := a) (s := st) (by omega)
  have e7 : (a : Int) * (b / Nat.gcd a b : Nat) = ((a * (b / Nat.gcd a b) : Nat) : Int) := by simp
  rw [e7] at g7
  have g9 := gMod_ap (i := x + a * ((y - x).fdiv (Nat.gcd a b : Nat) * i).fmod (b / Nat.gcd a b : Nat)) (j := ((a * (b / Nat.gcd a b) : Nat) : Int)) (s := st) (by omega)
  refine ⟨(x + a * ((y - x).fdiv (Nat.gcd a b : Nat) * i).fmod (b / Nat.gcd a b : Nat)).fmod ((a * (b / Nat.gcd a b) : Nat) : Int), ?_, fun h1 h2 h3 => ?_⟩
  · unfold rsD
    generalize ((a * (b / Nat.gcd a b) : Nat) : Int) = W at *
    generalize ((b / Nat.gcd a b : Nat) : Int) = w at *
    generalize ((a / Nat.gcd a b : Nat) : Int) = u at *
    have c1 := common_ev a b st
    generalize ((Nat.gcd a b : Nat) : Int) = g at *
    simp [f_put_together, runFn_ap, m_put_together, c1, g1, h, g2, g3, g4, hi, g5, g6, g7, g8, g9]
  · subst h1 h2
    rw [Nat.gcd_one_left, Nat.div_one]
    rw [Nat.gcd_one_left] at hi2
    rw [hi2 (by simp) (by simpa using h3)]
    rw [Int.mul_one, Int.sub_zero, Int.natCast_one, Int.fdiv_one, Int.one_mul, Int.zero_add, Nat.one_mul]
    rw [Int.fmod_eq_emod_of_nonneg _ (by omega), Int.fmod_eq_emod_of_nonneg _ (by omega), Int.emod_emod_of_dvd _ (Int.dvd_refl _)]
theorem eqv_str (x y : PySem.Str) : PySem.PyData.eqv (.str x) (.str y) = (x == y) := by
  rw [PySem.PyData.eqv]
theorem shaped_str {x : PySem.Str} (h : PySem.PyData.strOk x = true) : PySem.SeqAt.shaped (.str x) = true := by
  unfold PySem.SeqAt.shaped
  rw [PySem.PyData.canLay0, PySem.PyData.depth, h]
  rfl
theorem gEq_ss {x y : PySem.Str} (hx : PySem.PyData.strOk x = true) (hy : PySem.PyData.strOk y = true) (s : Sto) : gEq (.v (.str x)) (.v (.str y)) s = some (.v (.bl (x == y)), s) := by
  simp [gEq, gCmp, pdR, pdD, shaped_str hx, shaped_str hy, eqv_str, bv]
theorem are_rests_ev {a b : Nat} (ha : 1 ≤ a) (ha2 : a ≤ 24) (hb : 1 ≤ b) (hb2 : b ≤ 24) {x y : Int} (hx : 0 ≤ x) (hx2 : x ≤ 1000) (hy : 0 ≤ y) (hy2 : y ≤ 1000) (st : Sto) : f_are_rests [.v (.tup [rsD a x, rsD b y])] st = some (.v (.bl true), st) := by
  have r1 := between_yes (a := a) (lo := 1) (hi := 999999) (by omega) (by omega)
  have r2 := between_yes (a := b) (lo := 1) (hi := 999999) (by omega) (by omega)
  have r3 := between_yes (a := x) (lo := 0) (hi := 999999999) (by omega) (by omega)
  have r4 := between_yes (a := y) (lo := 0) (hi := 999999999) (by omega) (by omega)
  obtain ⟨d1, c1, a1⟩ : ∃ ds, compL tr1 g1_are_rests tTrue e1_are_rests [some (.v (.tup [rsD a x, rsD b y])), none, none, none] [rsD a x, rsD b y] [] st = some (ds, st) ∧ bAll [.l (.lst ds)] st = some (.v (.bl true), st) := by
    refine ⟨[true, true].map .bl, ?_, by rw [bAll_l]; rfl⟩
    rw [comp_yes (s1 := st) (s2 := st) (s3 := st) (y := .bl true) trivial (by simp [g1_are_rests]; rfl) (by simp) (by simp [e1_are_rests, rsD]) (by simp),
      comp_yes (s1 := st) (s2 := st) (s3 := st) (y := .bl true) trivial (by simp [g1_are_rests]; rfl) (by simp) (by simp [e1_are_rests, rsD]) (by simp), comp_nil trivial]
    rfl
  obtain ⟨d2, c2, a2⟩ : ∃ ds, compL tr1 g2_are_rests tTrue e2_are_rests [some (.v (.tup [rsD a x, rsD b y])), none, none, none] [rsD a x, rsD b y] [] st = some (ds, st) ∧ bAll [.l (.lst ds)] st = some (.v (.bl true), st) := by
    refine ⟨[true, true].map .bl, ?_, by rw [bAll_l]; rfl⟩
    rw [comp_yes (s1 := st) (s2 := st) (s3 := st) (y := .bl true) trivial (by simp [g2_are_rests, rsD]; rfl) (by simp) (by simp [e2_are_rests, r1, r3]) (by simp),
      comp_yes (s1 := st) (s2 := st) (s3 := st) (y := .bl true) trivial (by simp [g2_are_rests, rsD]; rfl) (by simp) (by simp [e2_are_rests, r2, r4]) (by simp), comp_nil trivial]
    rfl
  simp [f_are_rests, runFn_ap, m_are_rests, wipeE, c1, a1, c2, a2]
theorem solve_ev {a b : Nat} (ha : 2 ≤ a) (ha2 : a ≤ 24) (hb : 1 ≤ b) (hb2 : b ≤ 24) {x y : Int} (hx : 0 ≤ x) (hx2 : x ≤ 1000) (hy : 0 ≤ y) (hy2 : y ≤ 1000) (st : Sto) : ∃ ds,
    f_solve [.v (.tup [rsD a x, rsD b y])] st = some (.v (.tup (.str (if (y - x).fmod (Nat.gcd a b : Nat) = 0 then "all" else "two") :: ds)), st) := by
  have h0 := are_rests_ev (by omega) ha2 hb hb2 hx hx2 hy hy2 st
  have hg : 0 < Nat.gcd a b := Nat.gcd_pos_of_pos_left _ (by omega)
  have q1 := ra2_ap (s := st) (i := 1) (k := 2) (by decide) (by decide) (by decide) (by decide)
  have q2 := ra2_ap (s := st) (i := 2) (k := 2) (by decide) (by decide) (by decide) (by decide)
  have e1 : rangeD 1 (2 - 1 : Int).toNat = [.int 1] := rfl
  have e2 : rangeD 2 (2 - 2 : Int).toNat = [] := rfl
  rw [e1] at q1
  rw [e2] at q2
  by_cases h : (y - x).fmod (Nat.gcd a b : Nat) = 0
  · rw [if_pos h]
    obtain ⟨r, hr, _⟩ := put_some (by omega) (by omega) (by omega) (by omega) x y h st
    obtain ⟨r1, hr1, hv⟩ := put_some (a := 1) (b := a) (by omega) (by omega) (by omega) (by omega) 0 x (by simp [Int.fmod_one]) st
    have hv := hv rfl rfl ha
    rw [Nat.gcd_one_left, Nat.div_one, Nat.one_mul] at hr1
    subst hv
    have h2 : (y - x.fmod a).fmod (Nat.gcd a b : Nat) = 0 := by
      rw [Int.fmod_eq_emod_of_nonneg _ (by omega)] at h ⊢
      rw [Int.fmod_eq_emod_of_nonneg _ (by omega), Int.sub_emod, Int.emod_emod_of_dvd x (Int.natCast_dvd_natCast.mpr (Nat.gcd_dvd_left a b)), ← Int.sub_emod]
      exact h
    obtain ⟨r3, hr3, _⟩ := put_some (by omega) (by omega) (by omega) (by omega) (x.fmod a) y h2 st
    have n1 : gIsN (.v (rsD (a * (b / Nat.gcd a b)) r)) (.v .non) st = some (.v (.bl false), st) := rfl
    have n2 : gIsN (.v (rsD 1 0)) (.v .non) st = some (.v (.bl false), st) := rfl
    have n3 : gIsN (.v (rsD a (x.fmod a))) (.v .non) st = some (.v (.bl false), st) := rfl
    have hr1' : f_put_together [.v (.tup [.int 1, .int 0]), .v (rsD a x)] st = some (.v (rsD a (x.fmod a)), st) := hr1
    have k1 := for_nx (ck := tr1) (g := g1_all_together) (b := b1_all_together) (d := rsD a x) (ds := [rsD b y]) (env := [some (.v (.tup [rsD a x, rsD b y])), some (.v (.tup [.int 1, .int 0])), none]) (e2 := [some (.v (.tup [rsD a x, rsD b y])), some (.v (rsD a (x.fmod a))), some (.v (rsD a x))]) (st := st) (s2 := st) trivial (by simp [g1_all_together]; and_intros <;> rfl) (by simp [b1_all_together, hr1'])
    have k2 := for_nx (ck := tr1) (g := g1_all_together) (b := b1_all_together) (d := rsD b y) (ds := []) (env := [some (.v (.tup [rsD a x, rsD b y])), some (.v (rsD a (x.fmod a))), some (.v (rsD a x))]) (e2 := [some (.v (.tup [rsD a x, rsD b y])), some (.v (rsD (a * (b / Nat.gcd a b)) r3)), some (.v (rsD b y))]) (st := st) (s2 := st) trivial (by simp [g1_all_together]; and_intros <;> rfl) (by simp [b1_all_together, hr3, n3])
    rw [k2, for_nil trivial] at k1
    have hall : f_all_together [.v (.tup [rsD a x, rsD b y])] st = some (.v (.tup [.int (a * (b / Nat.gcd a b) : Nat), .int r3]), st) := by
      simp [f_all_together, runFn_ap, m_all_together, k1]
      rfl
    have j1 := for_nx (ck := tr1) (g := g1_solve) (b := b1_solve) (d := .int 1) (ds := []) (env := [some (.v (.tup [rsD a x, rsD b y])), some (.v (.int 0)), some (.v (rsD a x)), none]) (e2 := [some (.v (.tup [rsD a x, rsD b y])), some (.v (.int 0)), some (.v (rsD a x)), some (.v (.int 1))]) (st := st) (s2 := st) trivial (by simp [g1_solve]; and_intros <;> rfl) (by simp [b1_solve, hr, n1])
    rw [for_nil trivial] at j1
    have i1 := for_nx (ck := tr1) (g := g2_solve) (b := b2_solve) (d := .tup [.int 0, rsD a x]) (ds := [.tup [.int 1, rsD b y]]) (env := [some (.v (.tup [rsD a x, rsD b y])), none, none, none]) (e2 := [some (.v (.tup [rsD a x, rsD b y])), some (.v (.int 0)), some (.v (rsD a x)), some (.v (.int 1))]) (st := st) (s2 := st) trivial (by simp [g2_solve]; and_intros <;> rfl) (by simp [b2_solve, q1, j1])
    have j2 := for_nil (ck := tr1) (g := g1_solve) (b := b1_solve) (env := [some (.v (.tup [rsD a x, rsD b y])), some (.v (.int 1)), some (.v (rsD b y)), some (.v (.int 1))]) (st := st) trivial
    have i2 := for_nx (ck := tr1) (g := g2_solve) (b := b2_solve) (d := .tup [.int 1, rsD b y]) (ds := []) (env := [some (.v (.tup [rsD a x, rsD b y])), some (.v (.int 0)), some (.v (rsD a x)), some (.v (.int 1))]) (e2 := [some (.v (.tup [rsD a x, rsD b y])), some (.v (.int 1)), some (.v (rsD b y)), some (.v (.int 1))]) (st := st) (s2 := st) trivial (by simp [g2_solve]; and_intros <;> rfl) (by simp [b2_solve, q2, j2])
    rw [i2, for_nil trivial] at i1
    exact ⟨_, by simp [f_solve, runFn_ap, m_solve, h0, enumD, i1, hall]; rfl⟩
  · rw [if_neg h]
    have hn := put_none (a := a) (b := b) (by omega) x y h st
    have j1 := for_rt (ck := tr1) (g := g1_solve) (b := b1_solve) (d := .int 1) (ds := []) (env := [some (.v (.tup [rsD a x, rsD b y])), some (.v (.int 0)), some (.v (rsD a x)), none]) (e := [some (.v (.tup [rsD a x, rsD b y])), some (.v (.int 0)), some (.v (rsD a x)), some (.v (.int 1))]) (r := .v (.tup [.str "two", .int 0, .int 1])) (st := st) (s1 := st) (s2 := st) trivial (by simp [g1_solve]) (by simp [b1_solve, hn])
    have i1 := for_rt (ck := tr1) (g := g2_solve) (b := b2_solve) (d := .tup [.int 0, rsD a x]) (ds := [.tup [.int 1, rsD b y]]) (env := [some (.v (.tup [rsD a x, rsD b y])), none, none, none]) (e := [some (.v (.tup [rsD a x, rsD b y])), some (.v (.int 0)), some (.v (rsD a x)), none]) (r := .v (.tup [.str "two", .int 0, .int 1])) (st := st) (s1 := st) (s2 := st) trivial (by simp [g2_solve]) (by simp [b2_solve, q1, j1])
    exact ⟨_, by simp [f_solve, runFn_ap, m_solve, h0, enumD, i1]; rfl⟩
end K80
namespace K80
open Mi
/-! ### by solve -/
def Mt (p q : Pc) (s t late more : Nat) : Prop := ((t : Int) + more - (s + late)).fmod (Nat.gcd p.1 q.1 : Nat) = 0
theorem mt_dc {p q : Pc} (hp : Good p) (hq : Good q) (s t : Nat) : dc p q s t = true ↔ ∃ late more, late < p.2 ∧ more < q.2 ∧ Mt p q s t late more := by
  have hb := hp.bd
  have hb2 := hq.bd
  have hg : 0 < Nat.gcd p.1 q.1 := Nat.gcd_pos_of_pos_left _ (by omega)
  have hG : (0 : Int) < (Nat.gcd p.1 q.1 : Nat) := by omega
  unfold dc Mt
  generalize ((Nat.gcd p.1 q.1 : Nat) : Int) = g at *
  rw [Bool.or_eq_true, Int.fmod_eq_emod_of_nonneg _ (by omega), Int.fmod_eq_emod_of_nonneg _ (by omega)]
  constructor
  · rintro (h | h)
    · have h := of_decide_eq_true h
      have h0 := Int.emod_nonneg ((t : Int) - s) (show g ≠ 0 by omega)
      obtain ⟨r, hr⟩ := Int.eq_ofNat_of_zero_le h0
      refine ⟨r, 0, by omega, by omega, ?_⟩
      (rw [Int.fmod_eq_emod_of_nonneg _ (by omega)]); have e := Int.emod_add_mul_ediv ((t : Int) - s) g
      rw [show (t : Int) + ((0 : Nat) : Int) - (s + (r : Nat)) = g * (((t : Int) - s) / g) by omega, Int.mul_emod_right]
    · have h := of_decide_eq_true h
      have h0 := Int.emod_nonneg ((s : Int) - t) (show g ≠ 0 by omega)
      obtain ⟨r, hr⟩ := Int.eq_ofNat_of_zero_le h0
      refine ⟨0, r, by omega, by omega, ?_⟩
      (rw [Int.fmod_eq_emod_of_nonneg _ (by omega)]); have e := Int.emod_add_mul_ediv ((s : Int) - t) g
      rw [show (t : Int) + (r : Nat) - (s + ((0 : Nat) : Int)) = g * (-(((s : Int) - t) / g)) by rw [Int.mul_neg]; omega, Int.mul_emod_right]
  · rintro ⟨late, more, h1, h2, h⟩
    rw [Int.fmod_eq_emod_of_nonneg _ (by omega)] at h
    obtain ⟨c, hc⟩ := Int.dvd_of_emod_eq_zero h
    by_cases hxy : more ≤ late
    · left
      refine decide_eq_true ?_
      rw [show (t : Int) - s = ((late : Int) - more) + g * c by omega, Int.add_mul_emod_self_left]
      have := emod_le (show 0 ≤ (late : Int) - more by omega) hG
      omega
    · right
      refine decide_eq_true ?_
      rw [show (s : Int) - t = ((more : Int) - late) + g * (-c) by rw [Int.mul_neg]; omega, Int.add_mul_emod_self_left]
      have := emod_le (show 0 ≤ (more : Int) - late by omega) hG
      omega
theorem all_all : ((("all" : PySem.Str) == "all") = true) ∧ ((("two" : PySem.Str) == "all") = false) ∧ PySem.PyData.strOk "all" = true ∧ PySem.PyData.strOk "two" = true := by decide +kernel
theorem ldc_ev {p q : Pc} (hp : Good p) (hq : Good q) {s t : Nat} (hs : s < p.1) (ht : t < q.1) (st : Sto) : f__law_do_clash [.v (pcD p), .v (pcD q), .v (.int s), .v (.int t)] st = some (.v (.bl (dc p q s t)), st) := by
  have hb := hp.bd
  have hb2 := hq.bd
  obtain ⟨sa, sb, sc, sd⟩ := all_all
  have inner : ∀ (late : Nat) (hl : late < p.2) (y : Option R), Ends (fun e s' => s' = st ∧ (∃ z, e = [some (.v (pcD p)), some (.v (pcD q)), some (.v (.int s)), some (.v (.int t)), some (.v (.int (late : Int))), z]) ∧ ∀ m, m < q.2 → ¬ Mt p q s t late m)
      (fun r s' => s' = st ∧ r = .v (.bl true) ∧ ∃ m, m < q.2 ∧ Mt p q s t late m) (forL tr1 g1__law_do_clash b1__law_do_clash (rangeD 0 q.2) [some (.v (pcD p)), some (.v (pcD q)), some (.v (.int s)), some (.v (.int t)), some (.v (.int (late : Int))), y] st) := by
    intro late hl y
    have hf := for_post (ck := tr1) (g := g1__law_do_clash) (b := b1__law_do_clash) (ds := rangeD 0 q.2) (env := [some (.v (pcD p)), some (.v (pcD q)), some (.v (.int s)), some (.v (.int t)), some (.v (.int (late : Int))), y]) (st := st)
      (fun n e s' => s' = st ∧ (∃ z, e = [some (.v (pcD p)), some (.v (pcD q)), some (.v (.int s)), some (.v (.int t)), some (.v (.int (late : Int))), z]) ∧ ∀ m, m < n → ¬ Mt p q s t late m)
      (fun r s' => s' = st ∧ r = .v (.bl true) ∧ ∃ m, m < q.2 ∧ Mt p q s t late m) ?step (fun _ _ _ => trivial) ⟨rfl, ⟨_, rfl⟩, fun m h => by omega⟩
    case step =>
      rintro n d e s' hd ⟨rfl, ⟨z, rfl⟩, hn⟩
      unfold rangeD at hd
      rw [List.getElem?_map] at hd
      have hlt : n < q.2 := by
        rcases Nat.lt_or_ge n q.2 with h | h
        · exact h
        · rw [List.getElem?_eq_none (by rw [List.length_range]; exact h)] at hd
          cases hd
      rw [List.getElem?_range hlt] at hd
      cases hd
      obtain ⟨ds, hsol⟩ := solve_ev (a := p.1) (b := q.1) (by omega) hb.2.1 (by omega) hb2.2.1 (x := (s : Int) + late) (y := (t : Int) + n) (by omega) (by omega) (by omega) (by omega) s'
      unfold rsD at hsol
      by_cases h : Mt p q s t late n
      · rw [if_pos (show ((t : Int) + n - (s + late)).fmod (Nat.gcd p.1 q.1 : Nat) = 0 from h)] at hsol
        have hq := gEq_ss sc sc s'
        rw [sa] at hq
        exact turn_r (I := fun e s'' => s'' = s' ∧ (∃ z, e = [some (.v (pcD p)), some (.v (pcD q)), some (.v (.int s)), some (.v (.int t)), some (.v (.int (late : Int))), z]) ∧ ∀ m, m < n + 1 → ¬ Mt p q s t late m) (Rt := fun r s'' => s'' = s' ∧ r = .v (.bl true) ∧ ∃ m, m < q.2 ∧ Mt p q s t late m)
          (r := .v (.bl true)) (s2 := s') trivial (by simp [g1__law_do_clash]; and_intros <;> rfl) (by simp [b1__law_do_clash, hsol, hq]) ⟨rfl, rfl, n, hlt, h⟩
      · rw [if_neg (show ¬ ((t : Int) + n - (s + late)).fmod (Nat.gcd p.1 q.1 : Nat) = 0 from h)] at hsol
        have hq := gEq_ss sd sc s'
        rw [sb] at hq
        refine turn_n (e2 := [some (.v (pcD p)), some (.v (pcD q)), some (.v (.int s)), some (.v (.int t)), some (.v (.int (late : Int))), some (.v (.int (n : Int)))]) (s2 := s') trivial (by simp [g1__law_do_clash]; and_intros <;> rfl) (by simp [b1__law_do_clash, hsol, hq]) ⟨rfl, ⟨_, rfl⟩, fun m hm => ?_⟩
        by_cases e : m = n
        · rw [e]; exact h
        · exact hn m (by omega)
    rcases hf with ⟨e, s', he, h1, h2, h3⟩ | h
    · rw [show (rangeD 0 q.2).length = q.2 by simp [rangeD]] at h3
      exact .inl ⟨e, s', he, h1, h2, h3⟩
    · exact .inr h
  have r1 := ra1_ap (k := p.2) (s := st) (by omega) (by omega)
  have r2 := ra1_ap (k := q.2) (s := st) (by omega) (by omega)
  rw [Int.toNat_natCast] at r1 r2
  have hf := for_post (ck := tr1) (g := g2__law_do_clash) (b := b2__law_do_clash) (ds := rangeD 0 p.2) (env := [some (.v (pcD p)), some (.v (pcD q)), some (.v (.int s)), some (.v (.int t)), none, none]) (st := st)
    (fun n e s' => s' = st ∧ (∃ y z, e = [some (.v (pcD p)), some (.v (pcD q)), some (.v (.int s)), some (.v (.int t)), y, z]) ∧ ∀ l, l < n → ∀ m, m < q.2 → ¬ Mt p q s t l m)
    (fun r s' => s' = st ∧ r = .v (.bl true) ∧ ∃ l m, l < p.2 ∧ m < q.2 ∧ Mt p q s t l m) ?step (fun _ _ _ => trivial) ⟨rfl, ⟨_, _, rfl⟩, fun l h => by omega⟩
  case step =>
    rintro n d e s' hd ⟨rfl, ⟨y, z, rfl⟩, hn⟩
    unfold rangeD at hd
    rw [List.getElem?_map] at hd
    have hlt : n < p.2 := by
      rcases Nat.lt_or_ge n p.2 with h | h
      · exact h
      · rw [List.getElem?_eq_none (by rw [List.length_range]; exact h)] at hd
        cases hd
    rw [List.getElem?_range hlt] at hd
    cases hd
    have hin := inner n hlt z
    have hb : b2__law_do_clash [some (.v (pcD p)), some (.v (pcD q)), some (.v (.int s)), some (.v (.int t)), some (.v (.int (n : Int))), z] s' = forL tr1 g1__law_do_clash b1__law_do_clash (rangeD 0 q.2) [some (.v (pcD p)), some (.v (pcD q)), some (.v (.int s)), some (.v (.int t)), some (.v (.int (n : Int))), z] s' := by
      simp [b2__law_do_clash, r2]
    refine ⟨trivial, [some (.v (pcD p)), some (.v (pcD q)), some (.v (.int s)), some (.v (.int t)), some (.v (.int (n : Int))), z], s', by simp [g2__law_do_clash], ?_⟩
    rw [hb]
    rcases hin with ⟨e2, s2, he, rfl, ⟨z2, rfl⟩, h3⟩ | ⟨r, s2, he, rfl, rfl, m, hm, h3⟩
    · exact .inl ⟨_, _, he, rfl, ⟨_, _, rfl⟩, fun l h1 => if e : l = n then by rw [e]; exact h3 else hn l (by omega)⟩
    · exact .inr ⟨_, _, he, rfl, rfl, n, m, hlt, hm, h3⟩
  rcases hf with ⟨e, s', he, rfl, ⟨y, z, rfl⟩, h3⟩ | ⟨r, s', he, rfl, rfl, l, m, hl, hm, h3⟩
  · rw [show (rangeD 0 p.2).length = p.2 by simp [rangeD]] at h3
    have hd : dc p q s t = false := by
      rw [Bool.eq_false_iff]
      intro z
      obtain ⟨l, m, h1, h2, h⟩ := (mt_dc hp hq s t).mp z
      exact h3 l h1 m h2 h
    rw [hd]
    simp [f__law_do_clash, runFn_ap, m__law_do_clash, r1, he]
  · have hd : dc p q s t = true := (mt_dc hp hq s t).mpr ⟨l, m, hl, hm, h3⟩
    rw [hd]
    simp [f__law_do_clash, runFn_ap, m__law_do_clash, r1, he]
end K80
namespace K80
open Mi
/-! ### the minute of a clash has two -/
theorem lhas_ev {a : Pc} (ha : Arc a) {t : Nat} (ht : t < 24) (st : Sto) : f__law_has [.v (.int 24), .v (pcD a), .v (.int t)] st = some (.v (.bl (has (t : Int) a)), st) := by
  obtain ⟨h1, h2, h3⟩ := ha
  rw [has_nat h1]
  have e : decide ((t + 24 - a.1) % 24 < a.2) = ((decide ((a.1 : Int) ≤ t) && decide ((t : Int) < a.1 + a.2)) || (decide ((a.1 : Int) ≤ t + 24) && decide ((t : Int) + 24 < a.1 + a.2))) := by
    rw [Bool.eq_iff_iff]
    simp only [Bool.or_eq_true, Bool.and_eq_true, decide_eq_true_eq]
    omega
  rw [e]
  by_cases c1 : (a.1 : Int) ≤ t
  · by_cases c2 : (t : Int) < a.1 + a.2
    · have c3 : a.1 ≤ t := by omega
      simp [f__law_has, runFn_ap, m__law_has, c1, c2, c3]
    · have c3 : a.1 ≤ t := by omega
      have c4 : (a.1 : Int) ≤ t + 24 := by omega
      simp [f__law_has, runFn_ap, m__law_has, c1, c2, c3, c4]
  · have c3 : ¬ a.1 ≤ t := by omega
    have c4 : (a.1 : Int) ≤ t + 24 := by omega
    simp [f__law_has, runFn_ap, m__law_has, c1, c3, c4]
theorem aw_mod {p : Pc} {s : Nat} {m : Int} (hp : Good p) : aw p s (m.fmod 24) = aw p s m := by
  have hb := hp.bd
  have dp : (p.1 : Int) ∣ 24 := by rcases hp.1 with h | h | h | h | h | h <;> rw [h] <;> decide
  obtain ⟨c, hc⟩ := dp
  unfold aw
  congr 2
  rw [Int.fmod_eq_emod_of_nonneg _ (by omega), Int.fmod_eq_emod_of_nonneg _ (by omega), Int.fmod_eq_emod_of_nonneg _ (by omega)]
  have e := Int.emod_add_mul_ediv m 24
  generalize m / 24 = w at *
  generalize m % 24 = z at *
  rw [← e, hc, Int.mul_assoc, show z + (p.1 : Int) * (c * w) - s = z - s + p.1 * (c * w) by omega, Int.add_mul_emod_self_left]
theorem both_cnt {p q : Pc} {s t : Nat} (hp : Good p) (hq : Good q) (hs : s < p.1) (ht : t < q.1) {m : Int} (h1 : aw p s m = true) (h2 : aw q t m = true) {n : Nat} (hn : m.fmod 24 = n) : cnt (arcs [p, q] [s, t]) (n : Int) = 2 := by
  have hn2 : n < 24 := by
    have := fmod_nn m (show (0 : Int) < 24 by decide)
    omega
  rw [cnt_arcs (ps := [p, q]) (ss := [s, t]) (fun x hx => by simp at hx; rcases hx with rfl | rfl <;> assumption) ⟨rfl, fun x hx => by simp at hx; rcases hx with rfl | rfl <;> assumption⟩ hn2]
  have e1 := aw_mod (s := s) (m := m) hp
  have e2 := aw_mod (s := t) (m := m) hq
  rw [hn] at e1 e2
  rw [h1] at e1
  rw [h2] at e2
  simp [e1, e2]
theorem lcnt_ev {A : List Pc} (hA : ∀ a ∈ A, Arc a) (hl : A.length ≤ 1000) {t : Nat} (ht : t < 24) (x0 x1 x2 x3 x4 x5 x6 x7 x8 x10 x11 x12 x13 : Option R) (i j m : Int) (hm : m.fmod 24 = t) (st : Sto) :
    compL tr1 g5__law_right c1__law_right e2__law_right [x0, x1, x2, x3, x4, x5, x6, x7, x8, some (.v (.tup [.int i, .int j, .int m])), x10, x11, x12, x13, none] (A.map pcD) [] st = some ((A.filter (has (t : Int))).map pcD, st) := by
  rw [comp_pure (fun d => match d with | .tup [.int b, .int l] => if decide (((t : Int) - b).fmod 24 < l) = true then some d else none | _ => none) trivial (by simp; omega)]
  · congr 2
    rw [List.nil_append, List.filterMap_map]
    clear hl hA
    induction A with
    | nil => rfl
    | cons m ms ih =>
      by_cases h : has (t : Int) m = true
      · rw [List.filterMap_cons_some (b := pcD m) (by unfold has at h; simp [pcD]; exact of_decide_eq_true h), List.filter_cons_of_pos h, List.map_cons, ih]
      · rw [List.filterMap_cons_none (by unfold has at h; simp [pcD]; have := of_decide_eq_false (Bool.eq_false_iff.mpr h); omega), List.filter_cons_of_neg h, ih]
  · intro d hd
    obtain ⟨a, ha, rfl⟩ := List.mem_map.mp hd
    have e := lhas_ev (hA a ha) ht st
    refine ⟨_, by simp [g5__law_right]; rfl, ?_⟩
    by_cases h : has (t : Int) a = true
    · refine .inr ⟨by simp [c1__law_right, hm, e, h], pcD a, by simp [e2__law_right], ?_⟩
      unfold has at h
      simp [pcD, h]
    · refine .inl ⟨by simp [c1__law_right, hm, e, h], ?_⟩
      unfold has at h
      simp [pcD, h]
end K80
namespace K80
open Mi
/-! ### frames -/
def frm (ps : List Pc) (i : Nat) : Nat → Nat
  | 0 => 1
  | n + 1 => if n = i then frm ps i n else Nat.lcm (frm ps i n) (Nat.gcd (pat ps i).1 (pat ps n).1)
theorem frm_dvd (ps : List Pc) (i : Nat) : ∀ n, frm ps i n ∣ (pat ps i).1
  | 0 => Nat.one_dvd _
  | n + 1 => by
    unfold frm
    split
    · exact frm_dvd ps i n
    · exact Nat.lcm_dvd (frm_dvd ps i n) (Nat.gcd_dvd_left _ _)
theorem frm_pos {ps : List Pc} (hg : ∀ p ∈ ps, Good p) (i n : Nat) : 0 < frm ps i n ∧ frm ps i n ≤ 24 := by
  have hb := (pat_good hg i).bd
  exact ⟨Nat.pos_of_dvd_of_pos (frm_dvd ps i n) (by omega), Nat.le_trans (Nat.le_of_dvd (by omega) (frm_dvd ps i n)) hb.2.1⟩
theorem lw_ev {a b : Nat} (ha : 0 < a) (ha2 : a ≤ 1000) (hb : 0 < b) (hb2 : b ≤ 1000) (st : Sto) : f_least_with [.v (.int a), .v (.int b)] st = some (.v (.int (Nat.lcm a b : Nat)), st) := by
  have hg : 0 < Nat.gcd a b := Nat.gcd_pos_of_pos_left _ ha
  have hga : Nat.gcd a b ≤ a := Nat.gcd_le_left _ ha
  have c1 := common_ev a b st
  have g1 := gMul_nl (i := b) (n := a) (s := st) (by omega)
  have g2 := gFdiv_ap (i := (a : Int) * b) (j := (Nat.gcd a b : Nat)) (s := st) (by omega) (by omega) (by omega)
  have e : Int.fdiv ((a : Int) * b) (Nat.gcd a b : Nat) = (Nat.lcm a b : Nat) := by
    rw [Int.fdiv_eq_ediv_of_nonneg _ (by omega)]
    unfold Nat.lcm
    rw [Int.natCast_ediv, Int.natCast_mul]
  rw [e] at g2
  generalize ((Nat.gcd a b : Nat) : Int) = g at *
  simp [f_least_with, runFn_ap, m_least_with, c1, g1, g2]
theorem frame_in {ps : List Pc} (hg : ∀ p ∈ ps, Good p) (i : Nat) (x1 x5 x6 x7 : Option R) (st : Sto) : ∃ z6 z7,
    forL tr1 g1_frames_of b1_frames_of (enumD 0 (ps.map pcD)) [some (pcs ps), x1, some (.v (.int (i : Int))), some (.v (.int 1)), some (.v (.int (pat ps i).1)), x5, x6, x7] st =
      some (.nx [some (pcs ps), x1, some (.v (.int (i : Int))), some (.v (.int (frm ps i ps.length : Nat))), some (.v (.int (pat ps i).1)), x5, z6, z7], st) := by
  have hf := for_inv (ck := tr1) (g := g1_frames_of) (b := b1_frames_of) (ds := enumD 0 (ps.map pcD)) (env := [some (pcs ps), x1, some (.v (.int (i : Int))), some (.v (.int 1)), some (.v (.int (pat ps i).1)), x5, x6, x7]) (st := st)
    (fun n e s => s = st ∧ ∃ z6 z7, e = [some (pcs ps), x1, some (.v (.int (i : Int))), some (.v (.int (frm ps i n : Nat))), some (.v (.int (pat ps i).1)), x5, z6, z7])
    ?step (fun _ _ _ => trivial) ⟨rfl, _, _, rfl⟩
  case step =>
    rintro n d e s hd ⟨rfl, z6, z7, rfl⟩
    obtain ⟨x', hx, rfl⟩ := enum_at hd
    rw [List.getElem?_map] at hx
    cases q : ps[n]? with
    | none => rw [q] at hx; cases hx
    | some p =>
      rw [q] at hx
      cases hx
      have ep : p = pat ps n := by
        unfold pat
        rw [List.getD_eq_getElem?_getD, q]
        rfl
      subst ep
      have hp := frm_pos hg i n
      have hb := (pat_good hg i).bd
      have hb2 := (pat_good hg n).bd
      have hgp : 0 < Nat.gcd (pat ps i).1 (pat ps n).1 := Nat.gcd_pos_of_pos_left _ (by omega)
      have hgl : Nat.gcd (pat ps i).1 (pat ps n).1 ≤ (pat ps i).1 := Nat.gcd_le_left _ (by omega)
      have l1 := lw_ev hp.1 (by omega) hgp (by omega) s
      have c1 := common_ev (pat ps i).1 (pat ps n).1 s
      by_cases h : n = i
      · have ef : frm ps i (n + 1) = frm ps i n := by
          conv => lhs; unfold frm
          rw [if_pos h]
        rw [ef]
        exact turn_nx (I := fun e s' => s' = s ∧ ∃ z6 z7, e = [some (pcs ps), x1, some (.v (.int (i : Int))), some (.v (.int (frm ps i n : Nat))), some (.v (.int (pat ps i).1)), x5, z6, z7]) trivial (by simp [g1_frames_of]; and_intros <;> rfl) (by simp [b1_frames_of, h]; and_intros <;> rfl) ⟨rfl, _, _, rfl⟩
      · have ef : frm ps i (n + 1) = Nat.lcm (frm ps i n) (Nat.gcd (pat ps i).1 (pat ps n).1) := by
          conv => lhs; unfold frm
          rw [if_neg h]
        rw [ef]
        have h' : ¬ (n : Int) = i := by omega
        exact turn_nx (I := fun e s' => s' = s ∧ ∃ z6 z7, e = [some (pcs ps), x1, some (.v (.int (i : Int))), some (.v (.int (Nat.lcm (frm ps i n) (Nat.gcd (pat ps i).1 (pat ps n).1) : Nat))), some (.v (.int (pat ps i).1)), x5, z6, z7]) trivial (by simp [g1_frames_of]; and_intros <;> rfl) (by simp [b1_frames_of, h, h', c1, l1]; and_intros <;> rfl) ⟨rfl, _, _, rfl⟩
  obtain ⟨e, s, he, rfl, z6, z7, rfl⟩ := hf
  rw [enumD_length, List.length_map] at he
  exact ⟨_, _, he⟩
def frs (ps : List Pc) (n : Nat) : List Nat := (List.range n).map fun i => frm ps i ps.length
theorem frs_succ (ps : List Pc) (n : Nat) : frs ps (n + 1) = frs ps n ++ [frm ps n ps.length] := by
  unfold frs
  rw [List.range_succ, List.map_append]
  rfl
theorem frs_len (ps : List Pc) (n : Nat) : (frs ps n).length = n := by simp [frs]
def own1 (ps : List Pc) (n : Nat) : List D := (frs ps n).map stD
theorem frames_of_ev {ps : List Pc} (hg : ∀ p ∈ ps, Good p) (h5 : ps.length ≤ 5) (st : Sto) : f_frames_of [pcs ps] st = some (.l (.lst (own1 ps ps.length)), st) := by
  have hf := for_inv (ck := tr1) (g := g2_frames_of) (b := b2_frames_of) (ds := enumD 0 (ps.map pcD)) (env := [some (pcs ps), some (.l (.lst [])), none, none, none, none, none, none]) (st := st)
    (fun n e s => s = st ∧ ∃ z2 z3 z4 z5 z6 z7, e = [some (pcs ps), some (.l (.lst (own1 ps n))), z2, z3, z4, z5, z6, z7])
    ?step (fun _ _ _ => trivial) ⟨rfl, _, _, _, _, _, _, rfl⟩
  case step =>
    rintro n d e s hd ⟨rfl, z2, z3, z4, z5, z6, z7, rfl⟩
    obtain ⟨x', hx, rfl⟩ := enum_at hd
    rw [List.getElem?_map] at hx
    cases q : ps[n]? with
    | none => rw [q] at hx; cases hx
    | some p =>
      rw [q] at hx
      cases hx
      have hlt : n < ps.length := (List.getElem?_eq_some_iff.mp q).1
      have ep : p = pat ps n := by
        unfold pat
        rw [List.getD_eq_getElem?_getD, q]
        rfl
      subst ep
      obtain ⟨y6, y7, hin⟩ := frame_in hg n (some (.l (.lst (own1 ps n)))) (some (.v (.int (pat ps n).2))) z6 z7 s
      have hl : (own1 ps n).length + 1 ≤ 16777216 := by
        unfold own1
        rw [List.length_map, frs_len]
        omega
      have ha := fAppend_ap (d := .int (frm ps n ps.length : Nat)) (s := s) hl
      have eo : own1 ps (n + 1) = own1 ps n ++ [.int (frm ps n ps.length : Nat)] := by
        unfold own1
        rw [frs_succ, List.map_append]
        rfl
      rw [eo]
      generalize own1 ps n = A at *
      have g1 : g2_frames_of (.tup [.int (n : Int), pcD (pat ps n)]) [some (pcs ps), some (.l (.lst A)), z2, z3, z4, z5, z6, z7] s = some ([some (pcs ps), some (.l (.lst A)), some (.v (.int (n : Int))), z3, some (.v (.int (pat ps n).1)), some (.v (.int (pat ps n).2)), z6, z7], s) := by
        simp [g2_frames_of, pcD]
      have b1 : b2_frames_of [some (pcs ps), some (.l (.lst A)), some (.v (.int (n : Int))), z3, some (.v (.int (pat ps n).1)), some (.v (.int (pat ps n).2)), z6, z7] s = some (.nx [some (pcs ps), some (.l (.lst (A ++ [.int (frm ps n ps.length : Nat)]))), some (.v (.int (n : Int))), some (.v (.int (frm ps n ps.length : Nat))), some (.v (.int (pat ps n).1)), some (.v (.int (pat ps n).2)), y6, y7], s) := by
        simp [b2_frames_of, hin, ha]
      exact ⟨trivial, _, _, _, _, g1, b1, rfl, _, _, _, _, _, _, rfl⟩
  obtain ⟨e, s, he, rfl, z2, z3, z4, z5, z6, z7, rfl⟩ := hf
  rw [enumD_length, List.length_map] at he
  simp [f_frames_of, runFn_ap, m_frames_of, he]
end K80
/-! Mi: equality of data. -/
namespace Mi
open PySem hiding Env
/-- data that may be compared: at most n deep -/
def Pd (n : Nat) (st : Sto) (d : D) (p : PyData) : Prop := (∀ k, n ≤ k → pdD k st d = some p) ∧ p.canLay0 = true ∧ p.depth ≤ n
def Pds (n : Nat) (st : Sto) (ds : List D) (ps : List PyData) : Prop := (∀ k, n ≤ k → pdL k st ds = some ps) ∧ PyData.canLayAll0 ps = true ∧ PyData.depthAll ps ≤ n
section
variable {n m : Nat} {st : Sto} {d e : D} {p q : PyData} {ds es : List D} {ps qs : List PyData}
theorem Pd.int (i : Int) : Pd 0 st (.int i) (.int i) := ⟨fun k _ => by rw [pdD], by rw [PyData.canLay0], by rw [PyData.depth]; exact Nat.le_refl _⟩
theorem Pd.bl (b : Bool) : Pd 0 st (.bl b) (.bool b) := ⟨fun k _ => by rw [pdD], by rw [PyData.canLay0], by rw [PyData.depth]; exact Nat.le_refl _⟩
theorem Pd.non : Pd 0 st .non .none := ⟨fun k _ => by rw [pdD], by rw [PyData.canLay0], by rw [PyData.depth]; exact Nat.le_refl _⟩
theorem Pd.str {x : Str} (h : PyData.strOk x = true) : Pd 0 st (.str x) (.str x) := ⟨fun k _ => by rw [pdD], by rw [PyData.canLay0]; exact h, by rw [PyData.depth]; exact Nat.le_refl _⟩
theorem Pd.up (h : Pd n st d p) (hn : n ≤ m) : Pd m st d p := ⟨fun k hk => h.1 k (Nat.le_trans hn hk), h.2.1, Nat.le_trans h.2.2 hn⟩
theorem Pds.nil : Pds n st [] [] := ⟨fun k _ => by rw [pdL], by rw [PyData.canLayAll0], by rw [PyData.depthAll]; exact Nat.zero_le _⟩
theorem Pds.cons (h : Pd n st d p) (t : Pds n st ds ps) : Pds n st (d :: ds) (p :: ps) := by
  refine ⟨fun k hk => ?_, ?_, ?_⟩
  · rw [pdL, h.1 k hk, t.1 k hk]
  · rw [PyData.canLayAll0, h.2.1, t.2.1]
    rfl
  · rw [PyData.depthAll]
    exact Nat.max_le.mpr ⟨h.2.2, t.2.2⟩
theorem Pds.map {α : Type} {f : α → D} {g : α → PyData} (h : ∀ x, Pd n st (f x) (g x)) : ∀ xs : List α, Pds n st (xs.map f) (xs.map g)
  | [] => .nil
  | x :: xs => .cons (h x) (Pds.map h xs)
theorem Pds.tup (h : Pds n st ds ps) : Pd (n + 1) st (.tup ds) (.tuple ps) := by
  refine ⟨fun k hk => ?_, ?_, ?_⟩
  · cases k with
    | zero => omega
    | succ k =>
      rw [pdD, h.1 k (by omega)]
      rfl
  · rw [PyData.canLay0]
    exact h.2.1
  · rw [PyData.depth]
    exact Nat.succ_le_succ h.2.2
theorem shaped_of {p : PyData} (h1 : p.canLay0 = true) (h2 : p.depth ≤ 64) : SeqAt.shaped p = true := by
  unfold SeqAt.shaped
  rw [h1, decide_eq_true h2]
  rfl
theorem cmpP {f : PyData → PyData → Bool} {a b : R} (ha : pdR st a = some p) (hb : pdR st b = some q) (h1 : SeqAt.shaped p = true) (h2 : SeqAt.shaped q = true) : gCmp f a b st = some (.v (.bl (f p q)), st) := by
  unfold gCmp
  rw [ha, hb]
  dsimp only
  rw [if_pos (by rw [h1, h2]; rfl)]
  rfl
theorem pdR_v (h : Pd n st d p) (hn : n ≤ 8) : pdR st (.v d) = some p := h.1 8 hn
theorem pdR_l (h : Pds n st ds ps) (hn : n ≤ 8) : pdR st (.l (.lst ds)) = some (.list ps) := by
  show (pdL 8 st ds).map PyData.list = _
  rw [h.1 8 hn]
  rfl
theorem pdR_o (h : Pds n st ds ps) (hn : n ≤ 8) : pdR st (.o (.lst ds)) = some (.list ps) := by
  show (pdL 8 st ds).map PyData.list = _
  rw [h.1 8 hn]
  rfl
theorem Pds.shaped (h : Pds n st ds ps) (hn : n ≤ 8) : SeqAt.shaped (.list ps) = true := shaped_of (by rw [PyData.canLay0]; exact h.2.1) (by rw [PyData.depth]; have := h.2.2; omega)
theorem Pd.shaped (h : Pd n st d p) (hn : n ≤ 8) : SeqAt.shaped p = true := shaped_of h.2.1 (by have := h.2.2; omega)
/-- values are compared -/
theorem gEq_vv (h : Pd n st d p) (h' : Pd m st e q) (hn : n ≤ 8) (hm : m ≤ 8) : gEq (.v d) (.v e) st = some (.v (.bl (PyData.eqv p q)), st) := cmpP (pdR_v h hn) (pdR_v h' hm) (h.shaped hn) (h'.shaped hm)
theorem gNe_vv (h : Pd n st d p) (h' : Pd m st e q) (hn : n ≤ 8) (hm : m ≤ 8) : gNe (.v d) (.v e) st = some (.v (.bl (!PyData.eqv p q)), st) := cmpP (pdR_v h hn) (pdR_v h' hm) (h.shaped hn) (h'.shaped hm)
@[simp] theorem gNe_bb (a b : Bool) (st : Sto) : gNe (.v (.bl a)) (.v (.bl b)) st = some (.v (.bl (a != b)), st) := by
  rw [gNe_vv (Pd.bl a) (Pd.bl b) (by omega) (by omega), PyData.eqv]
  rfl
/-- a list of its own and an empty one -/
theorem gEq_on (h : Pds n st ds ps) (hn : n ≤ 8) : gEq (.o (.lst ds)) (.l (.lst [])) st = some (.v (.bl ds.isEmpty), st) := by
  have e : PyData.eqv (.list ps) (.list []) = ds.isEmpty := by
    have hl := h.1 8 hn
    rw [PyData.eqv]
    cases ds with
    | nil =>
      rw [pdL] at hl
      cases hl
      rw [PyData.eqvAll]
      rfl
    | cons d ds =>
      cases ps with
      | nil =>
        rw [pdL] at hl
        split at hl <;> cases hl
      | cons p ps =>
        rw [PyData.eqvAll]
        rfl
  unfold gEq
  rw [cmpP (pdR_o h hn) (pdR_l (n := 0) .nil (by omega)) (h.shaped hn) (Pds.shaped (n := 0) (st := st) .nil (by omega)), e]
theorem gNe_on (h : Pds n st ds ps) (hn : n ≤ 8) : gNe (.o (.lst ds)) (.l (.lst [])) st = some (.v (.bl (!ds.isEmpty)), st) := by
  have h1 := gEq_on h hn
  unfold gEq at h1
  rw [cmpP (pdR_o h hn) (pdR_l (n := 0) .nil (by omega)) (h.shaped hn) (Pds.shaped (n := 0) (st := st) .nil (by omega))] at h1
  unfold gNe
  rw [cmpP (pdR_o h hn) (pdR_l (n := 0) .nil (by omega)) (h.shaped hn) (Pds.shaped (n := 0) (st := st) .nil (by omega))]
  simp at h1
  rw [h1]
theorem eqv_ints : ∀ (xs ys : List Int), PyData.eqvAll (xs.map .int) (ys.map .int) = decide (xs = ys)
  | [], [] => by rw [List.map_nil, PyData.eqvAll]; rfl
  | [], y :: ys => by rw [List.map_nil, List.map_cons, PyData.eqvAll]; simp
  | x :: xs, [] => by rw [List.map_nil, List.map_cons, PyData.eqvAll]; simp
  | x :: xs, y :: ys => by
    rw [List.map_cons, List.map_cons, PyData.eqvAll, PyData.eqv, eqv_ints xs ys]
    rw [Bool.eq_iff_iff]
    simp
theorem gNe_its (xs ys : List Int) (st : Sto) : gNe (.v (.tup (xs.map .int))) (.v (.tup (ys.map .int))) st = some (.v (.bl (!decide (xs = ys))), st) := by
  rw [gNe_vv (Pds.tup (Pds.map (fun i => Pd.int i) xs)) (Pds.tup (Pds.map (fun i => Pd.int i) ys)) (by omega) (by omega), PyData.eqv, eqv_ints]
end
end Mi
namespace K80
open Mi
theorem cutFrom1 (ds : List D) : cutD ds (some 1) none = ds.drop 1 := by
  unfold cutD
  rw [HT.sIx_none, show (1 : Int) = ((1 : Nat) : Int) from rfl, HT.sIx_nat]
  cases ds with
  | nil => rfl
  | cons d ds => simp
theorem own1_at {ps : List Pc} {n i : Nat} (h : i < n) : (own1 ps n)[i]? = some (.int (frm ps i ps.length : Nat)) := by
  unfold own1 frs
  rw [List.getElem?_map, List.getElem?_map, List.getElem?_range h]
  rfl
theorem own1_len (ps : List Pc) (n : Nat) : (own1 ps n).length = n := by
  unfold own1
  rw [List.length_map, frs_len]
theorem tried_ev {ps : List Pc} (hg : ∀ p ∈ ps, Good p) (h0 : 0 < ps.length) (h4 : ps.length ≤ 4) (st : Sto) : f_check_tried [pcs ps] st = some (.v .non, st) := by
  have c1 := check_pieces_ev h0 (by omega) hg st
  have c2 := frames_of_ev hg (by omega) st
  have hl := own1_len ps ps.length
  have hf := for_inv (ck := tr1) (g := g1_check_tried) (b := b1_check_tried) (ds := (own1 ps ps.length).drop 1) (env := [some (pcs ps), some (.v (.int 1)), none]) (st := st)
    (fun n e s => s = st ∧ ∃ (w : Nat) (z : Option R), e = [some (pcs ps), some (.v (.int (w : Int))), z] ∧ w ≤ 24 ^ n)
    ?step (fun _ _ _ => trivial) ⟨rfl, 1, none, rfl, Nat.le_refl _⟩
  case step =>
    rintro n d e s hd ⟨rfl, w, z, rfl, hw⟩
    rw [List.getElem?_drop] at hd
    have hlt : 1 + n < ps.length := by
      rcases Nat.lt_or_ge (1 + n) ps.length with h | h
      · exact h
      · rw [List.getElem?_eq_none (by omega)] at hd
        cases hd
    rw [own1_at hlt] at hd
    cases hd
    have hp := frm_pos hg (1 + n) ps.length
    have gm := gMul_nr (i := w) (n := frm ps (1 + n) ps.length) (s := s) (by omega)
    refine ⟨trivial, _, _, _, _, by simp [g1_check_tried]; and_intros <;> rfl, by simp [b1_check_tried, gm]; and_intros <;> rfl, rfl, w * frm ps (1 + n) ps.length, _, by simp; rfl, ?_⟩
    rw [Nat.pow_succ]
    exact Nat.mul_le_mul hw hp.2
  obtain ⟨e, s, he, rfl, w, z, rfl, hw⟩ := hf
  rw [List.length_drop, hl] at hw
  have h24 : 24 ^ (ps.length - 1) ≤ 24 ^ 3 := Nat.pow_le_pow_right (by decide) (by omega)
  have hw2 : ¬ (20000 : Int) < (w : Int) := by
    have : (24 : Nat) ^ 3 = 13824 := by decide
    omega
  rw [List.drop_one] at he
  simp [f_check_tried, runFn_ap, m_check_tried, c1, c2, cutFrom1, he, hw2]
theorem frames_ev {ps : List Pc} (hg : ∀ p ∈ ps, Good p) (h0 : 0 < ps.length) (h4 : ps.length ≤ 4) (st : Sto) : f_frames [pcs ps] st = some (.v (.tup (own1 ps ps.length)), st) := by
  have c1 := check_pieces_ev h0 (by omega) hg st
  have c2 := frames_of_ev hg (by omega) st
  simp [f_frames, runFn_ap, m_frames, c1, c2]
theorem max_frames {ps : List Pc} (hg : ∀ p ∈ ps, Good p) (h0 : 0 < ps.length) (st : Sto) : ∃ m : Int, bMax [.v (.tup (own1 ps ps.length))] st = some (.v (.int m), st) ∧ m ≤ 24 := by
  have e : own1 ps ps.length = ((frs ps ps.length).map fun n : Nat => (n : Int)).map .int := by
    unfold own1
    rw [List.map_map]
    rfl
  have hne : ((frs ps ps.length).map fun n : Nat => (n : Int)) ≠ [] := by
    intro z
    have := congrArg List.length z
    rw [List.length_map, frs_len, List.length_nil] at this
    omega
  refine ⟨_, by rw [e]; exact bMax_l hne, ?_⟩
  obtain ⟨hm, _⟩ := maxL_mem hne
  rw [List.mem_map] at hm
  obtain ⟨n, hn, hm⟩ := hm
  unfold frs at hn
  rw [List.mem_map] at hn
  obtain ⟨i, _, rfl⟩ := hn
  have := (frm_pos hg i ps.length).2
  omega
theorem room_ev {p q : Pc} (hp : Good p) (hq : Good q) (st : Sto) : f_room [pcs [p, q], .v (.int 0), .v (.int 1)] st = some (.v (.int ((Nat.gcd p.1 q.1 : Nat) - (p.2 : Int) - q.2)), st) := by
  have hg : ∀ x ∈ [p, q], Good x := fun x hx => by simp at hx; rcases hx with rfl | rfl <;> assumption
  have c1 := check_pieces_ev (ps := [p, q]) (by simp) (by simp) hg st
  have b1 := between_yes (a := 0) (lo := 0) (hi := 1) (by decide) (by decide) st
  have b2 := between_yes (a := 1) (lo := 0) (hi := 1) (by decide) (by decide) st
  have c2 := common_ev p.1 q.1 st
  have i0 : gIx (pcs [p, q]) (.v (.int 0)) st = some (.v (pcD p), st) := rfl
  have i1 : gIx (pcs [p, q]) (.v (.int 1)) st = some (.v (pcD q), st) := rfl
  simp [f_room, runFn_ap, m_room, c1, b1, b2, c2, i0, i1]
end K80
namespace K80
open Mi
theorem clashing_ev {ps : List Pc} (hg : ∀ p ∈ ps, Good p) (h4 : ps.length ≤ 4) {bs : List Nat} {m : Nat} (hm : bs.length = m + 1) (hmp : m < ps.length) (st : Sto) :
    (f_clashing [pcs ps, sts bs] st = some (.v .non, st) ∧ ∀ a, a < m → D2 ps bs a m = false) ∨ ∃ a, a < m ∧ f_clashing [pcs ps, sts bs] st = some (.v (.int (a : Int)), st) ∧ D2 ps bs a m = true := by
  have r1 := ra1_ap (k := (m : Int)) (s := st) (by omega) (by omega)
  rw [Int.toNat_natCast] at r1
  have em : (bs.length : Int) - 1 = (m : Int) := by omega
  have hf := for_post (ck := tr1) (g := g1_clashing) (b := b1_clashing) (ds := rangeD 0 m) (env := [some (pcs ps), some (sts bs), some (.v (.int (m : Int))), none]) (st := st)
    (fun n e s => s = st ∧ (∃ z, e = [some (pcs ps), some (sts bs), some (.v (.int (m : Int))), z]) ∧ ∀ a, a < n → D2 ps bs a m = false)
    (fun r s => s = st ∧ ∃ a, a < m ∧ r = .v (.int (a : Int)) ∧ D2 ps bs a m = true) ?step (fun _ _ _ => trivial) ⟨rfl, ⟨_, rfl⟩, fun a h => by omega⟩
  case step =>
    rintro n d e s hd ⟨rfl, ⟨z, rfl⟩, hn⟩
    unfold rangeD at hd
    rw [List.getElem?_map] at hd
    have hlt : n < m := by
      rcases Nat.lt_or_ge n m with h | h
      · exact h
      · rw [List.getElem?_eq_none (by rw [List.length_range]; exact h)] at hd
        cases hd
    rw [List.getElem?_range hlt] at hd
    cases hd
    have a1 := ixP (ps := ps) (i := n) (by omega) s
    have a2 := ixS (ss := bs) (i := n) (by omega) s
    have a3 := ixP (ps := ps) (i := m) (by omega) s
    have a4 := ixS (ss := bs) (i := m) (by omega) s
    have a5 := dc_ev hg bs n m s
    by_cases h : D2 ps bs n m = true
    · exact turn_r (ck := tr1) (I := fun e s' => s' = s ∧ (∃ z, e = [some (pcs ps), some (sts bs), some (.v (.int (m : Int))), z]) ∧ ∀ a, a < n + 1 → D2 ps bs a m = false) (Rt := fun r s' => s' = s ∧ ∃ a, a < m ∧ r = .v (.int (a : Int)) ∧ D2 ps bs a m = true)
        (r := .v (.int (n : Int))) (s2 := s) trivial (by simp [g1_clashing]; and_intros <;> rfl) (by simp [b1_clashing, a1, a2, a3, a4, a5, h]) ⟨rfl, n, hlt, rfl, h⟩
    · have h : D2 ps bs n m = false := by simpa using h
      refine turn_n (ck := tr1) (e2 := [some (pcs ps), some (sts bs), some (.v (.int (m : Int))), some (.v (.int (n : Int)))]) (s2 := s) trivial (by simp [g1_clashing]; and_intros <;> rfl) (by simp [b1_clashing, a1, a2, a3, a4, a5, h]) ⟨rfl, ⟨_, rfl⟩, fun a ha => ?_⟩
      by_cases e : a = n
      · rw [e]; exact h
      · exact hn a (by omega)
  rcases hf with ⟨e, s, he, rfl, ⟨z, rfl⟩, h3⟩ | ⟨r, s, he, rfl, a, ha, rfl, h3⟩
  · rw [show (rangeD 0 m).length = m by simp [rangeD]] at h3
    exact .inl ⟨by simp [f_clashing, runFn_ap, m_clashing, em, r1, he], h3⟩
  · exact .inr ⟨a, ha, by simp [f_clashing, runFn_ap, m_clashing, em, r1, he], h3⟩
end K80
namespace K80
open Mi
def bD (bs : List Nat) : D := .tup (bs.map stD)
theorem sts_bD (bs : List Nat) : sts bs = .v (bD bs) := rfl
def kids (bs : List Nat) (f : Nat) : List (List Nat) := (List.range f).map fun s => bs ++ [s]
theorem kids_ev (bs : List Nat) (f : Nat) (hb : bs.length ≤ 4) (hf : f ≤ 24) (x0 x1 x2 x3 x5 : Option R) (st : Sto) :
    compL tr1 g1_placing tTrue e1_placing [x0, x1, x2, x3, some (.v (bD bs)), x5, none] (rangeD 0 f) [] st = some ((kids bs f).map bD, st) := by
  rw [comp_pure (fun d => some (.tup (bs.map stD ++ [d]))) trivial (by simp [rangeD]; omega)]
  · congr 2
    unfold rangeD kids
    have e : ((fun d => some (D.tup (bs.map stD ++ [d]))) ∘ fun i : Nat => D.int (0 + (i : Nat))) = fun i => some ((bD ∘ fun s => bs ++ [s]) i) := by
      funext k
      simp [bD]
    rw [List.nil_append, List.filterMap_map, List.map_map, e]
    generalize (bD ∘ fun s => bs ++ [s]) = F
    generalize List.range f = l
    simp
  · intro d hd
    obtain ⟨k, hk, rfl⟩ := List.mem_map.mp hd
    have e : asSeq (.v (bD bs)) st = some (bs.map stD, st) := rfl
    refine ⟨_, by simp [g1_placing]; rfl, .inr ⟨by simp, _, ?_, rfl⟩⟩
    have h1 : (bs.map stD ++ [D.int (0 + (k : Nat))]).length ≤ 16777216 := by
      rw [List.length_append, List.length_map, List.length_singleton]
      omega
    have h2 := mkTup_ap (s := st) h1
    rw [Int.zero_add] at h2
    generalize bs.map stD = B at *
    have h3 : toDs (B.map R.v ++ [R.v (D.int (k : Nat))]) st = some (B ++ [.int (k : Nat)], st) := by
      rw [toDs_app, toDs_cons, toDs_nil]
      rfl
    simp [e1_placing, e, h2, h3]
/-! the stack -/
def OkB (ps : List Pc) (bs : List Nat) : Prop := ∃ m, bs.length = m + 1 ∧ m < ps.length ∧ (∀ i, i ≤ m → sat bs i < (pat ps i).1) ∧ ∀ a b, a < b → b < m → D2 ps bs a b = false
def wt (n : Nat) (bs : List Nat) : Nat := 30 ^ (n + 1 - bs.length)
def wts (n : Nat) (W : List (List Nat)) : Nat := (W.map (wt n)).sum
theorem wts_app (n : Nat) (V W : List (List Nat)) : wts n (V ++ W) = wts n V + wts n W := by simp [wts]
theorem wts_kids {n f : Nat} {bs : List Nat} (hf : f ≤ 24) (hn : bs.length < n + 1) : wts n (kids bs f).reverse < wt n bs := by
  have e : wts n (kids bs f).reverse = f * 30 ^ (n - bs.length) := by
    unfold wts kids
    rw [List.map_reverse, List.sum_reverse, List.map_map]
    have e2 : (wt n ∘ fun s => bs ++ [s]) = fun _ => 30 ^ (n - bs.length) := by
      funext s
      simp [wt]
    rw [e2]
    generalize 30 ^ (n - bs.length) = w
    clear hf e2
    induction f with
    | zero => simp
    | succ f ih => rw [List.range_succ, List.map_append, List.sum_append, ih, Nat.succ_mul]; rfl
  rw [e]
  unfold wt
  rw [show n + 1 - bs.length = (n - bs.length) + 1 by omega, Nat.pow_succ]
  have := Nat.pow_pos (n := n - bs.length) (show 0 < 30 by decide)
  generalize 30 ^ (n - bs.length) = w at *
  have : f * w ≤ 24 * w := Nat.mul_le_mul_right _ hf
  omega
theorem wt_pos (n : Nat) (bs : List Nat) : 0 < wt n bs := Nat.pow_pos (by decide)
end K80
namespace K80
open Mi
theorem pds_W (W : List (List Nat)) (st : Sto) : ∃ ps, Pds 2 st (W.map bD) ps := by
  have h : ∀ bs : List Nat, Pd 1 st (bD bs) (.tuple ((bs.map fun n : Nat => (n : Int)).map .int)) := fun bs => by
    have := Pds.tup (st := st) (Pds.map (fun i => Pd.int (st := st) i) (bs.map fun n : Nat => (n : Int)))
    rw [List.map_map, show (D.int ∘ fun n : Nat => (n : Int)) = stD from rfl] at this
    exact this
  exact ⟨_, Pds.map (fun bs => (h bs).up (by omega)) W⟩
/-- what is promised of the starts that are told -/
def Told (ps : List Pc) (bs : List Nat) : Prop := bs.length = ps.length ∧ (∀ i, i < ps.length → sat bs i < (pat ps i).1) ∧ ∀ a b, a < b → b < ps.length → D2 ps bs a b = false
theorem sat_app {bs : List Nat} {s i : Nat} (h : i < bs.length) : sat (bs ++ [s]) i = sat bs i := by
  unfold sat
  rw [List.getD_eq_getElem?_getD, List.getD_eq_getElem?_getD, List.getElem?_append_left h]
theorem sat_last (bs : List Nat) (s : Nat) : sat (bs ++ [s]) bs.length = s := by
  unfold sat
  (rw [List.getD_eq_getElem?_getD]); simp
theorem d2_app {ps : List Pc} {bs : List Nat} {s a b : Nat} (ha : a < bs.length) (hb : b < bs.length) : D2 ps (bs ++ [s]) a b = D2 ps bs a b := by
  unfold D2
  rw [sat_app ha, sat_app hb]
theorem kid_ok {ps : List Pc} {bs : List Nat} {m : Nat} (hg : ∀ p ∈ ps, Good p) (hm : bs.length = m + 1) (hmn : m + 1 < ps.length) (h1 : ∀ i, i ≤ m → sat bs i < (pat ps i).1) (h2 : ∀ a b, a < b → b < m → D2 ps bs a b = false) (h3 : ∀ a, a < m → D2 ps bs a m = false)
    {s : Nat} (hs : s < frm ps (m + 1) ps.length) : OkB ps (bs ++ [s]) := by
  refine ⟨m + 1, by simp [hm], hmn, fun i hi => ?_, fun a b hab hb => ?_⟩
  · by_cases e : i = m + 1
    · rw [e, ← hm, sat_last]
      have := Nat.le_of_dvd (by have := (pat_good hg (m + 1)).bd; omega) (frm_dvd ps (m + 1) ps.length)
      rw [hm]
      omega
    · rw [sat_app (by omega)]
      exact h1 i (by omega)
  · rw [d2_app (by omega) (by omega)]
    by_cases e : b = m
    · rw [e]
      exact h3 a (by omega)
    · exact h2 a b hab (by omega)
end K80
namespace K80
open Mi
theorem ixO {ps : List Pc} {i : Nat} (h : i < ps.length) (s : Sto) : gIx (.b (.lst (own1 ps ps.length))) (.v (.int (i : Int))) s = some (.v (.int (frm ps i ps.length : Nat)), s) := by
  rw [gIx_b, atI_nat, own1_at h]
  rfl
def pEnv (ps : List Pc) (C : List D) (W : List D) (y4 y5 : Option R) : Mi.Env := [some (pcs ps), some (.b (.lst (own1 ps ps.length))), some (.l (.lst C)), some (.l (.lst W)), y4, y5, none]
theorem t_stop (ps : List Pc) (C : List D) (y4 y5 : Option R) (st : Sto) : t1_placing (pEnv ps C [] y4 y5) st = some (false, st) := by
  have h := gNe_on (n := 0) (st := st) (ds := []) .nil (by omega)
  simp [t1_placing, pEnv, h]
theorem t_go (ps : List Pc) (C : List D) (W : List (List Nat)) (bs : List Nat) (y4 y5 : Option R) (st : Sto) : t1_placing (pEnv ps C ((W ++ [bs]).map bD) y4 y5) st = some (true, st) := by
  obtain ⟨q, hq⟩ := pds_W (W ++ [bs]) st
  have h := gNe_on hq (by omega)
  have hne : ((W ++ [bs]).map bD).isEmpty = false := by simp
  rw [hne] at h
  generalize (W ++ [bs]).map bD = V at *
  simp [t1_placing, pEnv, h]
theorem turn_clash {ps : List Pc} (C : List D) (W : List (List Nat)) (bs : List Nat) (y4 y5 : Option R) (a : Nat) (st : Sto) (hC : C.length + 1 ≤ 16777216) (h : f_clashing [pcs ps, sts bs] st = some (.v (.int (a : Int)), st)) :
    b1_placing (pEnv ps C ((W ++ [bs]).map bD) y4 y5) st = some (.nx (pEnv ps (C ++ [.tup [bD bs, .int (a : Int)]]) (W.map bD) (some (.v (bD bs))) (some (.v (.int (a : Int))))), st) := by
  rw [List.map_append, List.map_singleton]
  generalize W.map bD = V
  have hp := fPop_ap (d := bD bs) (ds := V) (s := st)
  have ha := fAppend_ap (ds := C) (d := .tup [bD bs, .int (a : Int)]) (s := st) hC
  rw [sts_bD] at h
  simp [b1_placing, pEnv, hp, h, ha]
theorem bD_len (bs : List Nat) (s : Sto) : bLen [.v (bD bs)] s = some (.v (.int bs.length), s) := ln_s bs s
theorem turn_told {ps : List Pc} (C : List D) (W : List (List Nat)) (bs : List Nat) (y4 y5 : Option R) (st : Sto) (hl : bs.length = ps.length) (h : f_clashing [pcs ps, sts bs] st = some (.v .non, st)) :
    b1_placing (pEnv ps C ((W ++ [bs]).map bD) y4 y5) st = some (.rt (.v (.tup [.str "starts", bD bs])), st) := by
  rw [List.map_append, List.map_singleton]
  generalize W.map bD = V
  have hp := fPop_ap (d := bD bs) (ds := V) (s := st)
  have e : (bs.length : Int) = ps.length := by omega
  rw [sts_bD] at h
  simp [b1_placing, pEnv, hp, h, bD_len, e]
theorem turn_kids {ps : List Pc} (hg : ∀ p ∈ ps, Good p) (C : List D) (W : List (List Nat)) (bs : List Nat) (y4 y5 : Option R) (st : Sto) (hl : bs.length < ps.length) (h4 : ps.length ≤ 4) (hW : W.length + 24 ≤ 16777216) (h : f_clashing [pcs ps, sts bs] st = some (.v .non, st)) :
    b1_placing (pEnv ps C ((W ++ [bs]).map bD) y4 y5) st = some (.nx (pEnv ps C ((W ++ (kids bs (frm ps bs.length ps.length)).reverse).map bD) (some (.v (bD bs))) (some (.v .non))), st) := by
  have hf := frm_pos hg bs.length ps.length
  have hk := kids_ev bs (frm ps bs.length ps.length) (by omega) hf.2 (some (pcs ps)) (some (.b (.lst (own1 ps ps.length)))) (some (.l (.lst C))) (some (.l (.lst (W.map bD)))) (some (.v .non)) st
  have hx := ixO hl st
  have r1 := ra1_ap (k := (frm ps bs.length ps.length : Nat)) (s := st) (by omega) (by omega)
  rw [Int.toNat_natCast] at r1
  have hlen : (W.map bD).length + ((kids bs (frm ps bs.length ps.length)).map bD).reverse.length ≤ 16777216 := by
    simp [kids]
    omega
  have he := fExtend_l (s := st) hlen
  rw [List.map_append, List.map_append, List.map_singleton, List.map_reverse]
  generalize W.map bD = V at *
  generalize (kids bs (frm ps bs.length ps.length)).map bD = K at *
  have hp := fPop_ap (d := bD bs) (ds := V) (s := st)
  have e : ¬ (bs.length : Int) = ps.length := by omega
  have e2 : ¬ bs.length = ps.length := by omega
  rw [sts_bD] at h
  simp [b1_placing, pEnv, hp, h, bD_len, e, e2, hx, r1, wipeE, hk, he]
end K80
namespace K80
open Mi
/-- the list that is left, if there are two pieces: all before it clash -/
def Two (ps : List Pc) (W : List (List Nat)) : Prop := ps.length = 2 → W = [[0]] ∨ ∃ k, k ≤ frm ps 1 2 ∧ W = ((List.range' k (frm ps 1 2 - k)).map fun s => [0, s]).reverse ∧ ∀ s, s < k → D2 ps [0, s] 0 1 = true
theorem ends_step {t : Mi.Env → M Bool} {b : Mi.Env → M Fl} {env e2 : Mi.Env} {st s s2 : Sto} {I : Mi.Env → Sto → Prop} {Rt : R → Sto → Prop} (ht : t env st = some (true, s)) (hb : b env s = some (.nx e2, s2)) (h : Ends I Rt (sWhile t b e2 s2)) : Ends I Rt (sWhile t b env st) := by
  rcases h with ⟨e, s3, he, hI⟩ | ⟨r, s3, he, hr⟩
  · exact .inl ⟨e, s3, while_yes ht hb he, hI⟩
  · exact .inr ⟨r, s3, while_yes ht hb he, hr⟩
theorem len_wts (n : Nat) : ∀ W : List (List Nat), W.length ≤ wts n W
  | [] => Nat.zero_le _
  | bs :: W => by
    have := len_wts n W
    have := wt_pos n bs
    have e : wts n (bs :: W) = wt n bs + wts n W := by simp [wts]
    rw [e, List.length_cons]
    omega
theorem two_pop {g : Nat} {V : List (List Nat)} {bs : List Nat} {k : Nat} (h : V ++ [bs] = ((List.range' k (g - k)).map fun s => [0, s]).reverse) : k < g ∧ bs = [0, k] ∧ V = ((List.range' (k + 1) (g - (k + 1))).map fun s => [0, s]).reverse := by
  by_cases hk : k < g
  · rw [show g - k = (g - (k + 1)) + 1 by omega, List.range'_succ, List.map_cons, List.reverse_cons] at h
    obtain ⟨h1, h2⟩ := List.append_inj' h rfl
    exact ⟨hk, by simpa using h2, h1⟩
  · rw [show g - k = 0 by omega] at h
    simp at h
theorem placing_loop {ps : List Pc} (hg : ∀ p ∈ ps, Good p) (h0 : 0 < ps.length) (h4 : ps.length ≤ 4) : ∀ (w : Nat) (W : List (List Nat)) (C : List D) (y4 y5 : Option R) (st : Sto), wts ps.length W ≤ w →
    (∀ bs ∈ W, OkB ps bs) → C.length + wts ps.length W ≤ 16000000 → W.length ≤ wts ps.length W → Two ps W →
    Ends (fun e s => s = st ∧ Two ps [] ∧ ∃ C z4 z5, e = pEnv ps C [] z4 z5) (fun r s => s = st ∧ ∃ bs, r = .v (.tup [.str "starts", bD bs]) ∧ Told ps bs)
      (sWhile t1_placing b1_placing (pEnv ps C (W.map bD) y4 y5) st) := by
  intro w
  induction w with
  | zero =>
    intro W C y4 y5 st hw hok hC hl h2
    have : W = [] := List.eq_nil_of_length_eq_zero (by omega)
    subst this
    rw [List.map_nil, while_no (t_stop ps C y4 y5 st)]
    exact .inl ⟨_, _, rfl, rfl, h2, _, _, _, rfl⟩
  | succ w ih =>
    intro W C y4 y5 st hw hok hC hl h2
    rcases List.eq_nil_or_concat W with rfl | ⟨V, bs, rfl⟩
    · rw [List.map_nil, while_no (t_stop ps C y4 y5 st)]
      exact .inl ⟨_, _, rfl, rfl, h2, _, _, _, rfl⟩
    · rw [List.concat_eq_append] at *
      have hwt : wts ps.length (V ++ [bs]) = wts ps.length V + wt ps.length bs := by rw [wts_app]; simp [wts]
      have hwp := wt_pos ps.length bs
      obtain ⟨m, hm, hmn, b1, b2⟩ := hok bs (by simp)
      have hokV : ∀ x ∈ V, OkB ps x := fun x hx => hok x (by simp [hx])
      have hV : V.length ≤ wts ps.length V := len_wts _ _
      rcases clashing_ev hg h4 hm hmn st with ⟨hc, hnone⟩ | ⟨a, ha, hc, hd⟩
      · by_cases e : bs.length = ps.length
        · refine .inr ⟨_, _, while_rt (t_go ps C V bs y4 y5 st) (turn_told C V bs y4 y5 st e hc), rfl, bs, rfl, e, fun i hi => b1 i (by omega), fun a b hab hb => ?_⟩
          by_cases eb : b = m
          · rw [eb]; exact hnone a (by omega)
          · exact b2 a b hab (by omega)
        · have hlt : bs.length < ps.length := by omega
          have hf := frm_pos hg bs.length ps.length
          have hk := wts_kids (n := ps.length) (f := frm ps bs.length ps.length) (bs := bs) hf.2 (by omega)
          refine ends_step (t_go ps C V bs y4 y5 st) (turn_kids hg C V bs y4 y5 st hlt h4 (by omega) hc) (ih _ _ _ _ _ ?_ ?_ ?_ ?_ ?_)
          · rw [wts_app]; omega
          · intro x hx
            rw [List.mem_append, List.mem_reverse] at hx
            rcases hx with hx | hx
            · exact hokV x hx
            · unfold kids at hx
              rw [List.mem_map] at hx
              obtain ⟨s, hs, rfl⟩ := hx
              rw [hm] at hs
              exact kid_ok hg hm (by omega) b1 b2 hnone (List.mem_range.mp hs)
          · rw [wts_app]; omega
          · exact len_wts _ _
          · intro h
            rcases h2 h with h3 | ⟨k, hk1, h3, h4⟩
            · obtain ⟨hv, hb0⟩ := List.append_inj' (show V ++ [bs] = [] ++ [[0]] from h3) rfl
              have hb1 : bs = [0] := by simpa using hb0
              subst hv hb1
              refine .inr ⟨0, Nat.zero_le _, ?_, fun s hs => by omega⟩
              rw [List.nil_append, h]
              unfold kids
              rw [List.range_eq_range']
              rfl
            · obtain ⟨_, rfl, _⟩ := two_pop h3
              simp at hlt
              omega
      · refine ends_step (t_go ps C V bs y4 y5 st) (turn_clash C V bs y4 y5 a st (by omega) hc) (ih _ _ _ _ _ (by omega) hokV ?_ hV ?_)
        · rw [List.length_append, List.length_singleton]; omega
        · intro h
          rcases h2 h with h3 | ⟨k, hk1, h3, h4⟩
          · obtain ⟨hv, hb0⟩ := List.append_inj' (show V ++ [bs] = [] ++ [[0]] from h3) rfl
            have hb1 : bs = [0] := by simpa using hb0
            rw [hb1] at hm
            simp at hm
            omega
          · obtain ⟨hk2, rfl, hV2⟩ := two_pop h3
            refine .inr ⟨k + 1, hk2, hV2, fun s hs => ?_⟩
            by_cases e : s = k
            · rw [e]
              have hm1 : m = 1 := by simpa using hm.symm
              have ha0 : a = 0 := by omega
              rw [hm1, ha0] at hd
              exact hd
            · exact h4 s (by omega)
end K80
namespace K80
open Mi
theorem placing_ev {ps : List Pc} (hg : ∀ p ∈ ps, Good p) (h0 : 0 < ps.length) (h4 : ps.length ≤ 4) (st : Sto) :
    (∃ C, f_placing [pcs ps] st = some (.v (.tup [.str "cases", .tup C]), st) ∧ 1 < ps.length ∧ (ps.length = 2 → ∀ s, s < frm ps 1 2 → D2 ps [0, s] 0 1 = true)) ∨
    ∃ bs, f_placing [pcs ps] st = some (.v (.tup [.str "starts", bD bs]), st) ∧ Told ps bs := by
  have c1 := tried_ev hg h0 h4 st
  have c2 := frames_of_ev hg (by omega) st
  have ok0 : OkB ps [0] := ⟨0, rfl, h0, fun i hi => by
    have : i = 0 := by omega
    rw [this]
    have := (pat_good hg 0).bd
    show 0 < _
    omega, fun a b _ hb => by omega⟩
  have hw : wts ps.length [[0]] ≤ 1000000 := by
    have : (30 : Nat) ^ ps.length ≤ 30 ^ 4 := Nat.pow_le_pow_right (by decide) h4
    have e : wts ps.length [[0]] = 30 ^ ps.length := by simp [wts, wt]
    rw [e]
    exact Nat.le_trans this (by decide)
  have hf := placing_loop hg h0 h4 _ [[0]] [] none none st (Nat.le_refl _) (fun bs hb => by simp at hb; rw [hb]; exact ok0) (by simp; omega) (len_wts _ _) (fun _ => .inl rfl)
  have hone : ps.length = 1 → sWhile t1_placing b1_placing (pEnv ps [] ([[0]].map bD) none none) st = some (.rt (.v (.tup [.str "starts", bD [0]])), st) := fun h1 => by
    rcases clashing_ev hg h4 (bs := [0]) (m := 0) rfl h0 st with ⟨hc, _⟩ | ⟨a, ha, _⟩
    · exact while_rt (t_go ps [] [] [0] none none st) (turn_told [] [] [0] none none st (by simp [h1]) hc)
    · omega
  have e0 : D.tup [.int 0] = bD [0] := rfl
  rcases hf with ⟨e, s, he, rfl, h2, C, z4, z5, rfl⟩ | ⟨r, s, he, rfl, bs, rfl, hT⟩
  · left
    refine ⟨C, ?_, ?_, ?_⟩
    · unfold pEnv at he
      rw [List.map_cons, List.map_nil] at he
      simp [f_placing, runFn_ap, m_placing, c1, c2, e0, he]
    · rcases Nat.lt_or_ge 1 ps.length with h | h
      · exact h
      · rw [hone (by omega)] at he
        cases he
    · intro h s2 hs
      rcases h2 h with h3 | ⟨k, hk, h3, h5⟩
      · cases h3
      · have : frm ps 1 2 - k = 0 := by
          have := congrArg List.length h3
          simpa using this.symm
        exact h5 s2 (by omega)
  · right
    refine ⟨bs, ?_, hT⟩
    unfold pEnv at he
    rw [List.map_cons, List.map_nil] at he
    simp [f_placing, runFn_ap, m_placing, c1, c2, e0, he]
end K80
namespace K80
open Mi
/-! ### the draws -/
theorem of_ev {n B : Nat} {st : Sto} (h : PotAt n B st) (hB : B ≤ 1000000) : ∃ (e : Nat) (st' : Sto), f__law_of [.v (.obj n), .b (.lst [.int 3, .int 4, .int 6, .int 8, .int 12, .int 24])] st = some (.v (.int (e : Int)), st') ∧
    (e = 3 ∨ e = 4 ∨ e = 6 ∨ e = 8 ∨ e = 12 ∨ e = 24) ∧ PotAt n (B + 1) st' := by
  obtain ⟨r, st', hr, h0, h1, hP⟩ := take_ev (u := 6) h hB (by decide) (by decide)
  have : r = 0 ∨ r = 1 ∨ r = 2 ∨ r = 3 ∨ r = 4 ∨ r = 5 := by omega
  have e5 : L2.atI [D.int 3, .int 4, .int 6, .int 8, .int 12, .int 24] 5 = some (.int 24) := rfl
  rcases this with rfl | rfl | rfl | rfl | rfl | rfl
  · exact ⟨3, st', by simp [f__law_of, runFn_ap, m__law_of, hr], by omega, hP⟩
  · exact ⟨4, st', by simp [f__law_of, runFn_ap, m__law_of, hr], by omega, hP⟩
  · exact ⟨6, st', by simp [f__law_of, runFn_ap, m__law_of, hr], by omega, hP⟩
  · exact ⟨8, st', by simp [f__law_of, runFn_ap, m__law_of, hr], by omega, hP⟩
  · exact ⟨12, st', by simp [f__law_of, runFn_ap, m__law_of, hr], by omega, hP⟩
  · exact ⟨24, st', by simp [f__law_of, runFn_ap, m__law_of, hr, e5], by omega, hP⟩
theorem PotAt.up {n B B' : Nat} {st : Sto} (h : PotAt n B st) (hB : B ≤ B') : PotAt n B' st := by
  obtain ⟨a, b, c, h1, h2, h3, h4, h5, h6⟩ := h
  exact ⟨a, b, c, h1, h2, h3, h4, h5, by omega⟩
theorem pieces_loop {n B k : Nat} {st : Sto} (h : PotAt n B st) (hB : B ≤ 10000) (hk : k ≤ 4) : ∃ (ps : List Pc) (st' : Sto) (x2 x7 : Option R), ps.length = k ∧ (∀ p ∈ ps, Good p) ∧ PotAt n (B + 2 * k) st' ∧
    forL tr1 g1__law_right b1__law_right (rangeD 0 k) [some (.v (.obj n)), some (.l (.lst [])), none, none, none, none, none, none, none, none, none, none, none, none, none] st =
      some (.nx [some (.v (.obj n)), some (.l (.lst (ps.map pcD))), x2, none, none, none, none, x7, none, none, none, none, none, none, none], st') := by
  have hlen : (rangeD 0 k).length = k := by simp [rangeD]
  have hf := for_inv (ck := tr1) (g := g1__law_right) (b := b1__law_right) (ds := rangeD 0 k) (env := [some (.v (.obj n)), some (.l (.lst [])), none, none, none, none, none, none, none, none, none, none, none, none, none]) (st := st)
    (fun i e s => i ≤ k → ∃ (ps : List Pc) (x2 x7 : Option R), ps.length = i ∧ (∀ p ∈ ps, Good p) ∧ PotAt n (B + 2 * i) s ∧ e = [some (.v (.obj n)), some (.l (.lst (ps.map pcD))), x2, none, none, none, none, x7, none, none, none, none, none, none, none])
    ?step (fun _ _ _ => trivial) (fun _ => ⟨[], none, none, rfl, by simp, h, rfl⟩)
  case step =>
    intro i d e s hd hI
    have hlt : i < k := by
      rcases Nat.lt_or_ge i k with h | h
      · exact h
      · rw [List.getElem?_eq_none (by omega)] at hd
        cases hd
    obtain ⟨ps, x2, x7, hl, hg, hP, rfl⟩ := hI (by omega)
    unfold rangeD at hd
    rw [List.getElem?_map, List.getElem?_range hlt] at hd
    cases hd
    obtain ⟨ev, s1, e1, hev, P1⟩ := of_ev hP (by omega)
    have h3 := gFdiv_ap (i := ev) (j := 3) (s := s1) (by decide) (by decide) (by decide)
    have e3 : Int.fdiv (ev : Int) 3 = (ev / 3 : Nat) := by
      (rw [Int.fdiv_eq_ediv_of_nonneg _ (by decide)]); omega
    rw [e3] at h3
    obtain ⟨r, s2, e2, r0, r1, P2⟩ := take_ev (u := max 1 ((ev / 3 : Nat) : Int)) P1 (by omega) (by omega) (by omega)
    obtain ⟨l, rfl⟩ := Int.eq_ofNat_of_zero_le r0
    have ha := fAppend_ap (ds := ps.map pcD) (d := pcD (ev, 1 + l)) (s := s2) (by rw [List.length_map]; omega)
    have hgd : Good (ev, 1 + l) := ⟨hev, by show 1 ≤ 1 + l; omega, by
      show 1 + l = 1 ∨ (1 + l) * 3 ≤ ev
      omega⟩
    have hd2 : pcD (ev, 1 + l) = .tup [.int (ev : Int), .int (1 + (l : Int))] := by
      unfold pcD
      simp
    rw [hd2] at ha
    have hmap : (ps ++ [(ev, 1 + l)]).map pcD = ps.map pcD ++ [.tup [.int (ev : Int), .int (1 + (l : Int))]] := by
      rw [List.map_append, List.map_singleton, hd2]
    refine ⟨trivial, [some (.v (.obj n)), some (.l (.lst (ps.map pcD))), some (.v (.int (i : Int))), none, none, none, none, x7, none, none, none, none, none, none, none], s,
      [some (.v (.obj n)), some (.l (.lst ((ps ++ [(ev, 1 + l)]).map pcD))), some (.v (.int (i : Int))), none, none, none, none, some (.v (.int (ev : Int))), none, none, none, none, none, none, none], s2,
      by simp [g1__law_right], ?_, fun _ => ⟨ps ++ [(ev, 1 + l)], _, _, by simp [hl], fun p hp => ?_, P2.up (by omega), rfl⟩⟩
    · rw [hmap]
      generalize ps.map pcD = A at *
      clear r1 e3
      generalize ((ev / 3 : Nat) : Int) = q at *
      simp [b1__law_right, e1, h3, e2, ha]
    · rw [List.mem_append, List.mem_singleton] at hp
      rcases hp with hp | rfl
      · exact hg p hp
      · exact hgd
  obtain ⟨e, s, he, hI⟩ := hf
  rw [hlen] at hI
  obtain ⟨ps, x2, x7, hl, hg, hP, rfl⟩ := hI (Nat.le_refl _)
  exact ⟨ps, s, x2, x7, hl, hg, hP, he⟩
end K80
namespace K80
open Mi
theorem starts_comp {n B : Nat} {ps : List Pc} (hg : ∀ p ∈ ps, Good p) (h4 : ps.length ≤ 4) {st : Sto} (h : PotAt n B st) (hB : B ≤ 10000) (x1 x2 x3 x4 x5 x6 x8 x9 x10 x11 x12 x14 : Option R) : ∃ (ss : List Nat) (st' : Sto), Stt ps ss ∧ PotAt n (B + ps.length) st' ∧
    compL tr1 g2__law_right tTrue e1__law_right [some (.v (.obj n)), x1, x2, x3, x4, x5, x6, none, x8, x9, x10, x11, x12, none, x14] (ps.map pcD) [] st = some (ss.map stD, st') := by
  have hf := comp_inv (ck := tr1) (g := g2__law_right) (t := tTrue) (m := e1__law_right) (env := [some (.v (.obj n)), x1, x2, x3, x4, x5, x6, none, x8, x9, x10, x11, x12, none, x14]) (ds := ps.map pcD) (st := st)
    (fun i acc s => i ≤ ps.length → ∃ ss : List Nat, acc = ss.map stD ∧ ss.length = i ∧ (∀ x ∈ ss.zip ps, x.1 < x.2.1) ∧ PotAt n (B + i) s)
    ?step (fun _ _ _ => trivial) (fun _ => ⟨[], rfl, rfl, by simp, h⟩)
  case step =>
    intro i d acc s hd hI
    rw [List.getElem?_map] at hd
    cases q : ps[i]? with
    | none => rw [q] at hd; cases hd
    | some p =>
      rw [q] at hd
      cases hd
      have hlt : i < ps.length := (List.getElem?_eq_some_iff.mp q).1
      obtain ⟨ss, rfl, hl, hz, hP⟩ := hI (by omega)
      have hb := (hg p (List.mem_of_getElem? q)).bd
      obtain ⟨r, s2, e2, r0, r1, P2⟩ := take_ev (u := (p.1 : Int)) hP (by omega) (by omega) (by omega)
      obtain ⟨l, rfl⟩ := Int.eq_ofNat_of_zero_le r0
      refine ⟨trivial, by rw [List.length_map]; omega, _, _, _, by simp [g2__law_right, pcD]; and_intros <;> rfl, .inr ⟨by simp; rfl, .int (l : Int), s2, by simp [e1__law_right, e2], fun _ => ⟨ss ++ [l], by rw [List.map_append]; rfl, by simp [hl], fun x hx => ?_, P2.up (by omega)⟩⟩⟩
      have hzip : (ss ++ [l]).zip ps = ss.zip ps ++ [(l, p)] := by
        have e : ps = ps.take i ++ p :: ps.drop (i + 1) := by
          rw [← (List.getElem?_eq_some_iff.mp q).2, ← List.drop_eq_getElem_cons hlt, List.take_append_drop]
        have e1 : ss.zip ps = ss.zip (ps.take i) := by
          conv => lhs; rw [e, ← List.append_nil ss]
          rw [List.zip_append (by rw [List.length_take]; omega)]
          simp
        rw [e1]
        conv => lhs; rw [e]
        rw [List.zip_append (by rw [List.length_take]; omega)]
        simp
      rw [hzip, List.mem_append, List.mem_singleton] at hx
      rcases hx with hx | rfl
      · exact hz x hx
      · show l < p.1
        omega
  obtain ⟨acc, s, he, hI⟩ := hf
  rw [List.length_map] at hI
  obtain ⟨ss, rfl, hl, hz, hP⟩ := hI (Nat.le_refl _)
  exact ⟨ss, s, ⟨hl, hz⟩, hP, he⟩
end K80
namespace K80
open Mi
/-! ### the pairs that clash -/
def inn (ps : List Pc) (ss : List Nat) (i : Nat) : Nat → List (Nat × Nat)
  | 0 => []
  | k + 1 => inn ps ss i k ++ (if D2 ps ss i (i + 1 + k) = true then [(i, i + 1 + k)] else [])
def out (ps : List Pc) (ss : List Nat) : Nat → List (Nat × Nat)
  | 0 => []
  | i + 1 => out ps ss i ++ inn ps ss i (ps.length - (i + 1))
def prD (x : Nat × Nat) : D := .tup [.int (x.1 : Int), .int (x.2 : Int)]
theorem inn_len (ps : List Pc) (ss : List Nat) (i : Nat) : ∀ k, (inn ps ss i k).length ≤ k
  | 0 => Nat.le_refl _
  | k + 1 => by
    unfold inn
    have := inn_len ps ss i k
    rw [List.length_append]
    split <;> simp <;> omega
theorem out_len {ps : List Pc} (ss : List Nat) : ∀ i, (out ps ss i).length ≤ i * ps.length
  | 0 => by simp [out]
  | i + 1 => by
    unfold out
    have := out_len (ps := ps) ss i
    have := inn_len ps ss i (ps.length - (i + 1))
    rw [List.length_append, Nat.succ_mul]
    omega
theorem pairs_in {ps : List Pc} {ss : List Nat} (hg : ∀ p ∈ ps, Good p) (hS : Stt ps ss) (i : Nat) (hi : i < ps.length) (A : List D) (hA : A.length ≤ 1000) (h4 : ps.length ≤ 4) (x0 x2 x6 x7 x8 x9 x10 x11 x12 x13 x14 : Option R) (st : Sto) : ∃ z,
    forL tr1 g3__law_right b2__law_right (rangeD ((i : Int) + 1) (ps.length - (i + 1))) [x0, some (pcs ps), x2, some (sts ss), some (.l (.lst A)), some (.v (.int (i : Int))), x6, x7, x8, x9, x10, x11, x12, x13, x14] st =
      some (.nx [x0, some (pcs ps), x2, some (sts ss), some (.l (.lst (A ++ (inn ps ss i (ps.length - (i + 1))).map prD))), some (.v (.int (i : Int))), x6, x7, x8, x9, z, x11, x12, x13, x14], st) := by
  have hlen : (rangeD ((i : Int) + 1) (ps.length - (i + 1))).length = ps.length - (i + 1) := by simp [rangeD]
  have hf := for_inv (ck := tr1) (g := g3__law_right) (b := b2__law_right) (ds := rangeD ((i : Int) + 1) (ps.length - (i + 1))) (env := [x0, some (pcs ps), x2, some (sts ss), some (.l (.lst A)), some (.v (.int (i : Int))), x6, x7, x8, x9, x10, x11, x12, x13, x14]) (st := st)
    (fun n e s => s = st ∧ ∃ z, e = [x0, some (pcs ps), x2, some (sts ss), some (.l (.lst (A ++ (inn ps ss i n).map prD))), some (.v (.int (i : Int))), x6, x7, x8, x9, z, x11, x12, x13, x14])
    ?step (fun _ _ _ => trivial) ⟨rfl, _, by simp [inn]; rfl⟩
  case step =>
    rintro n d e s hd ⟨rfl, z, rfl⟩
    have hlt : n < ps.length - (i + 1) := by
      rcases Nat.lt_or_ge n (ps.length - (i + 1)) with h | h
      · exact h
      · rw [List.getElem?_eq_none (by omega)] at hd
        cases hd
    unfold rangeD at hd
    rw [List.getElem?_map, List.getElem?_range hlt] at hd
    cases hd
    obtain ⟨j, hj⟩ : ∃ j, j = i + 1 + n := ⟨_, rfl⟩
    have ej : (i : Int) + 1 + (n : Nat) = (j : Int) := by omega
    simp only [ej]
    have hjl : j < ps.length := by omega
    have a1 := ixP hjl s
    have a2 := ixS (ss := ss) (i := j) (by rw [hS.1]; exact hjl) s
    have a3 := ixP hi s
    have a4 := ixS (ss := ss) (i := i) (by rw [hS.1]; exact hi) s
    have a5 : f__law_do_clash [.v (pcD (pat ps i)), .v (pcD (pat ps j)), .v (.int (sat ss i : Nat)), .v (.int (sat ss j : Nat))] s = some (.v (.bl (D2 ps ss i j)), s) := ldc_ev (pat_good hg i) (pat_good hg j) (sat_lt hS hi) (sat_lt hS hjl) s
    have hl := inn_len ps ss i n
    have hx1 := fExtend_l (s := s) (ds := A ++ (inn ps ss i n).map prD) (es := [.tup [.int (i : Int), .int (j : Int)]]) (by simp; omega)
    have hx0 := fExtend_l (s := s) (ds := A ++ (inn ps ss i n).map prD) (es := []) (by simp; omega)
    rw [List.append_nil] at hx0
    by_cases h : D2 ps ss i j = true
    · have e : (inn ps ss i (n + 1)).map prD = (inn ps ss i n).map prD ++ [.tup [.int (i : Int), .int (j : Int)]] := by
        rw [inn, ← hj, if_pos h, List.map_append]
        rfl
      rw [e, ← List.append_assoc]
      generalize A ++ (inn ps ss i n).map prD = Q at *
      exact ⟨trivial, [x0, some (pcs ps), x2, some (sts ss), some (.l (.lst Q)), some (.v (.int (i : Int))), x6, x7, x8, x9, some (.v (.int (j : Int))), x11, x12, x13, x14], s, _, s, by simp [g3__law_right], by simp [b2__law_right, a1, a2, a3, a4, a5, h, hx1]; rfl, rfl, _, rfl⟩
    · have h : D2 ps ss i j = false := by simpa using h
      have e : (inn ps ss i (n + 1)).map prD = (inn ps ss i n).map prD := by
        rw [inn, ← hj, h]
        simp
      rw [e]
      generalize A ++ (inn ps ss i n).map prD = Q at *
      exact ⟨trivial, [x0, some (pcs ps), x2, some (sts ss), some (.l (.lst Q)), some (.v (.int (i : Int))), x6, x7, x8, x9, some (.v (.int (j : Int))), x11, x12, x13, x14], s, _, s, by simp [g3__law_right], by simp [b2__law_right, a1, a2, a3, a4, a5, h, hx0]; rfl, rfl, _, rfl⟩
  obtain ⟨e, s, he, rfl, z, rfl⟩ := hf
  rw [hlen] at he
  exact ⟨_, he⟩
end K80
namespace K80
open Mi
theorem inn_nil {ps : List Pc} {ss : List Nat} {i : Nat} : ∀ {k : Nat}, (∀ j, i < j → j ≤ i + k → D2 ps ss i j = false) → inn ps ss i k = []
  | 0, _ => rfl
  | k + 1, h => by
    rw [inn, inn_nil fun j h1 h2 => h j h1 (by omega), h (i + 1 + k) (by omega) (by omega)]
    rfl
theorem inn_head {ps : List Pc} {ss : List Nat} {i m : Nat} (hm : D2 ps ss i (i + 1 + m) = true) (h : ∀ j, i < j → j ≤ i + m → D2 ps ss i j = false) : ∀ {k : Nat}, m < k → ∃ rest, inn ps ss i k = (i, i + 1 + m) :: rest
  | 0, hk => by omega
  | k + 1, hk => by
    rcases Nat.lt_or_ge m k with q | q
    · obtain ⟨rest, e⟩ := inn_head hm h q
      rw [inn, e, List.cons_append]
      exact ⟨_, rfl⟩
    · obtain rfl : m = k := by omega
      rw [inn, inn_nil h, hm]
      exact ⟨[], rfl⟩
theorem out_nil {ps : List Pc} {ss : List Nat} : ∀ {n : Nat}, (∀ i j, i < n → i < j → j < ps.length → D2 ps ss i j = false) → out ps ss n = []
  | 0, _ => rfl
  | n + 1, h => by
    rw [out, out_nil fun i j h1 h2 h3 => h i j (by omega) h2 h3, inn_nil fun j h1 h2 => ?_]
    · rfl
    · rcases Nat.lt_or_ge j ps.length with q | q
      · exact h n j (by omega) h1 q
      · exact h n j (by omega) h1 (by omega)
theorem out_head {ps : List Pc} {ss : List Nat} {i j : Nat} (hij : i < j) (hj : j < ps.length) (hd : D2 ps ss i j = true) (h1 : ∀ k, i < k → k < j → D2 ps ss i k = false)
    (h2 : ∀ a b, a < i → a < b → b < ps.length → D2 ps ss a b = false) : ∀ {n : Nat}, i < n → ∃ rest, out ps ss n = (i, j) :: rest
  | 0, h => by omega
  | n + 1, h => by
    rcases Nat.lt_or_ge i n with q | q
    · obtain ⟨rest, e⟩ := out_head hij hj hd h1 h2 q
      rw [out, e, List.cons_append]
      exact ⟨_, rfl⟩
    · obtain rfl : i = n := by omega
      obtain ⟨m, rfl⟩ : ∃ m, j = i + 1 + m := ⟨j - (i + 1), by omega⟩
      obtain ⟨rest, e⟩ := inn_head (k := ps.length - (i + 1)) hd (fun k h3 h4 => h1 k h3 (by omega)) (by omega)
      rw [out, out_nil h2, e]
      exact ⟨_, rfl⟩
theorem pairs_out {ps : List Pc} {ss : List Nat} (hg : ∀ p ∈ ps, Good p) (hS : Stt ps ss) (h4 : ps.length ≤ 4) (x0 x2 x5 x6 x7 x8 x9 x10 x11 x12 x13 x14 : Option R) (st : Sto) : ∃ y z,
    forL tr1 g4__law_right b3__law_right (rangeD 0 ps.length) [x0, some (pcs ps), x2, some (sts ss), some (.l (.lst [])), x5, x6, x7, x8, x9, x10, x11, x12, x13, x14] st =
      some (.nx [x0, some (pcs ps), x2, some (sts ss), some (.l (.lst ((out ps ss ps.length).map prD))), y, x6, x7, x8, x9, z, x11, x12, x13, x14], st) := by
  have hlen : (rangeD 0 ps.length).length = ps.length := by simp [rangeD]
  have hf := for_inv (ck := tr1) (g := g4__law_right) (b := b3__law_right) (ds := rangeD 0 ps.length) (env := [x0, some (pcs ps), x2, some (sts ss), some (.l (.lst [])), x5, x6, x7, x8, x9, x10, x11, x12, x13, x14]) (st := st)
    (fun n e s => s = st ∧ ∃ y z, e = [x0, some (pcs ps), x2, some (sts ss), some (.l (.lst ((out ps ss n).map prD))), y, x6, x7, x8, x9, z, x11, x12, x13, x14])
    ?step (fun _ _ _ => trivial) ⟨rfl, _, _, by simp [out]; and_intros <;> rfl⟩
  case step =>
    rintro n d e s hd ⟨rfl, y, z, rfl⟩
    have hlt : n < ps.length := by
      rcases Nat.lt_or_ge n ps.length with h | h
      · exact h
      · rw [List.getElem?_eq_none (by omega)] at hd
        cases hd
    unfold rangeD at hd
    rw [List.getElem?_map, List.getElem?_range hlt] at hd
    cases hd
    have en : (0 : Int) + (n : Nat) = (n : Int) := by omega
    simp only [en]
    have h9 := ra2_ap (s := s) (i := (n : Int) + 1) (k := (ps.length : Int)) (by omega) (by omega) (by omega) (by omega)
    have eN : ((ps.length : Int) - ((n : Int) + 1)).toNat = ps.length - (n + 1) := by omega
    rw [eN] at h9
    have hl := out_len (ps := ps) ss n
    have hl2 : n * ps.length ≤ 4 * 4 := Nat.mul_le_mul (by omega) h4
    obtain ⟨z2, hin⟩ := pairs_in hg hS n hlt ((out ps ss n).map prD) (by rw [List.length_map]; omega) h4 x0 x2 x6 x7 x8 x9 z x11 x12 x13 x14 s
    have e2 : (out ps ss (n + 1)).map prD = (out ps ss n).map prD ++ (inn ps ss n (ps.length - (n + 1))).map prD := by rw [out, List.map_append]
    rw [e2]
    generalize (out ps ss n).map prD = A at *
    generalize (inn ps ss n (ps.length - (n + 1))).map prD = B at *
    refine ⟨trivial, [x0, some (pcs ps), x2, some (sts ss), some (.l (.lst A)), some (.v (.int (n : Int))), x6, x7, x8, x9, z, x11, x12, x13, x14], s, [x0, some (pcs ps), x2, some (sts ss), some (.l (.lst (A ++ B))), some (.v (.int (n : Int))), x6, x7, x8, x9, z2, x11, x12, x13, x14], s, by simp [g4__law_right], ?_, rfl, _, _, rfl⟩
    unfold pcs at *
    simp [b3__law_right, sFor_ap, freeze, freeze1, h9]
    exact hin
  obtain ⟨e, s, he, rfl, y, z, rfl⟩ := hf
  rw [hlen] at he
  exact ⟨y, z, he⟩
end K80
namespace K80
open Mi
theorem cut2 (a b c : D) : cutD [a, b, c] none (some 2) = [a, b] := by
  unfold cutD
  rw [HT.sIx_none, show (2 : Int) = ((2 : Nat) : Int) from rfl, HT.sIx_nat]
  rfl
theorem two_same (a b : Int) (s : Sto) : gNe (.v (.tup [.int a, .int b])) (.v (.tup [.int a, .int b])) s = some (.v (.bl false), s) := by
  have h := gNe_its [a, b] [a, b] s
  simpa using h
theorem prs_emp (L : List (Nat × Nat)) (s : Sto) : gEq (.o (.lst (L.map prD))) (.l (.lst [])) s = some (.v (.bl (L.map prD).isEmpty), s) := by
  have h : ∀ x : Nat × Nat, Pd 1 s (prD x) (.tuple [.int (x.1 : Int), .int (x.2 : Int)]) := fun x => Pds.tup (.cons (Pd.int _) (.cons (Pd.int _) .nil))
  exact gEq_on (Pds.map h L) (by omega)
theorem told_stt {ps : List Pc} {bs : List Nat} (h : Told ps bs) : Stt ps bs := by
  obtain ⟨h1, h2, _⟩ := h
  refine ⟨h1, fun x hx => ?_⟩
  (obtain ⟨i, hi⟩ := List.mem_iff_getElem?.mp hx); rw [List.getElem?_zip_eq_some] at hi
  have hlt : i < ps.length := (List.getElem?_eq_some_iff.mp hi.2).1
  have e1 : sat bs i = x.1 := by
    unfold sat
    rw [List.getD_eq_getElem?_getD, hi.1]
    rfl
  have e2 : pat ps i = x.2 := by
    unfold pat
    rw [List.getD_eq_getElem?_getD, hi.2]
    rfl
  rw [← e1, ← e2]
  exact h2 i hlt
theorem arcs_ne {ps : List Pc} {ss : List Nat} (hg : ∀ p ∈ ps, Good p) (h0 : 0 < ps.length) (hS : Stt ps ss) : ∃ t ∈ times (arcs ps ss), 1 ≤ cnt (arcs ps ss) t := by
  have hb := (pat_good hg 0).bd
  have h1 : 0 < 24 / (pat ps 0).1 := Nat.div_pos hb.2.1 (by omega)
  have hm := mem_arcs hS.1 h0 h1
  refine ⟨_, times_of hm, ?_⟩
  unfold cnt
  refine List.length_pos_of_mem (a := _) (List.mem_filter.mpr ⟨hm, ?_⟩)
  unfold has
  simp
  omega
theorem load_told {ps : List Pc} {bs : List Nat} (hg : ∀ p ∈ ps, Good p) (h0 : 0 < ps.length) (h : Told ps bs) {c : Nat} (h1 : ∀ t ∈ times (arcs ps bs), cnt (arcs ps bs) t ≤ c) (h2 : c = 0 ∨ ∃ t ∈ times (arcs ps bs), cnt (arcs ps bs) t = c) : c = 1 := by
  obtain ⟨t, ht, h3⟩ := arcs_ne hg h0 (told_stt h)
  have h4 := h1 t ht
  rcases h2 with h2 | ⟨t2, ht2, h2⟩
  · omega
  · have := load_one hg (told_stt h) h.2.2 ht2
    omega
theorem room_neg {p q : Pc} (hp : Good p) (hq : Good q) (h : ∀ s, s < frm [p, q] 1 2 → D2 [p, q] [0, s] 0 1 = true) : ((Nat.gcd p.1 q.1 : Nat) : Int) - (p.2 : Int) - q.2 < 0 := by
  have hb := hp.bd
  have hb2 := hq.bd
  have e : frm [p, q] 1 2 = Nat.gcd p.1 q.1 := by
    show (if (1 : Nat) = 1 then (if (0 : Nat) = 1 then (1 : Nat) else Nat.lcm 1 (Nat.gcd q.1 p.1)) else _) = _
    rw [if_pos rfl, if_neg (by omega), Nat.lcm_one_left, Nat.gcd_comm]
  rw [e] at h
  rcases Nat.lt_or_ge (Nat.gcd p.1 q.1) (p.2 + q.2) with z | z
  · omega
  · exfalso
    have h1 := h p.2 (by omega)
    have h2 : dc p q 0 p.2 = true := h1
    unfold dc at h2
    rw [Int.fmod_eq_emod_of_nonneg _ (by omega), Int.fmod_eq_emod_of_nonneg _ (by omega)] at h2
    have e1 : ((p.2 : Int) - ((0 : Nat) : Int)) % ((Nat.gcd p.1 q.1 : Nat) : Int) = p.2 := by
      rw [Int.emod_eq_of_lt (by omega) (by omega)]
      omega
    have e2 : (((0 : Nat) : Int) - (p.2 : Int)) % ((Nat.gcd p.1 q.1 : Nat) : Int) = (Nat.gcd p.1 q.1 : Nat) - p.2 := by
      rw [← Int.add_emod_right, Int.emod_eq_of_lt (by omega) (by omega)]
      omega
    rw [e1, e2] at h2
    simp at h2
    omega
theorem words4 : ((("starts" : PySem.Str) == "starts") = true) ∧ ((("cases" : PySem.Str) == "starts") = false) ∧ PySem.PyData.strOk "starts" = true ∧ PySem.PyData.strOk "cases" = true := by decide +kernel
end K80
namespace K80
open Mi
noncomputable def rT : Mi.Env → M Fl :=
 (sSeq (sSet 6 (eCall 1 f_placing (aCons (eVar 1) aNil)))
 (sSeq (sIf (tBl (eOp gEq (eOp gIx (eVar 6) (eC (.int 0))) (eC (.str "starts"))))
 (sRet (eAnd (eOp gIsN (eCall 2 f_clash (aCons (eVar 1) (aCons (eOp gIx (eVar 6) (eC (.int 1))) aNil))) (eC .non)) (eOp gEq (eOp gIx (eCall 2 f_load (aCons (eC (.int 24)) (aCons (eCall 2 f__law_arcs_of (aCons (eVar 1) (aCons (eOp gIx (eVar 6) (eC (.int 1))) aNil))) aNil))) (eC (.int 0))) (eC (.int 1)))))
 sNil)
 (sSeq (sIf (tBl (eOp gEq (eB bLen (aCons (eVar 1) aNil)) (eC (.int 2))))
 (sRet (eOp gLt (eCall 3 f_room (aCons (eVar 1) (aCons (eC (.int 0)) (aCons (eC (.int 1)) aNil)))) (eC (.int 0))))
 sNil)
 (sRet (eAnd (eOp gLe (eB bMax (aCons (eCall 1 f_frames (aCons (eVar 1) aNil)) aNil)) (eC (.int 24))) (eOp gGt (eB bLen (aCons (eVar 1) aNil)) (eC (.int 1))))))))
noncomputable def rM : Mi.Env → M Fl :=
 (sSeq (sIf (tBl (eOp gNotN (eVar 9) (eC .non)))
 (sSeq (sSet 11 (eLst (aCons (eOp gIx (eVar 1) (eOp gIx (eVar 9) (eC (.int 0)))) (aCons (eOp gIx (eVar 1) (eOp gIx (eVar 9) (eC (.int 1)))) aNil))))
 (sSeq (sSet 12 (eCall 2 f__law_arcs_of (aCons (eVar 11) (aCons (eLst (aCons (eOp gIx (eVar 3) (eOp gIx (eVar 9) (eC (.int 0)))) (aCons (eOp gIx (eVar 3) (eOp gIx (eVar 9) (eC (.int 1)))) aNil))) aNil))))
 (sIf (tBl (eOp gNe (eB bLen (aCons (eComp [14] (mSeq (eVar 12)) g5__law_right c1__law_right e2__law_right) aNil)) (eC (.int 2))))
 (sRet (eC (.bl false)))
 sNil)))
 sNil)
 rT)
noncomputable def rH : Mi.Env → M Fl :=
 (sSeq (sAsg (gTp 2 (gCs (gN 8) (gCs (gN 9) gNl))) (eTup (aCons (eCall 2 f__law_arcs_of (aCons (eVar 1) (aCons (eVar 3) aNil))) (aCons (eCall 2 f_clash (aCons (eVar 1) (aCons (eVar 3) aNil))) aNil))))
 (sSeq (sIf (tBl (eOp gGt (eB bLen (aCons (eVar 8) aNil)) (eC (.int 40))))
 (sRet (eC (.bl true)))
 sNil)
 (sSeq (sIf (tBl (eOp gNe (eOp gIsN (eVar 9) (eC .non)) (eOp gLt (eOp gIx (eCall 2 f_load (aCons (eC (.int 24)) (aCons (eVar 8) aNil))) (eC (.int 0))) (eC (.int 2)))))
 (sRet (eC (.bl false)))
 sNil)
 (sSeq (sSetL 4 (eLst aNil))
 (sSeq (sFor [1] (mR1 (aCons (eB bLen (aCons (eVar 1) aNil)) aNil)) g4__law_right b3__law_right)
 (sSeq (sIf (tOr2 (tBl (eOp gNe (eOp gIsN (eVar 9) (eC .non)) (eOp gEq (eVar 4) (eLst aNil)))) (tAnd2 (tBl (eOp gNotN (eVar 9) (eC .non))) (tBl (eOp gNe (eSl (eVar 9) (ePart none) (ePart (some (eC (.int 2))))) (eOp gIx (eVar 4) (eC (.int 0)))))))
 (sRet (eC (.bl false)))
 sNil)
 rM))))))
theorem m_cut : m__law_right =
 (sSeq (sSetL 1 (eLst aNil))
 (sSeq (sFor [] (mR1 (aCons (eOp gAdd (eC (.int 1)) (eCall 2 f__law_take (aCons (eVar 0) (aCons (eC (.int 4)) aNil)))) aNil)) g1__law_right b1__law_right)
 (sSeq (sSetL 1 (eB bTup (aCons (eVar 1) aNil)))
 (sSeq (sSet 3 (eB bTup (aCons (eComp [7, 13] (mSeq (eVar 1)) g2__law_right tTrue e1__law_right) aNil)))
 rH)))) := rfl

/-- from placing on -/
theorem tail_ev {ps : List Pc} (hg : ∀ p ∈ ps, Good p) (h0 : 0 < ps.length) (h4 : ps.length ≤ 4) (x0 x2 x3 x4 x5 x6 x7 x8 x9 x10 x11 x12 x13 x14 : Option R) (s : Sto) :
    rT [x0, some (pcs ps), x2, x3, x4, x5, x6, x7, x8, x9, x10, x11, x12, x13, x14] s = some (.rt (.v (.bl true)), s) := by
  obtain ⟨w1, w2, w3, w4⟩ := words4
  rcases placing_ev hg h0 h4 s with ⟨C, hp, hl1, h2⟩ | ⟨bs, hp, hT⟩
  · have hq := gEq_ss w4 w3 s
    rw [w2] at hq
    by_cases hl : ps.length = 2
    · obtain ⟨p, q, rfl⟩ : ∃ p q, ps = [p, q] := by
        match ps, hl with
        | [p, q], _ => exact ⟨p, q, rfl⟩
      have hr := room_ev (hg p (by simp)) (hg q (by simp)) s
      have hn := room_neg (hg p (by simp)) (hg q (by simp)) (h2 hl)
      unfold pcs at *
      simp at hp hr
      simp [rT, hp, hq, hr, hn]
    · have hf := frames_ev hg h0 h4 s
      obtain ⟨m, hm, hm2⟩ := max_frames hg h0 s
      have hl2 : (ps.length : Int) ≠ 2 := by omega
      have hl3 : (1 : Int) < (ps.length : Int) := by omega
      unfold pcs at *
      simp [rT, hp, hq, hf, hm, hm2, hl2, hl3, hl, hl1]
  · have hq := gEq_ss w3 w3 s
    rw [w1] at hq
    have hS := told_stt hT
    have ec : f_clash [pcs ps, sts bs] s = some (.v .non, s) := by
      rcases clash_ev hg h0 (by omega) hS s with ⟨e, _⟩ | ⟨i, r, e, ⟨j, m, k1, k2, k3, k4, _⟩, _⟩
      · exact e
      · rw [hT.2.2 i j k1 k2] at k4
        cases k4
    have ea := arcs_ev (ss := bs) hg (by omega) (pcs ps) (sts bs) rfl rfl (fun _ => rfl) (fun _ => rfl) s
    obtain ⟨c, cx, el, c1, c2⟩ := load_ev (arcs_arc hg bs) (by have := arcs_len hg bs; omega) s
    obtain rfl := load_told hg h0 hT c1 c2
    unfold pcs sts at *
    unfold bD at *
    simp [rT, hp, hq, ec, ea, el]
end K80
namespace K80
open Mi
/-- no clash: nothing is asked here -/
theorem mid_none {ps : List Pc} (hg : ∀ p ∈ ps, Good p) (h0 : 0 < ps.length) (h4 : ps.length ≤ 4) (x0 x2 x3 x4 x5 x6 x7 x8 x10 x11 x12 x13 x14 : Option R) (s : Sto) :
    rM [x0, some (pcs ps), x2, x3, x4, x5, x6, x7, x8, some (.v .non), x10, x11, x12, x13, x14] s = some (.rt (.v (.bl true)), s) := by
  have ht := tail_ev hg h0 h4 x0 x2 x3 x4 x5 x6 x7 x8 (some (.v .non)) x10 x11 x12 x13 x14 s
  simp [rM, ht]
theorem mid_some {ps : List Pc} {ss : List Nat} (hg : ∀ p ∈ ps, Good p) (h0 : 0 < ps.length) (h4 : ps.length ≤ 4) (hS : Stt ps ss) {i j : Nat} {m : Int} (hij : i < j) (hj : j < ps.length)
    (a1 : aw (pat ps i) (sat ss i) m = true) (a2 : aw (pat ps j) (sat ss j) m = true) (x0 x2 x4 x5 x6 x7 x8 x10 x11 x12 x13 : Option R) (s : Sto) :
    rM [x0, some (pcs ps), x2, some (sts ss), x4, x5, x6, x7, x8, some (.v (.tup [.int (i : Int), .int (j : Int), .int m])), x10, x11, x12, x13, none] s = some (.rt (.v (.bl true)), s) := by
  have gi := pat_good hg i
  have gj := pat_good hg j
  have b1 := ixP (ps := ps) (i := i) (by omega) s
  have b2 := ixP (ps := ps) (i := j) (by omega) s
  have b3 := ixS (ss := ss) (i := i) (by rw [hS.1]; omega) s
  have b4 := ixS (ss := ss) (i := j) (by rw [hS.1]; omega) s
  obtain ⟨t, ht⟩ : ∃ t : Nat, m.fmod 24 = (t : Int) := Int.eq_ofNat_of_zero_le (fmod_nn m (by decide)).1
  have ht2 : t < 24 := by
    have := (fmod_nn m (show (0 : Int) < 24 by decide)).2
    omega
  have hc := both_cnt gi gj (sat_lt hS (show i < ps.length by omega)) (sat_lt hS hj) a1 a2 ht
  have hA : ∀ a ∈ arcs [pat ps i, pat ps j] [sat ss i, sat ss j], Arc a := arcs_arc (fun p hp => by
    simp at hp
    rcases hp with rfl | rfl <;> assumption) _
  have hAl := arcs_len (ps := [pat ps i, pat ps j]) (fun p hp => by
    simp at hp
    rcases hp with rfl | rfl <;> assumption) [sat ss i, sat ss j]
  have e1 := arcs_ev (ps := [pat ps i, pat ps j]) (ss := [sat ss i, sat ss j]) (fun p hp => by
    simp at hp
    rcases hp with rfl | rfl <;> assumption) (by simp) (.b (.lst [pcD (pat ps i), pcD (pat ps j)])) (.b (.lst [stD (sat ss i), stD (sat ss j)])) rfl rfl (fun _ => rfl) (fun _ => rfl) s
  have e2 := lcnt_ev hA (by simp at hAl; omega) ht2 x0 (some (pcs ps)) x2 (some (sts ss)) x4 x5 x6 x7 x8 x10 (some (.b (.lst [pcD (pat ps i), pcD (pat ps j)]))) (some (.v (.tup ((arcs [pat ps i, pat ps j] [sat ss i, sat ss j]).map pcD)))) x13 i j m ht s
  have hc2 : (((arcs [pat ps i, pat ps j] [sat ss i, sat ss j]).filter (has (t : Int))).map pcD).length = 2 := by
    rw [List.length_map]
    exact hc
  have hl := tail_ev hg h0 h4 x0 x2 (some (sts ss)) x4 x5 x6 x7 x8 (some (.v (.tup [.int (i : Int), .int (j : Int), .int m]))) x10 (some (.b (.lst [pcD (pat ps i), pcD (pat ps j)]))) (some (.v (.tup ((arcs [pat ps i, pat ps j] [sat ss i, sat ss j]).map pcD)))) x13 none s
  generalize (arcs [pat ps i, pat ps j] [sat ss i, sat ss j]).map pcD = A at *
  generalize ((arcs [pat ps i, pat ps j] [sat ss i, sat ss j]).filter (has (t : Int))).map pcD = F at *
  have hF : (F.length : Int) = 2 := by omega
  have hs1 : stD (sat ss i) = .int (sat ss i : Nat) := rfl
  have hs2 : stD (sat ss j) = .int (sat ss j : Nat) := rfl
  rw [hs1, hs2] at e1
  generalize pcD (pat ps i) = d1 at *
  generalize pcD (pat ps j) = d2 at *
  unfold pcs sts at *
  simp [rM, b1, b2, b3, b4, e1, e2, hF, hl, wipeE]
end K80
namespace K80
open Mi
theorem mid_ev {ps : List Pc} {ss : List Nat} (hg : ∀ p ∈ ps, Good p) (h0 : 0 < ps.length) (h4 : ps.length ≤ 4) (hS : Stt ps ss) (x0 x2 x4 x5 x6 x7 x8 x10 x11 x12 x13 : Option R) (s : Sto) :
    rH [x0, some (pcs ps), x2, some (sts ss), none, none, none, x7, none, none, none, none, none, none, none] s = some (.rt (.v (.bl true)), s) := by
  have hA := arcs_arc hg ss
  have hAl := arcs_len hg ss
  have e3 := arcs_ev (ss := ss) hg (by omega) (pcs ps) (sts ss) rfl rfl (fun _ => rfl) (fun _ => rfl) s
  obtain ⟨c, cx, e5, c1, c2⟩ := load_ev hA (by omega) s
  have hno : ¬ (40 : Int) < ((arcs ps ss).length : Int) := by omega
  have hno2 : (arcs ps ss).length ≤ 40 := by omega
  have h10 := ra1_ap (s := s) (k := (ps.length : Int)) (by omega) (by omega)
  have hn : ((ps.length : Int)).toNat = ps.length := by omega
  rw [hn] at h10
  rcases clash_ev hg h0 (by omega) hS s with ⟨e, hd⟩ | ⟨i, r, e, ⟨j, m, k1, k2, rfl, k4, k5, k6, k7, k8⟩, hd⟩
  · have ho : out ps ss ps.length = [] := out_nil fun i j _ h1 h2 => hd i j h1 h2
    have hc : c < 2 := by
      rcases c2 with rfl | ⟨t, ht, rfl⟩
      · omega
      · have := load_one hg hS hd ht
        omega
    have hc2 : (c : Int) < 2 := by omega
    obtain ⟨y, z, e6⟩ := pairs_out hg hS h4 x0 x2 none none x7 (some (.v (.tup ((arcs ps ss).map pcD)))) (some (.v .non)) none none none none none s
    have e7 := prs_emp (out ps ss ps.length) s
    rw [ho] at e6 e7
    have e8 := mid_none hg h0 h4 x0 x2 (some (sts ss)) (some (.l (.lst []))) y none x7 (some (.v (.tup ((arcs ps ss).map pcD)))) z none none none none s
    unfold pcs sts at *
    generalize harc : (arcs ps ss).map pcD = A at *
    have hl1 : ¬ (40 : Int) < (A.length : Int) := by rw [← harc, List.length_map]; exact hno
    have hl2 : A.length ≤ 40 := by rw [← harc, List.length_map]; exact hno2
    simp at e6 e7
    simp [rH, e, e3, e5, hl1, hl2, hc, hc2, h10, sFor_ap, freeze, freeze1, e6, e7, e8]
  · obtain ⟨rest, ho⟩ := out_head k1 k2 k4 k5 hd (show i < ps.length by omega)
    have hc : ¬ c < 2 := by
      obtain ⟨t, ht, h2⟩ := load_two hg hS k1 k2 k4
      have := c1 t ht
      omega
    have hc2 : ¬ (c : Int) < 2 := by omega
    obtain ⟨y, z, e6⟩ := pairs_out hg hS h4 x0 x2 none none x7 (some (.v (.tup ((arcs ps ss).map pcD)))) (some (.v (.tup [.int (i : Int), .int (j : Int), .int m]))) none none none none none s
    have e7 := prs_emp (out ps ss ps.length) s
    rw [ho] at e6 e7
    have e8 := mid_some hg h0 h4 hS k1 k2 k6 k7 x0 x2 (some (.l (.lst (((i, j) :: rest).map prD)))) y none x7 (some (.v (.tup ((arcs ps ss).map pcD)))) z none none none s
    have e9 := two_same (i : Int) (j : Int) s
    rw [List.map_cons] at e6 e7 e8
    have hpr : prD (i, j) = .tup [.int (i : Int), .int (j : Int)] := rfl
    rw [hpr] at e6 e7 e8
    generalize rest.map prD = Q at *
    unfold pcs sts at *
    generalize harc : (arcs ps ss).map pcD = A at *
    have hl1 : ¬ (40 : Int) < (A.length : Int) := by rw [← harc, List.length_map]; exact hno
    have hl2 : A.length ≤ 40 := by rw [← harc, List.length_map]; exact hno2
    simp at e7
    simp [rH, e, e3, e5, hl1, hl2, hc, hc2, h10, sFor_ap, freeze, freeze1, e6, e7, e8, cut2, e9]
end K80
namespace K80
open Mi
theorem right_ev {n B : Nat} {st : Sto} (h : PotAt n B st) (hB : B ≤ 1000) : ∃ st', f__law_right [.v (.obj n)] st = some (.v (.bl true), st') ∧ PotAt n (B + 20) st' := by
  obtain ⟨r, s1, e0, r0, r1, P1⟩ := take_ev (u := 4) h (by omega) (by decide) (by decide)
  obtain ⟨k0, rfl⟩ := Int.eq_ofNat_of_zero_le r0
  have hk : ((1 : Int) + (k0 : Int)).toNat = 1 + k0 := by omega
  obtain ⟨ps, s2, x2, x7, hl, hg, P2, e1⟩ := pieces_loop (k := 1 + k0) P1 (by omega) (by omega)
  obtain ⟨ss, s3, hS, P3, e2⟩ := starts_comp hg (by omega) P2 (by omega) (some (.v (.tup (ps.map pcD)))) x2 none none none none none none none none none none
  have h0 : 0 < ps.length := by omega
  have h4 : ps.length ≤ 4 := by omega
  refine ⟨s3, ?_, P3.up (by omega)⟩
  have h9 := ra1_ap (s := s1) (k := 1 + (k0 : Int)) (by omega) (by omega)
  rw [hk] at h9
  have e8 := mid_ev hg h0 h4 hS (some (.v (.obj n))) x2 none none none x7 none none none none none s3
  have hm := m_cut
  unfold pcs sts at *
  generalize ps.map pcD = P at *
  generalize ss.map stD = S at *
  simp [f__law_right, runFn_ap, hm, e0, h9, e1, wipeE, e2, e8]
end K80
namespace K80
open Mi
/-- the script's list -/
def IsScr (ns : List Int) (o : O) : Prop := o = .lst (ns.map .int) ∨ o = .cst (ns.map .int)
theorem scr_len {ns : List Int} {o : O} (h : IsScr ns o) (s : Sto) : bLen [.b o] s = some (.v (.int ns.length), s) := by
  rcases h with rfl | rfl <;> simp
theorem scr_ix {ns : List Int} {o : O} (h : IsScr ns o) (i : Int) (s : Sto) : gIx (.b o) (.v (.int i)) s = M.ofO ((L2.atI (ns.map D.int) i).map .v) s := by
  rcases h with rfl | rfl <;> simp
theorem cells_ev {ns : List Int} {o : O} (h : IsScr ns o) (hl : ns.length ≤ 63) (s : Sto) : ∃ k : Int, 1 ≤ k ∧ k ≤ 2 ∧ f__law_cells [.b o, .v (.int 2)] s = some (.l (.lst (rgD 0 k)), s) := by
  refine ⟨max 1 (min 2 ns.length), by omega, by omega, ?_⟩
  have hr : rgIn 0 (max 1 (min 2 ns.length)) = true := by
    unfold rgIn
    (simp only [Bool.and_eq_true, decide_eq_true_eq]); omega
  simp [f__law_cells, runFn_ap, m__law_cells, scr_len h, hr]
theorem pow_big (s : Sto) : gPow (.v (.int 1000000000000000000000000000000000000000000000000000000000000)) (.v (.int 5)) s = some (.v (.int 1000000000000000000000000000000000000000000000000000000000000000000000000000000000000000000000000000000000000000000000000000000000000000000000000000000000000000000000000000000000000000000000000000000000000000000000000000000000000000000000000000000000000000000000000000000000000000000000000000000000000), s) := by
  have h : (PySem.Builtin.Int.intBits 1000000000000000000000000000000000000000000000000000000000000 : Int) * 5 ≤ 134217728 := by decide +kernel
  have e : gPow (.v (.int 1000000000000000000000000000000000000000000000000000000000000)) (.v (.int 5)) s = some (.v (.int (1000000000000000000000000000000000000000000000000000000000000 ^ Int.toNat 5)), s) := by
    show (if (decide ((0 : Int) ≤ 5) && decide ((PySem.Builtin.Int.intBits 1000000000000000000000000000000000000000000000000000000000000 : Int) * 5 ≤ 134217728)) = true then Pure.pure (R.v (.int (1000000000000000000000000000000000000000000000000000000000000 ^ Int.toNat 5))) else M.fail : M R) s = _
    rw [if_pos (by rw [decide_eq_true h]; rfl)]
    rfl
  rw [e, show (1000000000000000000000000000000000000000000000000000000000000 : Int) ^ Int.toNat 5 = 1000000000000000000000000000000000000000000000000000000000000000000000000000000000000000000000000000000000000000000000000000000000000000000000000000000000000000000000000000000000000000000000000000000000000000000000000000000000000000000000000000000000000000000000000000000000000000000000000000000000000 by decide +kernel]
theorem big_pos : (0 : Int) < 1000000000000000000000000000000000000000000000000000000000000000000000000000000000000000000000000000000000000000000000000000000000000000000000000000000000000000000000000000000000000000000000000000000000000000000000000000000000000000000000000000000000000000000000000000000000000000000000000000000000000 := by decide +kernel
theorem mod_big (i : Int) : ∃ v : Int, 0 ≤ v ∧ ∀ s, gMod (.v (.int i)) (.v (.int 1000000000000000000000000000000000000000000000000000000000000000000000000000000000000000000000000000000000000000000000000000000000000000000000000000000000000000000000000000000000000000000000000000000000000000000000000000000000000000000000000000000000000000000000000000000000000000000000000000000000000)) s = some (.v (.int v), s) :=
  ⟨_, (fmod_nn i big_pos).1, fun s => gMod_ap (Int.ne_of_gt big_pos)⟩
theorem ownBig (c v : Int) (hv : ∀ s, gMod (.v (.int c.natAbs)) (.v (.int 1000000000000000000000000000000000000000000000000000000000000000000000000000000000000000000000000000000000000000000000000000000000000000000000000000000000000000000000000000000000000000000000000000000000000000000000000000000000000000000000000000000000000000000000000000000000000000000000000000000000000)) s = some (.v (.int v), s)) (a0 a1 : Option R) (hb : (1000000000000000000 : Int) ≤ (c.natAbs : Int)) (s : Sto) :
   (sSet 3 (eOp gMul (eOp gMod (eB bInt (aCons (eB bAbs (aCons (eVar 2) aNil)) aNil)) (eOp gPow (eOp gPow (eC (.int 10)) (eC (.int 60))) (eC (.int 5)))) (eB bInt (aCons (eOp gGe (eB bAbs (aCons (eVar 2) aNil)) (eOp gPow (eC (.int 10)) (eC (.int 18)))) aNil)))) [a0, a1, some (.v (.int c)), none, none] s = some (.nx [a0, a1, some (.v (.int c)), some (.v (.int v)), none], s) := by
  simp (disch := first | omega | (simp <;> omega)) [↓pow_big, ↓hv, hb]
theorem ownSml (c v : Int) (hv : ∀ s, gMod (.v (.int c.natAbs)) (.v (.int 1000000000000000000000000000000000000000000000000000000000000000000000000000000000000000000000000000000000000000000000000000000000000000000000000000000000000000000000000000000000000000000000000000000000000000000000000000000000000000000000000000000000000000000000000000000000000000000000000000000000000)) s = some (.v (.int v), s)) (a0 a1 : Option R) (hb : ¬ (1000000000000000000 : Int) ≤ (c.natAbs : Int)) (s : Sto) :
   (sSet 3 (eOp gMul (eOp gMod (eB bInt (aCons (eB bAbs (aCons (eVar 2) aNil)) aNil)) (eOp gPow (eOp gPow (eC (.int 10)) (eC (.int 60))) (eC (.int 5)))) (eB bInt (aCons (eOp gGe (eB bAbs (aCons (eVar 2) aNil)) (eOp gPow (eC (.int 10)) (eC (.int 18)))) aNil)))) [a0, a1, some (.v (.int c)), none, none] s = some (.nx [a0, a1, some (.v (.int c)), some (.v (.int 0)), none], s) := by
  simp (disch := first | omega | (simp <;> omega)) [↓pow_big, ↓hv, hb]
theorem pot_ev {ns : List Int} {o : O} (h : IsScr ns o) (p : Int) (s : Sto) (hp0 : 0 ≤ p) (hp : p < 2) : ∃ a b : Int, 0 ≤ a ∧ 0 ≤ b ∧ b < 2305843009213693952 ∧ f__law_pot [.b o, .v (.int p)] s = some (.l (.lst [.int a, .int b, .int 0]), s) := by
  obtain ⟨c, hc⟩ : ∃ c : Int, ∀ s, (eIf (tBl (eOp gLt (eVar 1) (eB bLen (aCons (eVar 0) aNil)))) (eOp gIx (eVar 0) (eVar 1)) (eOp gAdd (eOp gMul (eC (.int 751)) (eVar 1)) (eC (.int 467))))
      [some (.b o), some (.v (.int p)), none, none, none] s = some (.v (.int c), s) := by
    obtain ⟨q, rfl⟩ := Int.eq_ofNat_of_zero_le hp0
    by_cases hl : q < ns.length
    · refine ⟨ns[q], fun s => ?_⟩
      have e : L2.atI (ns.map D.int) (q : Int) = some (D.int ns[q]) := by
        rw [atI_nat, List.getElem?_map, List.getElem?_eq_getElem hl]
        rfl
      simp [scr_len h, scr_ix h, hl, e]
    · refine ⟨751 * q + 467, fun s => ?_⟩
      simp (disch := first | omega | (simp <;> omega)) [scr_len h, hl]
  obtain ⟨sm, hsm⟩ : ∃ sm, c.fmod 2305843009213693951 = sm := ⟨_, rfl⟩
  have hs2 := fmod_nn c (show (0 : Int) < 2305843009213693951 by decide)
  rw [hsm] at hs2
  obtain ⟨w, hw⟩ : ∃ w, (sm * 70867 + 9397 * p * p + 887).fmod 2305843009213693921 = w := ⟨_, rfl⟩
  have hw2 := fmod_nn (sm * 70867 + 9397 * p * p + 887) (show (0 : Int) < 2305843009213693921 by decide)
  rw [hw] at hw2
  obtain ⟨v, hv2, hv⟩ := mod_big (c.natAbs : Int)
  by_cases hb : (1000000000000000000 : Int) ≤ (c.natAbs : Int)
  · have ho := fun a0 a1 => ownBig c v hv a0 a1 hb
    clear hv hb
    refine ⟨v, w, hv2, hw2.1, by omega, ?_⟩
    simp (disch := first | omega | (simp <;> omega)) [f__law_pot, runFn_ap, m__law_pot, ↓hc, ↓ho, hsm, hw]
  · have ho := fun a0 a1 => ownSml c v hv a0 a1 hb
    clear hv hb
    refine ⟨0, w, by omega, hw2.1, by omega, ?_⟩
    simp (disch := first | omega | (simp <;> omega)) [f__law_pot, runFn_ap, m__law_pot, ↓hc, ↓ho, hsm, hw]
theorem body_ev {ns : List Int} {o : O} (h : IsScr ns o) (p : Int) (hp0 : 0 ≤ p) (hp : p < 2) (x1 x2 x3 : Option R) (s : Sto) : ∃ e s', b1_law [some (.b o), some (.v (.int p)), x2, x3] s = some (.nx (some (.b o) :: e), s') ∧ e.length = 3 := by
  obtain ⟨a, b, h1, h2, h3, hpot⟩ := pot_ev h p s hp0 hp
  have P0 : PotAt s.length 0 (s ++ [.lst [.int a, .int b, .int 0]]) := ⟨a, b, 0, by simp, h1, h2, by omega, by omega, by omega⟩
  obtain ⟨s1, e1, P1⟩ := right_ev P0 (by omega)
  obtain ⟨s2, e2, P2⟩ := right_ev P1 (by omega)
  obtain ⟨s3, e3, P3⟩ := right_ev P2 (by omega)
  have hr : rangeD 0 3 = [.int 0, .int 1, .int 2] := rfl
  have hc : compL tr1 g1_law tTrue e1_law [some (.b o), some (.v (.int p)), some (.v (.obj s.length)), none] (rangeD 0 3) [] (s ++ [.lst [.int a, .int b, .int 0]]) = some ([true, true, true].map .bl, s3) := by
    rw [hr, comp_yes (s1 := (s ++ [.lst [.int a, .int b, .int 0]])) (s2 := (s ++ [.lst [.int a, .int b, .int 0]])) (s3 := s1) (y := .bl true) trivial (by simp [g1_law]; rfl) (by simp) (by simp [e1_law, e1]) (by simp),
      comp_yes (s1 := s1) (s2 := s1) (s3 := s2) (y := .bl true) trivial (by simp [g1_law]; rfl) (by simp) (by simp [e1_law, e2]) (by simp),
      comp_yes (s1 := s2) (s2 := s2) (s3 := s3) (y := .bl true) trivial (by simp [g1_law]; rfl) (by simp) (by simp [e1_law, e3]) (by simp), comp_nil trivial]
    rfl
  have ha := bAll_l (bs := [true, true, true]) (s := s3)
  refine ⟨_, s3, by simp [b1_law, hpot, wipeE, hc, ha]; rfl, rfl⟩
theorem law_ok (ns : List Int) (hl : ns.length ≤ 63) (o : O) (ho : o = .lst (ns.map .int) ∨ o = .cst (ns.map .int)) : ∃ st', f_law [.b o] [] = some (.v (.bl true), st') := by
  obtain ⟨k, hk1, hk2, hc⟩ := cells_ev ho hl []
  have hk : k = 1 ∨ k = 2 := by omega
  obtain ⟨e1, s1, b1, l1⟩ := body_ev ho 0 (by omega) (by omega) none none none []
  rcases hk with rfl | rfl
  · have hr : rgD 0 1 = [.int 0] := rfl
    have hf := for_nx (ck := tr1) (g := g2_law) (env := [some (.b o), none, none, none]) (ds := []) (d := .int 0) trivial (by simp [g2_law]; rfl) b1
    rw [for_nil trivial] at hf
    exact ⟨s1, by simp [f_law, runFn_ap, m_law, hc, hr, hf]⟩
  · have hr : rgD 0 2 = [.int 0, .int 1] := rfl
    obtain ⟨y1, y2, y3, rfl⟩ : ∃ y1 y2 y3, e1 = [y1, y2, y3] := by
      match e1, l1 with
      | [a, b, c], _ => exact ⟨a, b, c, rfl⟩
    obtain ⟨e2, s2, b2, l2⟩ := body_ev ho 1 (by omega) (by omega) y1 y2 y3 s1
    have hf := for_nx (ck := tr1) (g := g2_law) (env := [some (.b o), none, none, none]) (ds := [.int 1]) (d := .int 0) trivial (by simp [g2_law]; rfl) b1
    have hf2 := for_nx (ck := tr1) (g := g2_law) (env := [some (.b o), y1, y2, y3]) (ds := []) (d := .int 1) trivial (by simp [g2_law]; rfl) b2
    rw [for_nil trivial] at hf2
    rw [hf2] at hf
    exact ⟨s2, by simp [f_law, runFn_ap, m_law, hc, hr, hf]⟩
end K80
set_option maxHeartbeats 0
/-! againandagain_k80_whole_pieces_as_arcs: the head; printed. -/
namespace K80
open PySem PySem.Spec PyProof.Rows L2 Mi
def spLaw (K : PySem.W.Frag) : Sp := fun vs H Q _ => ∃ (a : Addr) (ns : List Int), vs = [.ref a] ∧ SqL K H a (ns.map L2.V.int) ∧ ns.length ≤ 63 ∧ ∀ H', Q (.bl true) H'
theorem law_sp {K : PySem.W.Frag} {vs : List L2.V} {H : Hp} {Q : VK} {E : XK} (h : spLaw K vs H Q E) : spF ⟨K, []⟩ 1 f_law vs H Q E := by
  obtain ⟨a, ns, rfl, hS, hl, k⟩ := h
  obtain ⟨o, ho, hB⟩ := seqB (G := ⟨K, []⟩) hS
  obtain ⟨st', e⟩ := law_ok ns hl o ho
  refine ⟨rfl, [], [.b o], [], .v (.bl true), st', .b hB .nil, RepS.nil, e, fun v α' H' _ _ hr => ?_⟩
  cases hr
  exact k H'
abbrev R : PySem.W.OpenRow := PySem.W.OpenLaw.row PySem.Challenge.rw_againandagain_k80_whole_pieces_as_arcs
abbrev hk : PySem.W.Hook := He.hookD 5 fa fn
def ob (s : PySem.W.SharedT) : He.AlD := He.obsDG 5 fa fn (HandSHeadRun.getT s)
theorem ob_eq (s : PySem.W.SharedT) : ob s = hk.obs s.abs := He.obsDG_eq (HandSHeadRun.getT_eq s)
def names : List PySem.Str := (["JobError", "BadArcs", "BadLap", "BadNumbers", "BadPieces", "BadRests", "BadStarts", "TooMany", "is_integer", "is_between", "common", "MOST_SPELLS", "MOST_LAP", "are_arcs", "check_lap", "check_arcs", "has_time", "told_load", "load", "STARTS", "CASES", "MOST_PIECES", "MOST_EVERY", "MOST_TRIED", "is_piece", "check_pieces", "are_starts", "least_with", "frames_of", "frames"] : List PySem.Str) ++ (["room", "do_clash", "is_at_work", "first_minute", "clash", "check_tried", "clashing", "placing", "ALL", "TWO", "MOST_RESTS", "MOST_ROUND", "MOST_NUMBER", "are_rests", "put_together", "inverse", "all_together", "solve", "_law_pot", "_law_take", "_law_of", "_law_cells", "_law_has", "_law_arcs_of", "_law_do_clash", "_law_right"] : List PySem.Str)
theorem run (w : World) : HandSHeadRun.RunEq R (PySem.W.view R.prog [62]) hk ob 20000 names w := by
  intro os
  kernel_rfl
theorem facts {P : Program} {w : World} {K : PySem.W.Frag} {h : Heap} {mg : Str → Option Value} {f : Addr} (X : K.In h) (G : h.Ns mainGlobals mg) (hfa : mg ("law" : Str) = some (.ref f)) (c : He.SaysD fa fn K) :
    ∃ fd : FuncData, (∀ (s : Shared) (v : Value), BindsTo s fd ⟨[v], []⟩ [("script", v)]) ∧ ∀ base : Heap, K.In base → base.Ns mainGlobals mg → FnOk P w K mg base L2.CX0 8 f fd ["script"] (spLaw K) := by
  have T := txt X G c
  have e := hfa.symm.trans T.d_law.mg
  cases e
  obtain ⟨fd, F⟩ := T.d_law.ex
  have b := FunD.bindsA (ps := ["script"]) F fun _ _ _ _ _ _ us hl => match us, hl with | [_], _ => rfl
  refine ⟨fd, fun s v => b s [v] rfl, fun base _ _ => ?_⟩
  obtain ⟨fd2, F2, _, _, _, h2⟩ := ok_law (P := P) (w := w) (base := base) T
  obtain rfl : fd2 = fd := sameFn h2 (looked F)
  exact F2.imp fun vs H Q E h => law_sp h
end K80
open PySem PySem.W PySem.Calls PyProof.Rows
theorem PySem.Challenge.cw_againandagain_k80_whole_pieces_as_arcs_holds : PySem.Challenge.rw_againandagain_k80_whole_pieces_as_arcs.Holds := by
  w_on; o_law
  refine HandSHeadRun.head_any (r := OpenLaw.row PySem.Challenge.rw_againandagain_k80_whole_pieces_as_arcs) (q := view (OpenLaw.row PySem.Challenge.rw_againandagain_k80_whole_pieces_as_arcs).prog [62]) (H := K80.hk) (ob := K80.ob) (M := 20000) (loose := K80.names) (d := HandSHeadRun.topDef (OpenLaw.row PySem.Challenge.rw_againandagain_k80_whole_pieces_as_arcs).prog 62) (kwd := []) K80.ob_eq
    (by kernel_rfl) (fun s => by kernel_rfl) K80.run (by kernel_rfl) (by kernel_rfl) (by kernel_rfl) (by rfl) (by first | assumption | decide +kernel) (by decide +kernel) ⟨rfl, rfl, rfl, rfl, rfl, by decide +kernel⟩ ?hw ?hc
  case hw => w_witness2
  case hc =>
    refine L2.walk_ofE (l := PySem.Challenge.rw_againandagain_k80_whole_pieces_as_arcs) (n := 63) (k := 8) (x := "script") (CX := L2.CX0) rfl (by decide) (by kernel_rfl) ⟨rfl, by decide, by decide⟩ ?F (fun _ _ _ _ z => z)
    intro w mg fa h Y G hmg0
    obtain ⟨K, KX, c⟩ := Y
    have hmg : mg ("law" : PySem.Str) = some (.ref fa) := by
      have e : (HandSHeadRun.topDef (OpenLaw.row PySem.Challenge.rw_againandagain_k80_whole_pieces_as_arcs).prog 62).name = ("law" : PySem.Str) := by kernel_rfl
      rw [← e]
      exact hmg0
    obtain ⟨fd, hb, hF⟩ := K80.facts (P := (PySem.Challenge.rw_againandagain_k80_whole_pieces_as_arcs).prog) (w := w) KX G hmg c
    exact ⟨K, fd, K80.spLaw K, KX, hb, fun H a ns hl _ hS => ⟨a, ns, rfl, hS, hl, fun _ => rfl⟩, hF⟩
