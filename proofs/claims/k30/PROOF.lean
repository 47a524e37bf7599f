import PyProof.Rows.All
import Wide.All
import OpenK.AllK
import Wide.FinOn
import HandS.ForMost
import HandS.IsInst
import HandS.TupAny
import HandS.WideBits
import HandS.TupLe
import HandS.Flow
import HandS.Deep
import HandS.Style
import HandS.Rev
import HandS.Zip
import KE.GoesEnum
import KE.GoesMore
import HandS.DictComp
import HandS.Codes
import KE.SortData
import HandS.Small
import HandS.EndBits
import PySem.Challenge.RW_donebytwo_k30_conditions
set_option Elab.async false
set_option linter.all false
set_option maxRecDepth 100000
set_option maxHeartbeats 1000000
/-! DL, part a: plain data, how a heap bears it, how a frame bears an environment -/
namespace DL
open PySem L2

/-- plain data; a list, a dict is the frame's own (false) or never changed again (true); scr: a list that is only read, it may be an object of the module -/
inductive D where
  | non | bl (b : Bool) | int (i : Int) | str (s : Str)
  | tup (ds : List D)
  | lst (fz : Bool) (ds : List D)
  | scr (ds : List D)
  | dcK (fz : Bool) (ks : List Key) (ds : List D)
  | dcT (fz : Bool) (ks : List (List Key)) (ds : List D)

/-- a list that nobody changes -/
def FzL (K : PySem.W.Frag) (H : Hp) (a : Addr) (xs : List V) : Prop :=
  (∃ o, H a = some (.frz o (.lst xs))) ∨
    ∃ (o : Obj) (its : Array Value) (n : Nat), K.lookup a = some o ∧ o.cls = .type "list" ∧ o.dict = none ∧ o.data = .seq its n ∧ its.size ≤ sizeLine ∧ Vals xs its.toList
theorem FzL.sq {K : PySem.W.Frag} {H : Hp} {a : Addr} {xs : List V} (h : FzL K H a xs) : SqL K H a xs := by
  rcases h with ⟨o, h⟩ | h
  · exact .inl (.inr ⟨o, h⟩)
  · exact .inr h

mutual
def RI (K : PySem.W.Frag) (H : Hp) : D → V → Prop
  | .non, v => v = .non
  | .bl b, v => v = .bl b
  | .int i, v => v = .int i
  | .str s, v => v = .str s
  | .tup ds, v => ∃ a xs, v = .ref a ∧ H a = some (.tup xs) ∧ RIs K H ds xs
  | .lst fz ds, v => fz = true ∧ ∃ a o xs, v = .ref a ∧ H a = some (.frz o (.lst xs)) ∧ RIs K H ds xs
  | .scr ds, v => ∃ a xs, v = .ref a ∧ FzL K H a xs ∧ RIs K H ds xs
  | .dcK fz ks ds, v => fz = true ∧ ∃ a o xs, v = .ref a ∧ H a = some (.frz o (.dK (ks.zip xs))) ∧ ks.length = xs.length ∧ RIs K H ds xs
  | .dcT fz ks ds, v => fz = true ∧ ∃ a o xs, v = .ref a ∧ H a = some (.frz o (.dT (ks.zip xs))) ∧ ks.length = xs.length ∧ RIs K H ds xs
def RIs (K : PySem.W.Frag) (H : Hp) : List D → List V → Prop
  | [], vs => vs = []
  | d :: ds, vs => ∃ x xs, vs = x :: xs ∧ RI K H d x ∧ RIs K H ds xs
end
mutual
/-- .. with the addresses of what may still be changed -/
def RO (K : PySem.W.Frag) (H : Hp) : D → V → List Addr → Prop
  | .non, v, fp => fp = [] ∧ v = .non
  | .bl b, v, fp => fp = [] ∧ v = .bl b
  | .int i, v, fp => fp = [] ∧ v = .int i
  | .str s, v, fp => fp = [] ∧ v = .str s
  | .tup ds, v, fp => fp = [] ∧ RI K H (.tup ds) v
  | .scr ds, v, fp => fp = [] ∧ RI K H (.scr ds) v
  | .lst fz ds, v, fp => (fz = true ∧ fp = [] ∧ RI K H (.lst fz ds) v) ∨ (fz = false ∧ ∃ a xs f, v = .ref a ∧ fp = a :: f ∧ H a = some (.lst xs) ∧ ROs K H ds xs f)
  | .dcK fz ks ds, v, fp => (fz = true ∧ fp = [] ∧ RI K H (.dcK fz ks ds) v) ∨ (fz = false ∧ ∃ a xs f, v = .ref a ∧ fp = a :: f ∧ H a = some (.dK (ks.zip xs)) ∧ ks.length = xs.length ∧ ROs K H ds xs f)
  | .dcT fz ks ds, v, fp => (fz = true ∧ fp = [] ∧ RI K H (.dcT fz ks ds) v) ∨ (fz = false ∧ ∃ a xs f, v = .ref a ∧ fp = a :: f ∧ H a = some (.dT (ks.zip xs)) ∧ ks.length = xs.length ∧ ROs K H ds xs f)
def ROs (K : PySem.W.Frag) (H : Hp) : List D → List V → List Addr → Prop
  | [], vs, fp => vs = [] ∧ fp = []
  | d :: ds, vs, fp => ∃ x xs f f', vs = x :: xs ∧ fp = f ++ f' ∧ RO K H d x f ∧ ROs K H ds xs f'
end
/-- nothing in it may be changed -/
def isImm : D → Bool
  | .lst fz _ => fz
  | .dcK fz _ _ => fz
  | .dcT fz _ _ => fz
  | _ => true

/-- what never changes stays -/
def ImmExt (H H' : Hp) : Prop := (∀ a xs, H a = some (.tup xs) → H' a = some (.tup xs)) ∧ ∀ a o u, H a = some (.frz o u) → H' a = some (.frz o u)
theorem ImmExt.refl (H : Hp) : ImmExt H H := ⟨fun _ _ h => h, fun _ _ _ h => h⟩
theorem ImmExt.trans {H H1 H2 : Hp} (a : ImmExt H H1) (b : ImmExt H1 H2) : ImmExt H H2 := ⟨fun c xs h => b.1 c xs (a.1 c xs h), fun c o u h => b.2 c o u (a.2 c o u h)⟩
theorem ImmExt.of_same {H H' : Hp} (e : Same H H') : ImmExt H H' := ⟨fun _ _ h => e _ _ h, fun _ _ _ h => e _ _ h⟩
section
variable {K : PySem.W.Frag} {H H' : Hp}
theorem FzL.mono (e : ImmExt H H') {a : Addr} {xs : List V} (h : FzL K H a xs) : FzL K H' a xs := by
  rcases h with ⟨o, h⟩ | h
  · exact .inl ⟨o, e.2 _ _ _ h⟩
  · exact .inr h
mutual
theorem RI.mono (e : ImmExt H H') : ∀ (d : D) (v : V), RI K H d v → RI K H' d v
  | .non, _, h => h
  | .bl _, _, h => h
  | .int _, _, h => h
  | .str _, _, h => h
  | .tup ds, _, ⟨a, xs, h1, h2, h3⟩ => ⟨a, xs, h1, e.1 _ _ h2, RIs.mono e ds xs h3⟩
  | .lst _ ds, _, ⟨z, a, o, xs, h1, h2, h3⟩ => ⟨z, a, o, xs, h1, e.2 _ _ _ h2, RIs.mono e ds xs h3⟩
  | .scr ds, _, ⟨a, xs, h1, h2, h3⟩ => ⟨a, xs, h1, h2.mono e, RIs.mono e ds xs h3⟩
  | .dcK _ _ ds, _, ⟨z, a, o, xs, h1, h2, h4, h3⟩ => ⟨z, a, o, xs, h1, e.2 _ _ _ h2, h4, RIs.mono e ds xs h3⟩
  | .dcT _ _ ds, _, ⟨z, a, o, xs, h1, h2, h4, h3⟩ => ⟨z, a, o, xs, h1, e.2 _ _ _ h2, h4, RIs.mono e ds xs h3⟩
theorem RIs.mono (e : ImmExt H H') : ∀ (ds : List D) (vs : List V), RIs K H ds vs → RIs K H' ds vs
  | [], _, h => h
  | d :: ds, _, ⟨x, xs, h1, h2, h3⟩ => ⟨x, xs, h1, RI.mono e d x h2, RIs.mono e ds xs h3⟩
end
mutual
theorem RO.mono (e : ImmExt H H') : ∀ (d : D) (v : V) (fp : List Addr), (∀ a ∈ fp, H' a = H a) → RO K H d v fp → RO K H' d v fp
  | .non, _, _, _, h => h
  | .bl _, _, _, _, h => h
  | .int _, _, _, _, h => h
  | .str _, _, _, _, h => h
  | .tup ds, v, _, _, ⟨h0, h⟩ => ⟨h0, RI.mono e _ v h⟩
  | .scr ds, v, _, _, ⟨h0, h⟩ => ⟨h0, RI.mono e _ v h⟩
  | .lst fz ds, v, fp, hf, h => by
    rcases h with ⟨z, h0, h⟩ | ⟨z, a, xs, f, h1, h2, h3, h4⟩
    · exact .inl ⟨z, h0, RI.mono e _ v h⟩
    · refine .inr ⟨z, a, xs, f, h1, h2, ?_, ROs.mono e ds xs f (fun b hb => hf b (by rw [h2]; exact List.mem_cons_of_mem _ hb)) h4⟩
      rw [hf a (by rw [h2]; exact List.mem_cons_self)]; exact h3
  | .dcK fz ks ds, v, fp, hf, h => by
    rcases h with ⟨z, h0, h⟩ | ⟨z, a, xs, f, h1, h2, h3, h5, h4⟩
    · exact .inl ⟨z, h0, RI.mono e _ v h⟩
    · refine .inr ⟨z, a, xs, f, h1, h2, ?_, h5, ROs.mono e ds xs f (fun b hb => hf b (by rw [h2]; exact List.mem_cons_of_mem _ hb)) h4⟩
      rw [hf a (by rw [h2]; exact List.mem_cons_self)]; exact h3
  | .dcT fz ks ds, v, fp, hf, h => by
    rcases h with ⟨z, h0, h⟩ | ⟨z, a, xs, f, h1, h2, h3, h5, h4⟩
    · exact .inl ⟨z, h0, RI.mono e _ v h⟩
    · refine .inr ⟨z, a, xs, f, h1, h2, ?_, h5, ROs.mono e ds xs f (fun b hb => hf b (by rw [h2]; exact List.mem_cons_of_mem _ hb)) h4⟩
      rw [hf a (by rw [h2]; exact List.mem_cons_self)]; exact h3
theorem ROs.mono (e : ImmExt H H') : ∀ (ds : List D) (vs : List V) (fp : List Addr), (∀ a ∈ fp, H' a = H a) → ROs K H ds vs fp → ROs K H' ds vs fp
  | [], _, _, _, h => h
  | d :: ds, _, fp, hf, ⟨x, xs, f, f', h1, h2, h3, h4⟩ =>
    ⟨x, xs, f, f', h1, h2, RO.mono e d x f (fun b hb => hf b (by rw [h2]; exact List.mem_append_left _ hb)) h3, ROs.mono e ds xs f' (fun b hb => hf b (by rw [h2]; exact List.mem_append_right _ hb)) h4⟩
end
/-- what may be changed is there, and is a list or a dict -/
def Live (H : Hp) (a : Addr) : Prop := ∃ o, H a = some o ∧ Mut (some o)
mutual
theorem RO.live : ∀ (d : D) (v : V) (fp : List Addr), RO K H d v fp → ∀ a ∈ fp, Live H a
  | .non, _, _, h, a, m => by rw [h.1] at m; cases m
  | .bl _, _, _, h, a, m => by rw [h.1] at m; cases m
  | .int _, _, _, h, a, m => by rw [h.1] at m; cases m
  | .str _, _, _, h, a, m => by rw [h.1] at m; cases m
  | .tup ds, v, _, h, a, m => by rw [h.1] at m; cases m
  | .scr ds, v, _, h, a, m => by rw [h.1] at m; cases m
  | .lst fz ds, v, fp, h, a, m => by
    rcases h with ⟨z, h0, h⟩ | ⟨z, b, xs, f, h1, h2, h3, h4⟩
    · rw [h0] at m; cases m
    · rw [h2] at m
      rcases List.mem_cons.mp m with rfl | m
      · exact ⟨_, h3, trivial⟩
      · exact ROs.live ds xs f h4 a m
  | .dcK fz ks ds, v, fp, h, a, m => by
    rcases h with ⟨z, h0, h⟩ | ⟨z, b, xs, f, h1, h2, h3, h5, h4⟩
    · rw [h0] at m; cases m
    · rw [h2] at m
      rcases List.mem_cons.mp m with rfl | m
      · exact ⟨_, h3, trivial⟩
      · exact ROs.live ds xs f h4 a m
  | .dcT fz ks ds, v, fp, h, a, m => by
    rcases h with ⟨z, h0, h⟩ | ⟨z, b, xs, f, h1, h2, h3, h5, h4⟩
    · rw [h0] at m; cases m
    · rw [h2] at m
      rcases List.mem_cons.mp m with rfl | m
      · exact ⟨_, h3, trivial⟩
      · exact ROs.live ds xs f h4 a m
theorem ROs.live : ∀ (ds : List D) (vs : List V) (fp : List Addr), ROs K H ds vs fp → ∀ a ∈ fp, Live H a
  | [], _, _, h, a, m => by rw [h.2] at m; cases m
  | d :: ds, _, fp, ⟨x, xs, f, f', h1, h2, h3, h4⟩, a, m => by
    rw [h2] at m
    rcases List.mem_append.mp m with m | m
    · exact RO.live d x f h3 a m
    · exact ROs.live ds xs f' h4 a m
end
/-- what may not be changed has no addresses -/
theorem RO.imm {d : D} {v : V} {fp : List Addr} (h : RO K H d v fp) (hd : isImm d = true) : fp = [] ∧ RI K H d v := by
  cases d with
  | non => exact h
  | bl b => exact h
  | int i => exact h
  | str s => exact h
  | tup ds => exact h
  | scr ds => exact h
  | lst fz ds =>
    rcases h with ⟨z, h0, h⟩ | ⟨z, _⟩
    · exact ⟨h0, h⟩
    · have : fz = true := hd
      rw [this] at z; cases z
  | dcK fz ks ds =>
    rcases h with ⟨z, h0, h⟩ | ⟨z, _⟩
    · exact ⟨h0, h⟩
    · have : fz = true := hd
      rw [this] at z; cases z
  | dcT fz ks ds =>
    rcases h with ⟨z, h0, h⟩ | ⟨z, _⟩
    · exact ⟨h0, h⟩
    · have : fz = true := hd
      rw [this] at z; cases z
theorem RI.isImm {d : D} {v : V} (h : RI K H d v) : isImm d = true := by
  cases d with
  | lst fz ds => exact h.1
  | dcK fz ks ds => exact h.1
  | dcT fz ks ds => exact h.1
  | _ => rfl
theorem RI.ro {d : D} {v : V} (h : RI K H d v) : RO K H d v [] := by
  cases d with
  | non => exact ⟨rfl, h⟩
  | bl b => exact ⟨rfl, h⟩
  | int i => exact ⟨rfl, h⟩
  | str s => exact ⟨rfl, h⟩
  | tup ds => exact ⟨rfl, h⟩
  | scr ds => exact ⟨rfl, h⟩
  | lst fz ds => exact .inl ⟨h.1, rfl, h⟩
  | dcK fz ks ds => exact .inl ⟨h.1, rfl, h⟩
  | dcT fz ks ds => exact .inl ⟨h.1, rfl, h⟩
theorem RIs.ros : ∀ {ds : List D} {vs : List V}, RIs K H ds vs → ROs K H ds vs []
  | [], _, h => ⟨h, rfl⟩
  | d :: ds, _, ⟨x, xs, h1, h2, h3⟩ => ⟨x, xs, [], [], h1, rfl, h2.ro, h3.ros⟩
theorem ROs.imms : ∀ {ds : List D} {vs : List V} {fp : List Addr}, ROs K H ds vs fp → ds.all isImm = true → fp = [] ∧ RIs K H ds vs
  | [], _, _, h, _ => ⟨h.2, h.1⟩
  | d :: ds, _, fp, ⟨x, xs, f, f', h1, h2, h3, h4⟩, ha => by
    rw [List.all_cons, Bool.and_eq_true] at ha
    obtain ⟨e1, r1⟩ := h3.imm ha.1
    obtain ⟨e2, r2⟩ := h4.imms ha.2
    subst e1; subst e2
    exact ⟨by rw [h2]; rfl, x, xs, h1, r1, r2⟩
theorem RIs.length : ∀ {ds : List D} {vs : List V}, RIs K H ds vs → vs.length = ds.length
  | [], _, h => by rw [h]; rfl
  | d :: ds, _, ⟨x, xs, h1, h2, h3⟩ => by rw [h1, List.length_cons, List.length_cons, h3.length]
theorem ROs.length : ∀ {ds : List D} {vs : List V} {fp : List Addr}, ROs K H ds vs fp → vs.length = ds.length
  | [], _, _, h => by rw [h.1]; rfl
  | d :: ds, _, _, ⟨x, xs, f, f', h1, h2, h3, h4⟩ => by rw [h1, List.length_cons, List.length_cons, h4.length]
theorem RIs.get : ∀ {ds : List D} {vs : List V} {i : Nat} {d : D}, RIs K H ds vs → ds[i]? = some d → ∃ x, vs[i]? = some x ∧ RI K H d x
  | [], _, _, _, _, e => by simp at e
  | d :: ds, _, 0, d', ⟨x, xs, h1, h2, h3⟩, e => by
    have e' : d = d' := by simpa using e
    subst e'
    exact ⟨x, by rw [h1]; rfl, h2⟩
  | d :: ds, _, i + 1, d', ⟨x, xs, h1, h2, h3⟩, e => by
    obtain ⟨y, e1, r⟩ := h3.get (i := i) (by simpa using e)
    exact ⟨y, by rw [h1]; simpa using e1, r⟩
theorem RIs.app : ∀ {ds es : List D} {vs us : List V}, RIs K H ds vs → RIs K H es us → RIs K H (ds ++ es) (vs ++ us)
  | [], _, _, _, h, h' => by rw [show _ = [] from h]; exact h'
  | d :: ds, _, _, _, ⟨x, xs, h1, h2, h3⟩, h' => by
    rw [h1]
    exact ⟨x, xs ++ _, rfl, h2, h3.app h'⟩
theorem RIs.take : ∀ (n : Nat) {ds : List D} {vs : List V}, RIs K H ds vs → RIs K H (ds.take n) (vs.take n)
  | 0, _, _, _ => rfl
  | n + 1, [], _, h => by rw [show _ = [] from h]; exact rfl
  | n + 1, d :: ds, _, ⟨x, xs, h1, h2, h3⟩ => by
    rw [h1]
    exact ⟨x, xs.take n, rfl, h2, h3.take n⟩
theorem RIs.drop : ∀ (n : Nat) {ds : List D} {vs : List V}, RIs K H ds vs → RIs K H (ds.drop n) (vs.drop n)
  | 0, _, _, h => h
  | n + 1, [], _, h => by rw [show _ = [] from h]; exact rfl
  | n + 1, d :: ds, _, ⟨x, xs, h1, h2, h3⟩ => by
    rw [h1]
    exact h3.drop n
theorem RIs.all_imm : ∀ {ds : List D} {vs : List V}, RIs K H ds vs → ds.all DL.isImm = true
  | [], _, _ => rfl
  | d :: ds, _, ⟨x, xs, h1, h2, h3⟩ => by rw [List.all_cons, h2.isImm, h3.all_imm]; rfl
/-- what of a list may be read whether it is changed later or not -/
theorem ROs.get : ∀ {ds : List D} {vs : List V} {fp : List Addr} {i : Nat} {d : D}, ROs K H ds vs fp → ds[i]? = some d → ∃ x f, vs[i]? = some x ∧ RO K H d x f ∧ ∀ a ∈ f, a ∈ fp
  | [], _, _, _, _, _, e => by simp at e
  | d :: ds, _, _, 0, d', ⟨x, xs, f, f', h1, h2, h3, h4⟩, e => by
    have e' : d = d' := by simpa using e
    subst e'
    exact ⟨x, f, by rw [h1]; rfl, h3, fun a m => by rw [h2]; exact List.mem_append_left _ m⟩
  | d :: ds, _, _, i + 1, d', ⟨x, xs, f, f', h1, h2, h3, h4⟩, e => by
    obtain ⟨y, g, e1, r, m⟩ := h4.get (i := i) (by simpa using e)
    exact ⟨y, g, by rw [h1]; simpa using e1, r, fun a ma => by rw [h2]; exact List.mem_append_right _ (m a ma)⟩
end

/-! ### the frame -/
abbrev Env := List (Option D)
def SR (K : PySem.W.Frag) (H : Hp) : Env → L2.St → List Addr → Prop
  | [], σ, fp => σ = [] ∧ fp = []
  | none :: e, σ, fp => ∃ x σ', σ = x :: σ' ∧ SR K H e σ' fp
  | some d :: e, σ, fp => ∃ v σ' f f', σ = some v :: σ' ∧ fp = f ++ f' ∧ RO K H d v f ∧ SR K H e σ' f'
section
variable {K : PySem.W.Frag} {H H' : Hp}
theorem SR.mono (e : ImmExt H H') : ∀ {env : Env} {σ : L2.St} {fp : List Addr}, (∀ a ∈ fp, H' a = H a) → SR K H env σ fp → SR K H' env σ fp
  | [], _, _, _, h => h
  | none :: env, _, _, hf, ⟨x, σ', h1, h2⟩ => ⟨x, σ', h1, h2.mono e hf⟩
  | some d :: env, _, _, hf, ⟨v, σ', f, f', h1, h2, h3, h4⟩ =>
    ⟨v, σ', f, f', h1, h2, RO.mono e d v f (fun b hb => hf b (by rw [h2]; exact List.mem_append_left _ hb)) h3, h4.mono e fun b hb => hf b (by rw [h2]; exact List.mem_append_right _ hb)⟩
theorem SR.live : ∀ {env : Env} {σ : L2.St} {fp : List Addr}, SR K H env σ fp → ∀ a ∈ fp, Live H a
  | [], _, _, h, a, m => by rw [h.2] at m; cases m
  | none :: env, _, _, ⟨x, σ', h1, h2⟩, a, m => h2.live a m
  | some d :: env, _, _, ⟨v, σ', f, f', h1, h2, h3, h4⟩, a, m => by
    rw [h2] at m
    rcases List.mem_append.mp m with m | m
    · exact RO.live d v f h3 a m
    · exact h4.live a m
theorem SR.length : ∀ {env : Env} {σ : L2.St} {fp : List Addr}, SR K H env σ fp → σ.length = env.length
  | [], _, _, h => by rw [h.1]; rfl
  | none :: env, _, _, ⟨x, σ', h1, h2⟩ => by rw [h1, List.length_cons, List.length_cons, h2.length]
  | some d :: env, _, _, ⟨v, σ', f, f', h1, h2, h3, h4⟩ => by rw [h1, List.length_cons, List.length_cons, h4.length]
/-- a slot taken out, and put back with other data and another value -/
theorem SR.at : ∀ {env : Env} {σ : L2.St} {fp : List Addr} {i : Nat} {d : D}, SR K H env σ fp → env[i]? = some (some d) →
    ∃ v pre f post, σ[i]? = some (some v) ∧ fp = pre ++ (f ++ post) ∧ RO K H d v f ∧
      (∀ (H' : Hp) (d' : D) (v' : V) (f' : List Addr), ImmExt H H' → (∀ a, a ∈ pre ∨ a ∈ post → H' a = H a) → RO K H' d' v' f' → SR K H' (env.set i (some d')) (σ.set i (some v')) (pre ++ (f' ++ post))) ∧
      (∀ (H' : Hp) (x : Option V), ImmExt H H' → (∀ a, a ∈ pre ∨ a ∈ post → H' a = H a) → SR K H' (env.set i none) (σ.set i x) (pre ++ post))
  | [], _, _, _, _, _, e => by simp at e
  | none :: env, _, _, 0, _, _, e => by simp at e
  | some d0 :: env, σ, fp, 0, d, ⟨v, σ', f, f', h1, h2, h3, h4⟩, e => by
    have e' : d0 = d := by simpa using e
    subst e'
    refine ⟨v, [], f, f', by rw [h1]; rfl, by simpa using h2, h3, fun H' d' v' g e k r => ?_, fun H' x e k => ?_⟩
    · rw [h1]
      exact ⟨v', σ', g, f', rfl, rfl, r, h4.mono e fun a m => k a (.inr m)⟩
    · rw [h1]
      exact ⟨x, σ', rfl, h4.mono e fun a m => k a (.inr m)⟩
  | none :: env, σ, fp, i + 1, d, ⟨x, σ', h1, h2⟩, e => by
    obtain ⟨v, pre, f, post, e1, e2, r, p1, p2⟩ := h2.at (i := i) (d := d) (by simpa using e)
    refine ⟨v, pre, f, post, by rw [h1]; simpa using e1, e2, r, fun H' d' v' g e k r => ?_, fun H' y e k => ?_⟩
    · rw [h1]
      exact ⟨x, σ'.set i (some v'), rfl, p1 H' d' v' g e k r⟩
    · rw [h1]
      exact ⟨x, σ'.set i y, rfl, p2 H' y e k⟩
  | some d0 :: env, σ, fp, i + 1, d, ⟨v0, σ', f0, f', h1, h2, h3, h4⟩, e => by
    obtain ⟨v, pre, f, post, e1, e2, r, p1, p2⟩ := h4.at (i := i) (d := d) (by simpa using e)
    refine ⟨v, f0 ++ pre, f, post, by rw [h1]; simpa using e1, by rw [h2, e2, List.append_assoc], r, fun H' d' v' g e k r => ?_, fun H' y e k => ?_⟩
    · rw [h1]
      exact ⟨v0, σ'.set i (some v'), f0, pre ++ (g ++ post), rfl, by rw [List.append_assoc], RO.mono e d0 v0 f0 (fun a m => k a (.inl (List.mem_append_left _ m))) h3, p1 H' d' v' g e (fun a m => k a (m.imp (List.mem_append_right _) id)) r⟩
    · rw [h1]
      exact ⟨v0, σ'.set i y, f0, pre ++ post, rfl, by rw [List.append_assoc], RO.mono e d0 v0 f0 (fun a m => k a (.inl (List.mem_append_left _ m))) h3, p2 H' y e fun a m => k a (m.imp (List.mem_append_right _) id)⟩
/-- a slot that holds nothing known is filled -/
theorem SR.put : ∀ {env : Env} {σ : L2.St} {fp : List Addr} {i : Nat}, SR K H env σ fp → i < env.length →
    ∃ pre f post, fp = pre ++ (f ++ post) ∧ (∀ (d' : D) (v' : V) (f' : List Addr), RO K H d' v' f' → SR K H (env.set i (some d')) (σ.set i (some v')) (pre ++ (f' ++ post))) ∧
      ∀ x, SR K H (env.set i none) (σ.set i x) (pre ++ post)
  | [], _, _, _, _, e => absurd e (Nat.not_lt_zero _)
  | none :: env, σ, fp, 0, ⟨x, σ', h1, h2⟩, _ => by
    refine ⟨[], [], fp, rfl, fun d' v' g r => ?_, fun y => ?_⟩
    · rw [h1]; exact ⟨v', σ', g, fp, rfl, rfl, r, h2⟩
    · rw [h1]; exact ⟨y, σ', rfl, h2⟩
  | some d0 :: env, σ, fp, 0, ⟨v, σ', f, f', h1, h2, h3, h4⟩, _ => by
    refine ⟨[], f, f', h2, fun d' v' g r => ?_, fun y => ?_⟩
    · rw [h1]; exact ⟨v', σ', g, f', rfl, rfl, r, h4⟩
    · rw [h1]; exact ⟨y, σ', rfl, h4⟩
  | none :: env, σ, fp, i + 1, ⟨x, σ', h1, h2⟩, e => by
    obtain ⟨pre, f, post, e2, p1, p2⟩ := h2.put (i := i) (by simpa using e)
    refine ⟨pre, f, post, e2, fun d' v' g r => ?_, fun y => ?_⟩
    · rw [h1]; exact ⟨x, _, rfl, p1 d' v' g r⟩
    · rw [h1]; exact ⟨x, _, rfl, p2 y⟩
  | some d0 :: env, σ, fp, i + 1, ⟨v0, σ', f0, f', h1, h2, h3, h4⟩, e => by
    obtain ⟨pre, f, post, e2, p1, p2⟩ := h4.put (i := i) (by simpa using e)
    refine ⟨f0 ++ pre, f, post, by rw [h2, e2, List.append_assoc], fun d' v' g r => ?_, fun y => ?_⟩
    · rw [h1]; exact ⟨v0, _, f0, _, rfl, by rw [List.append_assoc], h3, p1 d' v' g r⟩
    · rw [h1]; exact ⟨v0, _, f0, _, rfl, by rw [List.append_assoc], h3, p2 y⟩
end

/-- how a heap goes on: what is not ours stays, what is ours is ours already or new -/
structure Evo (fp : List Addr) (H : Hp) (fp' : List Addr) (H' : Hp) : Prop where
  keep : ∀ a o, H a = some o → a ∉ fp → H' a = some o
  own : ∀ a ∈ fp', a ∈ fp ∨ H a = none
  imm : ImmExt H H'
theorem Evo.refl (fp : List Addr) (H : Hp) : Evo fp H fp H := ⟨fun _ _ h _ => h, fun _ m => .inl m, ImmExt.refl H⟩
theorem Evo.trans {f0 f1 f2 : List Addr} {H0 H1 H2 : Hp} (a : Evo f0 H0 f1 H1) (b : Evo f1 H1 f2 H2) : Evo f0 H0 f2 H2 where
  keep := fun c o h n => b.keep c o (a.keep c o h n) fun m => (a.own c m).elim n fun z => by rw [h] at z; cases z
  own := fun c m => by
    rcases b.own c m with m | z
    · exact a.own c m
    · by_cases hc : c ∈ f0
      · exact .inl hc
      · refine .inr ?_
        cases q : H0 c with
        | none => rfl
        | some o => rw [a.keep c o q hc] at z; cases z
  imm := a.imm.trans b.imm
/-- fewer addresses are ours behind it -/
theorem Evo.sub {f0 f1 f2 : List Addr} {H0 H1 : Hp} (a : Evo f0 H0 f1 H1) (h : ∀ c ∈ f2, c ∈ f1) : Evo f0 H0 f2 H1 := ⟨a.keep, fun c m => a.own c (h c m), a.imm⟩
/-- beside others that stay -/
theorem Evo.side {f0 f1 g : List Addr} {H0 H1 : Hp} (a : Evo f0 H0 f1 H1) : Evo (g ++ f0) H0 (g ++ f1) H1 where
  keep := fun c o h n => a.keep c o h fun m => n (List.mem_append_right _ m)
  own := fun c m => by
    rcases List.mem_append.mp m with m | m
    · exact .inl (List.mem_append_left _ m)
    · exact (a.own c m).imp (List.mem_append_right _) id
  imm := a.imm
theorem Evo.of_same {fp fr : List Addr} {H H' : Hp} (e : Same H H') (hf : ∀ a ∈ fr, H a = none) : Evo fp H (fr ++ fp) H' :=
  ⟨fun a o h _ => e a o h, fun a m => (List.mem_append.mp m).elim (fun z => .inr (hf a z)) .inl, .of_same e⟩
theorem same_eq {K : PySem.W.Frag} {H H' : Hp} (e : Same H H') {fp : List Addr} (l : ∀ a ∈ fp, Live H a) : ∀ a ∈ fp, H' a = H a := fun a m => by
  obtain ⟨o, h, _⟩ := l a m
  rw [h]
  exact e a o h
/-- what stands beside what is changed stands -/
theorem Evo.stay {fp fp' : List Addr} {H H' : Hp} (e : Evo fp H fp' H') {g : List Addr} (l : ∀ a ∈ g, Live H a) (n : ∀ a ∈ g, a ∉ fp) : ∀ a ∈ g, H' a = H a := fun a m => by
  obtain ⟨o, h, _⟩ := l a m
  rw [h]
  exact e.keep a o h (n a m)
theorem Evo.apart {fp fp' : List Addr} {H H' : Hp} (e : Evo fp H fp' H') {g : List Addr} (l : ∀ a ∈ g, Live H a) (n : ∀ a ∈ g, a ∉ fp) : ∀ a ∈ g, a ∉ fp' := fun a m m' => by
  rcases e.own a m' with z | z
  · exact n a m z
  · obtain ⟨o, h, _⟩ := l a m
    rw [h] at z; cases z
end DL

set_option maxHeartbeats 1000000
/-! DL, part b: judgements; what an expression means, and why the machine does so -/
namespace DL
open PySem L2

abbrev PSm := Env → Option D
abbrev ESm := Env → Option (D × Env)
abbrev TPm := Env → Option Bool
abbrev TSm := Env → Option (Bool × Env)
abbrev APm := Env → Option (List D)
abbrev ASm := Env → Option (List D × Env)

def Fresh (fr : List Addr) (H : Hp) : Prop := fr.Nodup ∧ ∀ a ∈ fr, H a = none
theorem Fresh.nil {H : Hp} : Fresh [] H := ⟨List.nodup_nil, fun _ m => nomatch m⟩
theorem Fresh.one {H : Hp} {p : Addr} (h : H p = none) : Fresh [p] H := ⟨List.nodup_cons.mpr ⟨fun m => (nomatch m), List.nodup_nil⟩, fun a m => by
  have e : a = p := by simpa using m
  rw [e]; exact h⟩
theorem Fresh.back {fr : List Addr} {H H' : Hp} (e : Same H H') (h : Fresh fr H') : Fresh fr H := ⟨h.1, fun a m => e.free (h.2 a m)⟩
/-- what is wanted of a value that is data d -/
def Res (own : Bool) (K : PySem.W.Frag) (H : Hp) (d : D) (Q : VK) : Prop := ∀ v H' fr, Same H H' → RO K H' d v fr → (own = true → Fresh fr H) → Q v H'
section
variable {own : Bool} {K : PySem.W.Frag} {H H' : Hp} {d : D} {Q : VK}
theorem Res.imm {v : V} (h : Res own K H d Q) (r : RI K H d v) : Q v H := h v H [] (Same.refl H) r.ro fun _ => .nil
theorem Res.int {i : Int} (h : Res own K H (.int i) Q) : Q (.int i) H := h.imm (v := .int i) rfl
theorem Res.bl {b : Bool} (h : Res own K H (.bl b) Q) : Q (.bl b) H := h.imm (v := .bl b) rfl
theorem Res.str {s : Str} (h : Res own K H (.str s) Q) : Q (.str s) H := h.imm (v := .str s) rfl
theorem same_new {p : Addr} {o : HO} (hp : H p = none) : Same H (upd H p o) := fun a u e => by
  rw [upd_ne (ne_of_none e hp)]; exact e
theorem Res.tup {ds : List D} {xs : List V} {p : Addr} (h : Res own K H (.tup ds) Q) (r : RIs K H ds xs) (hp : H p = none) : Q (.ref p) (upd H p (.tup xs)) :=
  h _ _ [] (same_new hp) ⟨rfl, p, xs, rfl, upd_same, RIs.mono (.of_same (same_new hp)) _ _ r⟩ fun _ => .nil
theorem Res.lst {ds : List D} {xs : List V} {p : Addr} (h : Res own K H (.lst false ds) Q) (r : RIs K H ds xs) (hp : H p = none) : Q (.ref p) (upd H p (.lst xs)) :=
  h _ _ [p] (same_new hp) (.inr ⟨rfl, p, xs, [], rfl, rfl, upd_same, (RIs.mono (.of_same (same_new hp)) _ _ r).ros⟩) fun _ => .one hp
end

/-- an expression without effects: what it is by the environment; own: it is new, or it never changes -/
def DB (own : Bool) (X : Cx) (e : Expr) (f : PSm) : Prop := ∃ t : TE, PE X e t ∧ ∀ (σ : L2.St) (H : Hp) (env : Env) (fp : List Addr) (d : D), SR X.K H env σ fp → fp.Nodup → f env = some d → ∀ Q : VK, Res own X.K H d Q → t σ H Q
/-- any expression: the value is our own, the environment may have changed -/
def EQ (K : PySem.W.Frag) (σ : L2.St) (H : Hp) (fp : List Addr) (d : D) (env' : Env) (Q : VK) : Prop :=
  ∀ v H' fr fp', Evo fp H (fr ++ fp') H' → SR K H' env' σ fp' → RO K H' d v fr → (fr ++ fp').Nodup → Q v H'
def DE (X : Cx) (e : Expr) (f : ESm) : Prop := ∃ t : TE, PE X e t ∧ ∀ (σ : L2.St) (H : Hp) (env env' : Env) (fp : List Addr) (d : D), SR X.K H env σ fp → fp.Nodup → f env = some (d, env') → ∀ Q : VK, EQ X.K σ H fp d env' Q → t σ H Q
/-- tests -/
def DTP (X : Cx) (e : Expr) (f : TPm) : Prop := ∃ t : TT, PT X e t ∧ ∀ (σ : L2.St) (H : Hp) (env : Env) (fp : List Addr) (b : Bool), SR X.K H env σ fp → fp.Nodup → f env = some b → ∀ Q : Bool → Hp → Prop, (∀ H', Same H H' → Q b H') → t σ H Q
def TQ (K : PySem.W.Frag) (σ : L2.St) (H : Hp) (fp : List Addr) (b : Bool) (env' : Env) (Q : Bool → Hp → Prop) : Prop :=
  ∀ H' fp', Evo fp H fp' H' → SR K H' env' σ fp' → fp'.Nodup → Q b H'
def DT (X : Cx) (e : Expr) (f : TSm) : Prop := ∃ t : TT, PT X e t ∧ ∀ (σ : L2.St) (H : Hp) (env env' : Env) (fp : List Addr) (b : Bool), SR X.K H env σ fp → fp.Nodup → f env = some (b, env') → ∀ Q : Bool → Hp → Prop, TQ X.K σ H fp b env' Q → t σ H Q
/-- argument lists -/
def DAP (own : Bool) (X : Cx) (es : List Expr) (f : APm) : Prop := ∃ t : TA, PA X es t ∧ ∀ (σ : L2.St) (H : Hp) (env : Env) (fp : List Addr) (ds : List D), SR X.K H env σ fp → fp.Nodup → f env = some ds → ∀ Q : List V → Hp → Prop,
  (∀ vs H' fr, Same H H' → ROs X.K H' ds vs fr → (own = true → Fresh fr H) → Q vs H') → t σ H Q
def AQ (K : PySem.W.Frag) (σ : L2.St) (H : Hp) (fp : List Addr) (ds : List D) (env' : Env) (Q : List V → Hp → Prop) : Prop :=
  ∀ vs H' fr fp', Evo fp H (fr ++ fp') H' → SR K H' env' σ fp' → ROs K H' ds vs fr → (fr ++ fp').Nodup → Q vs H'
def DA (X : Cx) (es : List Expr) (f : ASm) : Prop := ∃ t : TA, PA X es t ∧ ∀ (σ : L2.St) (H : Hp) (env env' : Env) (fp : List Addr) (ds : List D), SR X.K H env σ fp → fp.Nodup → f env = some (ds, env') → ∀ Q : List V → Hp → Prop, AQ X.K σ H fp ds env' Q → t σ H Q

section
variable {own : Bool} {X : Cx} {K : PySem.W.Frag} {H H' : Hp} {env env' : Env} {σ : L2.St} {fp fr : List Addr}
theorem SR.same (h : SR K H env σ fp) (e : Same H H') : SR K H' env σ fp := h.mono (.of_same e) (same_eq (K := K) e h.live)
theorem fresh_app (h : SR K H env σ fp) (nd : fp.Nodup) (f : Fresh fr H) : (fr ++ fp).Nodup :=
  List.nodup_append.mpr ⟨f.1, nd, fun a m b m' e => by
    subst e
    obtain ⟨o, z, _⟩ := h.live a m'
    rw [f.2 a m] at z; cases z⟩
/-- without effects: as any expression -/
def eP (f : PSm) : ESm := fun env => (f env).map fun d => (d, env)
theorem de_pure {e : Expr} {f : PSm} (h : DB true X e f) : DE X e (eP f) := by
  obtain ⟨t, p, h⟩ := h
  refine ⟨t, p, fun σ H env env' fp d s nd hf Q q => ?_⟩
  unfold eP at hf
  cases e1 : f env with
  | none => rw [e1] at hf; cases hf
  | some d' =>
    rw [e1] at hf
    cases hf
    refine h σ H env fp _ s nd e1 Q fun v H' fr sm r fo => ?_
    have fo := fo rfl
    exact q v H' fr fp (.of_same sm fo.2) (s.same sm) r (fresh_app s nd fo)
/-- what never changes may be taken for new -/
def pOwn (f : PSm) : PSm := fun env => (f env).bind fun d => if isImm d = true then some d else none
theorem db_own {e : Expr} {f : PSm} (h : DB false X e f) : DB true X e (pOwn f) := by
  obtain ⟨t, p, h⟩ := h
  refine ⟨t, p, fun σ H env fp d s nd hf Q q => ?_⟩
  unfold pOwn at hf
  cases e1 : f env with
  | none => rw [e1] at hf; cases hf
  | some d' =>
    rw [e1] at hf
    have hf : (if isImm d' = true then some d' else none) = some d := hf
    by_cases hi : isImm d' = true
    · rw [if_pos hi] at hf
      cases hf
      refine h σ H env fp _ s nd e1 Q fun v H' fr sm r fo => ?_
      obtain ⟨z, r'⟩ := r.imm hi
      subst z
      exact q v H' [] sm r fun _ => .nil
    · rw [if_neg hi] at hf; cases hf
theorem db_any {e : Expr} {f : PSm} (h : DB true X e f) : DB false X e f := by
  obtain ⟨t, p, h⟩ := h
  exact ⟨t, p, fun σ H env fp d s nd hf Q q => h σ H env fp d s nd hf Q fun v H' fr sm r fo => q v H' fr sm r fun z => nomatch z⟩
def tP (f : TPm) : TSm := fun env => (f env).map fun b => (b, env)
theorem dt_pure {e : Expr} {f : TPm} (h : DTP X e f) : DT X e (tP f) := by
  obtain ⟨t, p, h⟩ := h
  refine ⟨t, p, fun σ H env env' fp d s nd hf Q q => ?_⟩
  unfold tP at hf
  cases e1 : f env with
  | none => rw [e1] at hf; cases hf
  | some d' =>
    rw [e1] at hf
    cases hf
    exact h σ H env fp _ s nd e1 Q fun H' sm => q H' fp ⟨fun a o h _ => sm a o h, fun _ m => .inl m, .of_same sm⟩ (s.same sm) nd

/-! ### names, constants -/
def pVar (i : Nat) : PSm := fun env => (env[i]?).join
theorem db_var {e : Expr} (i : Nat) (h : PE X e (tVar i)) : DB false X e (pVar i) := by
  refine ⟨_, h, fun σ H env fp d s nd hf Q q => ?_⟩
  unfold pVar at hf
  have hf' : env[i]? = some (some d) := by
    cases e1 : env[i]? with
    | none => rw [e1] at hf; cases hf
    | some o => rw [e1] at hf; cases o with
      | none => cases hf
      | some d' => cases hf; rfl
  obtain ⟨v, pre, f, post, e1, _, r, _⟩ := s.at hf'
  exact ⟨v, e1, q v H f (Same.refl H) r fun z => nomatch z⟩
def pC (d : D) : PSm := fun _ => some d
theorem db_c {e : Expr} {v : V} {d : D} (h : PE X e (tC v)) (r : ∀ K H, RI K H d v) : DB true X e (pC d) :=
  ⟨_, h, fun σ H env fp d' s nd hf Q q => by cases hf; exact q.imm (r _ _)⟩
theorem db_int {i : Int} {j pos} : DB true X (.Constant (.int i) j pos) (pC (.int i)) := db_c pe_int fun _ _ => rfl
theorem db_bl {b : Bool} {j pos} : DB true X (.Constant (.bool b) j pos) (pC (.bl b)) := db_c pe_bl fun _ _ => rfl
theorem db_non {j pos} : DB true X (.Constant .none j pos) (pC .non) := db_c pe_non fun _ _ => rfl
theorem db_str {x : Str} {j pos} : DB true X (.Constant (.str x) j pos) (pC (.str x)) := db_c pe_str fun _ _ => rfl
/-- a module's constant int -/
theorem db_gint {x : Str} {i : Int} {pos : Pos} (hg : Gl X x) (hm : ∃ t, X.mg x = some (.int i t)) (hd : (x == ("__debug__" : Str)) = false := by decide) : DB true X (.Name x pos) (pC (.int i)) := by
  obtain ⟨t, hm⟩ := hm
  exact db_c (v := .int i) (pe_glob hg hm ⟨t, rfl⟩ hd) fun _ _ => rfl
/-- a slot's value taken for good -/
def eMove (i : Nat) : ESm := fun env => match env[i]? with
  | some (some d) => some (d, if isImm d = true then env else env.set i none)
  | _ => none
theorem de_move {e : Expr} (i : Nat) (h : PE X e (tVar i)) : DE X e (eMove i) := by
  refine ⟨_, h, fun σ H env env' fp d s nd hf Q q => ?_⟩
  unfold eMove at hf
  cases e1 : env[i]? with
  | none => rw [e1] at hf; cases hf
  | some o =>
    rw [e1] at hf
    cases o with
    | none => cases hf
    | some d' =>
      have hf : some (d', if isImm d' = true then env else env.set i none) = some (d, env') := hf
      obtain ⟨rfl, rfl⟩ := Prod.mk.inj (Option.some.inj hf)
      obtain ⟨v, pre, f, post, e1, e2, r, _, p2⟩ := s.at e1
      by_cases hi : isImm d' = true
      · obtain ⟨z, r'⟩ := r.imm hi
        rw [if_pos hi] at q
        exact ⟨v, e1, q v H [] fp (Evo.refl fp H) s r'.ro nd⟩
      · rw [if_neg hi] at q
        refine ⟨v, e1, q v H f (pre ++ post) ((Evo.refl fp H).sub fun a m => ?_) ?_ r ?_⟩
        · rw [e2]
          rcases List.mem_append.mp m with m | m
          · exact List.mem_append_right _ (List.mem_append_left _ m)
          · rcases List.mem_append.mp m with m | m
            · exact List.mem_append_left _ m
            · exact List.mem_append_right _ (List.mem_append_right _ m)
        · have z := p2 H (some v) (ImmExt.refl H) fun _ _ => rfl
          have e3 : σ.set i (some v) = σ := by
            obtain ⟨h1, h2⟩ := List.getElem?_eq_some_iff.mp e1
            rw [← h2, List.set_getElem_self]
          rw [e3] at z
          exact z
        · rw [e2] at nd
          have p : (pre ++ (f ++ post)).Perm (f ++ (pre ++ post)) := by
            rw [← List.append_assoc, ← List.append_assoc]
            exact List.perm_append_comm.append_right post
          exact p.nodup_iff.mp nd
end

/-! ### operations by values -/
def O2 (own : Bool) (X : Cx) (f : Value → Value → Sem Value) (g : D → D → Option D) : Prop :=
  ∃ r : R2, OpR X f r ∧ ∀ (H : Hp) (x y : V) (dx dy d : D) (fx fy : List Addr), RO X.K H dx x fx → RO X.K H dy y fy → g dx dy = some d → ∀ Q : VK, Res own X.K H d Q → r x y H Q
/-- a one-place operation -/
def O1 (own : Bool) (X : Cx) (f : Value → Sem Value) (g : D → Option D) : Prop :=
  ∃ r : V → Hp → VK → Prop, UnR X f r ∧ ∀ (H : Hp) (x : V) (dx d : D) (fx : List Addr), RO X.K H dx x fx → g dx = some d → ∀ Q : VK, Res own X.K H d Q → r x H Q
/-- a subscript -/
def OX (X : Cx) (g : D → D → Option D) : Prop :=
  ∃ r : R2, IxR X r ∧ ∀ (H : Hp) (x y : V) (dx dy d : D) (fx fy : List Addr), RO X.K H dx x fx → RO X.K H dy y fy → g dx dy = some d → ∀ Q : VK, Res false X.K H d Q → r x y H Q
/-- a call of a known function -/
def OC (own : Bool) (X : Cx) (v : Value) (g : List D → Option D) : Prop :=
  ∃ r : List V → Hp → VK → Prop, CallR X v r ∧ ∀ (H : Hp) (vs : List V) (ds : List D) (fp : List Addr) (d : D), ROs X.K H ds vs fp → g ds = some d → ∀ Q : VK, Res own X.K H d Q → r vs H Q

section
variable {own : Bool} {X : Cx} {a b c : Expr} {pos : Pos}
theorem Res.via {K : PySem.W.Frag} {H H1 : Hp} {d : D} {Q : VK} (q : Res own K H d Q) (e : Same H H1) : Res own K H1 d Q := fun v H' fr e' r fo => q v H' fr (e.trans e') r fun z => (fo z).back e
theorem RO.same {K : PySem.W.Frag} {H H1 : Hp} {d : D} {v : V} {fp : List Addr} (r : RO K H d v fp) (e : Same H H1) : RO K H1 d v fp := RO.mono (.of_same e) d v fp (same_eq (K := K) e (RO.live d v fp r)) r
theorem ROs.same {K : PySem.W.Frag} {H H1 : Hp} {ds : List D} {vs : List V} {fp : List Addr} (r : ROs K H ds vs fp) (e : Same H H1) : ROs K H1 ds vs fp := ROs.mono (.of_same e) ds vs fp (same_eq (K := K) e (ROs.live ds vs fp r)) r
theorem EQ.via {K : PySem.W.Frag} {σ : L2.St} {H H1 : Hp} {fp fp1 : List Addr} {d : D} {env' : Env} {Q : VK} (q : EQ K σ H fp d env' Q) (e : Evo fp H fp1 H1) : EQ K σ H1 fp1 d env' Q :=
  fun v H' fr fp' e' s r n => q v H' fr fp' (e.trans e') s r n
/-- two of them, one behind the other -/
theorem two {K : PySem.W.Frag} {σ : L2.St} {H H1 H2 : Hp} {d : D} {v : V} {env : Env} {fp fr fp1 fr2 fp2 : List Addr} (e1 : Evo fp H (fr ++ fp1) H1) (r1 : RO K H1 d v fr) (n1 : (fr ++ fp1).Nodup) (e2 : Evo fp1 H1 (fr2 ++ fp2) H2) (n2 : (fr2 ++ fp2).Nodup) :
    RO K H2 d v fr ∧ Evo fp H ((fr ++ fr2) ++ fp2) H2 ∧ ((fr ++ fr2) ++ fp2).Nodup := by
  have nf : ∀ a ∈ fr, a ∉ fp1 := fun a m m' => (List.nodup_append.mp n1).2.2 a m a m' rfl
  refine ⟨RO.mono e2.imm d v fr (e2.stay (RO.live d v fr r1) nf) r1, ?_, ?_⟩
  · rw [List.append_assoc]
    exact e1.trans e2.side
  · rw [List.append_assoc]
    exact List.nodup_append.mpr ⟨(List.nodup_append.mp n1).1, n2, fun a m b m' e => by
      subst e
      exact e2.apart (RO.live d v fr r1) nf a m m'⟩
theorem twos {K : PySem.W.Frag} {H H1 H2 : Hp} {ds : List D} {vs : List V} {fp fr fp1 fr2 fp2 : List Addr} (e1 : Evo fp H (fr ++ fp1) H1) (r1 : ROs K H1 ds vs fr) (n1 : (fr ++ fp1).Nodup) (e2 : Evo fp1 H1 (fr2 ++ fp2) H2) (n2 : (fr2 ++ fp2).Nodup) :
    ROs K H2 ds vs fr ∧ Evo fp H ((fr ++ fr2) ++ fp2) H2 ∧ ((fr ++ fr2) ++ fp2).Nodup := by
  have nf : ∀ a ∈ fr, a ∉ fp1 := fun a m m' => (List.nodup_append.mp n1).2.2 a m a m' rfl
  refine ⟨ROs.mono e2.imm ds vs fr (e2.stay (ROs.live ds vs fr r1) nf) r1, ?_, ?_⟩
  · rw [List.append_assoc]
    exact e1.trans e2.side
  · rw [List.append_assoc]
    exact List.nodup_append.mpr ⟨(List.nodup_append.mp n1).1, n2, fun a m b m' e => by
      subst e
      exact e2.apart (ROs.live ds vs fr r1) nf a m m'⟩
/-- the operands let go: what comes is new beside what is ours -/
theorem let_go {K : PySem.W.Frag} {σ : L2.St} {H H1 H2 : Hp} {d : D} {v : V} {env : Env} {fp g fp1 fr : List Addr} {Q : VK} (q : EQ K σ H fp d env Q) (e1 : Evo fp H (g ++ fp1) H1) (s : SR K H1 env σ fp1) (n : fp1.Nodup) (e : Same H1 H2) (r : RO K H2 d v fr) (f : Fresh fr H1) : Q v H2 :=
  q v H2 fr fp1 ((e1.sub fun a m => List.mem_append_right _ m).trans (.of_same e f.2)) (s.same e) r (fresh_app s n f)
/-- an operation, its parts without effects -/
def p2 (g : D → D → Option D) (fa fb : PSm) : PSm := fun env => (fa env).bind fun x => (fb env).bind fun y => g x y
theorem p2_inv {g : D → D → Option D} {fa fb : PSm} {env : Env} {d : D} (h : p2 g fa fb env = some d) : ∃ x y, fa env = some x ∧ fb env = some y ∧ g x y = some d := by
  unfold p2 at h
  cases e1 : fa env with
  | none => rw [e1] at h; cases h
  | some x =>
    cases e2 : fb env with
    | none => rw [e1, e2] at h; cases h
    | some y => rw [e1, e2] at h; exact ⟨x, y, rfl, rfl, h⟩
def e2 (g : D → D → Option D) (fa fb : ESm) : ESm := fun env => (fa env).bind fun x => (fb x.2).bind fun y => (g x.1 y.1).map fun d => (d, y.2)
theorem e2_inv {g : D → D → Option D} {fa fb : ESm} {env env' : Env} {d : D} (h : e2 g fa fb env = some (d, env')) : ∃ x e1 y, fa env = some (x, e1) ∧ fb e1 = some (y, env') ∧ g x y = some d := by
  unfold e2 at h
  cases e1 : fa env with
  | none => rw [e1] at h; cases h
  | some x =>
    rw [e1] at h
    have h : ((fb x.2).bind fun y => (g x.1 y.1).map fun d => (d, y.2)) = some (d, env') := h
    cases e2 : fb x.2 with
    | none => rw [e2] at h; cases h
    | some y =>
      rw [e2] at h
      have h : (g x.1 y.1).map (fun d => (d, y.2)) = some (d, env') := h
      cases e3 : g x.1 y.1 with
      | none => rw [e3] at h; cases h
      | some z => rw [e3] at h; cases h; exact ⟨x.1, x.2, y.1, rfl, by rw [e2], e3⟩
theorem db_bin {f : Value → Value → Sem Value} {e : Expr} {g : D → D → Option D} {fa fb : PSm} (ho : O2 own X f g) (mk : ∀ r ta tb, OpR X f r → PE X a ta → PE X b tb → PE X e (tOp r ta tb)) (ha : DB false X a fa) (hb : DB false X b fb) : DB own X e (p2 g fa fb) := by
  obtain ⟨r, hr, ho⟩ := ho
  obtain ⟨ta, pa, ha⟩ := ha
  obtain ⟨tb, pb, hb⟩ := hb
  refine ⟨_, mk r ta tb hr pa pb, fun σ H env fp d s nd hf Q q => ?_⟩
  obtain ⟨x, y, e1, e2, e3⟩ := p2_inv hf
  refine ha σ H env fp x s nd e1 _ fun vx H1 fx s1 rx _ => ?_
  refine hb σ H1 env fp y (s.same s1) nd e2 _ fun vy H2 fy s2 ry _ => ?_
  exact ho H2 vx vy x y d fx fy (rx.same s2) ry e3 Q ((q.via s1).via s2)
theorem de_bin {f : Value → Value → Sem Value} {e : Expr} {g : D → D → Option D} {fa fb : ESm} (ho : O2 true X f g) (mk : ∀ r ta tb, OpR X f r → PE X a ta → PE X b tb → PE X e (tOp r ta tb)) (ha : DE X a fa) (hb : DE X b fb) : DE X e (e2 g fa fb) := by
  obtain ⟨r, hr, ho⟩ := ho
  obtain ⟨ta, pa, ha⟩ := ha
  obtain ⟨tb, pb, hb⟩ := hb
  refine ⟨_, mk r ta tb hr pa pb, fun σ H env env' fp d s nd hf Q q => ?_⟩
  obtain ⟨x, env1, y, e1, e2, e3⟩ := e2_inv hf
  refine ha σ H env env1 fp x s nd e1 _ fun vx H1 fx fp1 v1 s1 rx n1 => ?_
  refine hb σ H1 env1 env' fp1 y s1 (List.nodup_append.mp n1).2.1 e2 _ fun vy H2 fy fp2 v2 s2 ry n2 => ?_
  obtain ⟨rx2, v12, n12⟩ := two (env := env) (σ := σ) v1 rx n1 v2 n2
  exact ho H2 vx vy x y d fx fy rx2 ry e3 Q fun v H' fr sm r fo => let_go q v12 s2 (List.nodup_append.mp n2).2.1 sm r (fo rfl)
theorem db_op {op : Operator} {g : D → D → Option D} {fa fb : PSm} (ho : O2 own X (binaryOp op) g) (ha : DB false X a fa) (hb : DB false X b fb) : DB own X (.BinOp a op b pos) (p2 g fa fb) := db_bin ho (fun _ _ _ h1 h2 h3 => pe_op h1 h2 h3) ha hb
theorem de_op {op : Operator} {g : D → D → Option D} {fa fb : ESm} (ho : O2 true X (binaryOp op) g) (ha : DE X a fa) (hb : DE X b fb) : DE X (.BinOp a op b pos) (e2 g fa fb) := de_bin ho (fun _ _ _ h1 h2 h3 => pe_op h1 h2 h3) ha hb
theorem db_cmp {op : CmpOp} {g : D → D → Option D} {fa fb : PSm} (ho : O2 own X (compareOp op) g) (ha : DB false X a fa) (hb : DB false X b fb) (hm : behindInMarks op b = false) : DB own X (.Compare a [op] [b] pos) (p2 g fa fb) := db_bin ho (fun _ _ _ h1 h2 h3 => pe_cmpR h1 h2 h3 hm) ha hb
theorem de_cmp {op : CmpOp} {g : D → D → Option D} {fa fb : ESm} (ho : O2 true X (compareOp op) g) (ha : DE X a fa) (hb : DE X b fb) (hm : behindInMarks op b = false) : DE X (.Compare a [op] [b] pos) (e2 g fa fb) := de_bin ho (fun _ _ _ h1 h2 h3 => pe_cmpR h1 h2 h3 hm) ha hb
/-- a comparison as a test -/
def p2t (g : D → D → Option D) (fa fb : PSm) : TPm := fun env => match p2 g fa fb env with
  | some (.bl b) => some b
  | _ => none
theorem dtp_cmp {op : CmpOp} {g : D → D → Option D} {fa fb : PSm} (ho : O2 true X (compareOp op) g) (ha : DB false X a fa) (hb : DB false X b fb) (hm : behindInMarks op b = false) : DTP X (.Compare a [op] [b] pos) (p2t g fa fb) := by
  obtain ⟨r, hr, ho⟩ := ho
  obtain ⟨ta, pa, ha⟩ := ha
  obtain ⟨tb, pb, hb⟩ := hb
  refine ⟨_, pt_cmpR hr pa pb hm, fun σ H env fp d s nd hf Q q => ?_⟩
  unfold p2t at hf
  split at hf
  case h_2 => cases hf
  rename_i bb e0
  cases hf
  obtain ⟨x, y, e1, e2, e3⟩ := p2_inv e0
  refine ha σ H env fp x s nd e1 _ fun vx H1 fx s1 rx _ => ?_
  refine hb σ H1 env fp y (s.same s1) nd e2 _ fun vy H2 fy s2 ry _ => ?_
  refine ho H2 vx vy x y _ fx fy (rx.same s2) ry e3 _ fun v H' fr sm r fo => ?_
  obtain ⟨_, rfl⟩ := r
  exact ⟨_, rfl, q H' ((s1.trans s2).trans sm)⟩
def e2t (g : D → D → Option D) (fa fb : ESm) : TSm := fun env => match e2 g fa fb env with
  | some (.bl b, env') => some (b, env')
  | _ => none
theorem dt_cmp {op : CmpOp} {g : D → D → Option D} {fa fb : ESm} (ho : O2 true X (compareOp op) g) (ha : DE X a fa) (hb : DE X b fb) (hm : behindInMarks op b = false) : DT X (.Compare a [op] [b] pos) (e2t g fa fb) := by
  obtain ⟨r, hr, ho⟩ := ho
  obtain ⟨ta, pa, ha⟩ := ha
  obtain ⟨tb, pb, hb⟩ := hb
  refine ⟨_, pt_cmpR hr pa pb hm, fun σ H env env' fp d s nd hf Q q => ?_⟩
  unfold e2t at hf
  split at hf
  case h_2 => cases hf
  rename_i bb ee e0
  cases hf
  obtain ⟨x, env1, y, e1, e2, e3⟩ := e2_inv e0
  refine ha σ H env env1 fp x s nd e1 _ fun vx H1 fx fp1 v1 s1 rx n1 => ?_
  refine hb σ H1 env1 _ fp1 y s1 (List.nodup_append.mp n1).2.1 e2 _ fun vy H2 fy fp2 v2 s2 ry n2 => ?_
  obtain ⟨rx2, v12, n12⟩ := two (env := env) (σ := σ) v1 rx n1 v2 n2
  refine ho H2 vx vy x y _ fx fy rx2 ry e3 _ fun v H' fr sm r fo => ?_
  obtain ⟨_, rfl⟩ := r
  exact ⟨_, rfl, q H' fp2 ((v12.sub fun a m => List.mem_append_right _ m).trans ⟨fun a o h _ => sm a o h, fun _ m => .inl m, .of_same sm⟩) (s2.same sm) (List.nodup_append.mp n2).2.1⟩
end
end DL

set_option maxHeartbeats 1000000
/-! DL, part c: operations by values -/
namespace DL
open PySem L2
abbrev szL : Nat := 16777216
theorem szL_eq : sizeLine = szL := sizeLine_eq

/-! ### data as the library's data -/
mutual
def py : D → PyData
  | .non => .none
  | .bl b => .bool b
  | .int i => .int i
  | .str s => .str s
  | .tup ds => .tuple (pys ds)
  | .lst _ ds => .list (pys ds)
  | .scr ds => .list (pys ds)
  | .dcK _ _ _ => .none
  | .dcT _ _ _ => .none
def pys : List D → List PyData
  | [] => []
  | d :: ds => py d :: pys ds
end
mutual
/-- no dict in it -/
def nodic : D → Bool
  | .tup ds => nodics ds
  | .lst _ ds => nodics ds
  | .scr ds => nodics ds
  | .dcK _ _ _ => false
  | .dcT _ _ _ => false
  | _ => true
def nodics : List D → Bool
  | [] => true
  | d :: ds => nodic d && nodics ds
end
section
variable {K : PySem.W.Frag} {H : Hp}
mutual
theorem RI.dp : ∀ (d : D) (v : V), RI K H d v → nodic d = true → Dp K H v (py d)
  | .non, _, h, _ => by cases (show _ = _ from h); exact .non
  | .bl b, _, h, _ => by cases (show _ = _ from h); exact .bl b
  | .int i, _, h, _ => by cases (show _ = _ from h); exact .int i
  | .str s, _, h, _ => by cases (show _ = _ from h); exact .str s
  | .tup ds, _, ⟨a, xs, h1, h2, h3⟩, n => by rw [h1]; exact .tup (SqT.of h2) (RIs.dp ds xs h3 n)
  | .lst _ ds, _, ⟨_, a, o, xs, h1, h2, h3⟩, n => by rw [h1]; exact .lst (.inl (.inr ⟨o, h2⟩)) (RIs.dp ds xs h3 n)
  | .scr ds, _, ⟨a, xs, h1, h2, h3⟩, n => by rw [h1]; exact .lst h2.sq (RIs.dp ds xs h3 n)
  | .dcK _ _ _, _, _, n => nomatch (show false = true from n)
  | .dcT _ _ _, _, _, n => nomatch (show false = true from n)
theorem RIs.dp : ∀ (ds : List D) (vs : List V), RIs K H ds vs → nodics ds = true → DpAll K H vs (pys ds)
  | [], _, h, _ => by rw [show _ = [] from h]; exact .nil
  | d :: ds, _, ⟨x, xs, h1, h2, h3⟩, n => by
    have n : (nodic d && nodics ds) = true := n
    rw [Bool.and_eq_true] at n
    rw [h1]; exact .cons (RI.dp d x h2 n.1) (RIs.dp ds xs h3 n.2)
end
mutual
theorem RO.dp : ∀ (d : D) (v : V) (fp : List Addr), RO K H d v fp → nodic d = true → Dp K H v (py d)
  | .non, _, _, h, _ => by cases h.2; exact .non
  | .bl b, _, _, h, _ => by cases h.2; exact .bl b
  | .int i, _, _, h, _ => by cases h.2; exact .int i
  | .str s, _, _, h, _ => by cases h.2; exact .str s
  | .tup ds, v, _, h, n => RI.dp _ v h.2 n
  | .scr ds, v, _, h, n => RI.dp _ v h.2 n
  | .lst fz ds, v, _, h, n => by
    rcases h with ⟨_, _, h⟩ | ⟨_, a, xs, f, h1, _, h2, h3⟩
    · exact RI.dp _ v h n
    · rw [h1]; exact .lst (SqL.of h2) (ROs.dp ds xs f h3 n)
  | .dcK _ _ _, _, _, _, n => nomatch (show false = true from n)
  | .dcT _ _ _, _, _, _, n => nomatch (show false = true from n)
theorem ROs.dp : ∀ (ds : List D) (vs : List V) (fp : List Addr), ROs K H ds vs fp → nodics ds = true → DpAll K H vs (pys ds)
  | [], _, _, h, _ => by rw [h.1]; exact .nil
  | d :: ds, _, _, ⟨x, xs, f, f', h1, _, h2, h3⟩, n => by
    have n : (nodic d && nodics ds) = true := n
    rw [Bool.and_eq_true] at n
    rw [h1]; exact .cons (RO.dp d x f h2 n.1) (ROs.dp ds xs f' h3 n.2)
end
/-! ### flat data are one value -/
def flatD : D → Bool
  | .non => true | .bl _ => true | .int _ => true | .str _ => true
  | _ => false
def fv : D → V
  | .bl b => .bl b
  | .int i => .int i
  | .str s => .str s
  | _ => .non
theorem RO.fv {d : D} {v : V} {fp : List Addr} (h : RO K H d v fp) (f : flatD d = true) : v = fv d := by
  cases d with
  | non => exact h.2
  | bl b => exact h.2
  | int i => exact h.2
  | str s => exact h.2
  | _ => exact nomatch (show false = true from f)
theorem flat_fv {d : D} (f : flatD d = true) : flatV (fv d) = true := by
  cases d with
  | non => rfl
  | bl b => rfl
  | int i => rfl
  | str s => rfl
  | _ => exact nomatch (show false = true from f)
theorem ROs.fvs : ∀ {ds : List D} {vs : List V} {fp : List Addr}, ROs K H ds vs fp → ds.all flatD = true → vs = ds.map DL.fv
  | [], _, _, h, _ => by rw [h.1]; rfl
  | d :: ds, _, _, ⟨x, xs, f, f', h1, _, h2, h3⟩, n => by
    rw [List.all_cons, Bool.and_eq_true] at n
    rw [h1, h2.fv n.1, h3.fvs n.2]; rfl
theorem all_fv {ds : List D} (h : ds.all flatD = true) : (ds.map fv).all flatV = true := by
  rw [List.all_map]
  rw [List.all_eq_true] at h ⊢
  exact fun d m => flat_fv (h d m)
theorem fv_ri {d : D} (f : flatD d = true) : RI K H d (fv d) := by
  cases d with
  | non => rfl
  | bl b => rfl
  | int i => rfl
  | str s => rfl
  | _ => exact nomatch (show false = true from f)

/-! ### what is walked or indexed: a list, a tuple -/
/-- a list or a tuple, and its items -/
def seqD : D → Option (List D)
  | .tup ds => some ds
  | .lst _ ds => some ds
  | .scr ds => some ds
  | _ => none
theorem RO.seq {d : D} {v : V} {fp : List Addr} {ds : List D} (h : RO K H d v fp) (e : seqD d = some ds) : ∃ a xs f, v = .ref a ∧ ROs K H ds xs f ∧ (∀ b ∈ f, b ∈ fp) ∧ (SqL K H a xs ∨ SqT K H a xs) ∧ (∀ o, d = .tup o → SqT K H a xs) ∧ ((∀ o, d ≠ .tup o) → SqL K H a xs) := by
  cases d with
  | tup es =>
    cases e
    obtain ⟨_, a, xs, h1, h2, h3⟩ := h
    exact ⟨a, xs, [], h1, h3.ros, fun b m => (nomatch m), .inr (SqT.of h2), fun _ _ => SqT.of h2, fun n => absurd rfl (n _)⟩
  | lst fz es =>
    cases e
    rcases h with ⟨_, _, _, a, o, xs, h1, h2, h3⟩ | ⟨_, a, xs, f, h1, hf, h2, h3⟩
    · exact ⟨a, xs, [], h1, h3.ros, fun b m => (nomatch m), .inl (.inl (.inr ⟨o, h2⟩)), fun _ z => (nomatch z), fun _ => .inl (.inr ⟨o, h2⟩)⟩
    · exact ⟨a, xs, f, h1, h3, fun b m => by rw [hf]; exact List.mem_cons_of_mem _ m, .inl (SqL.of h2), fun _ z => (nomatch z), fun _ => SqL.of h2⟩
  | scr es =>
    cases e
    obtain ⟨_, a, xs, h1, h2, h3⟩ := h
    exact ⟨a, xs, [], h1, h3.ros, fun b m => (nomatch m), .inl h2.sq, fun _ z => (nomatch z), fun _ => h2.sq⟩
  | _ => cases e
theorem ROs.ris {ds : List D} {vs : List V} {fp : List Addr} (h : ROs K H ds vs fp) (i : ds.all isImm = true) : RIs K H ds vs := (h.imms i).2
end

/-! ### + -/
def dAdd : D → D → Option D
  | .int i, .int j => some (.int (i + j))
  | .str a, .str b => if a.length + b.length ≤ szL then some (.str (a ++ b)) else none
  | .tup a, .tup b => if a.length + b.length ≤ szL then some (.tup (a ++ b)) else none
  | .lst _ a, .lst _ b => if a.length + b.length ≤ szL ∧ a.all isImm = true ∧ b.all isImm = true then some (.lst false (a ++ b)) else none
  | _, _ => none
/-- a list that stands in H, whether it may be changed or not -/
theorem RO.rdl {K : PySem.W.Frag} {H : Hp} {fz : Bool} {ds : List D} {v : V} {fp : List Addr} (h : RO K H (.lst fz ds) v fp) : ∃ a xs f, v = .ref a ∧ Rd H a (.lst xs) ∧ ROs K H ds xs f := by
  rcases h with ⟨_, _, _, a, o, xs, h1, h2, h3⟩ | ⟨_, a, xs, f, h1, hf, h2, h3⟩
  · exact ⟨a, xs, [], h1, .inr ⟨o, h2⟩, h3.ros⟩
  · exact ⟨a, xs, f, h1, .inl h2, h3⟩
section
variable {X : Cx}
theorem Rd.obj {pins : List (Addr × Obj)} {σ : L2.St} {H : Hp} {s : Shared} {a : Addr} {xs : List V} (I : Inv X pins σ H s) (h : Rd H a (.lst xs)) :
    ∃ (its : List Value) (n : Nat), Vals xs its ∧ xs.length ≤ sizeLine ∧ s.heap.get? a = some { cls := .type "list", data := .seq its.toArray n } := by
  obtain ⟨z, its, n, r, e⟩ := h.ok I.hok
  exact ⟨its, n, r, z, e⟩
/-- a new list beside two that are read -/
def rCatR : R2 := fun x y H Q => ∃ l b xs zs, x = .ref l ∧ y = .ref b ∧ Rd H l (.lst xs) ∧ Rd H b (.lst zs) ∧ xs.length + zs.length ≤ sizeLine ∧ ∀ p, H p = none → Q (.ref p) (upd H p (.lst (xs ++ zs)))
theorem op_catR : OpR X (binaryOp .Add) rCatR := by
  rintro pins s σ H x y v u Q I rx ry ⟨l, b, xs, zs, rfl, rfl, hl, hb, hz, q⟩
  cases rx
  cases ry
  obtain ⟨i1, n1, r1, z1, g1⟩ := Rd.obj I hl
  obtain ⟨i2, n2, r2, z2, g2⟩ := Rd.obj I hb
  have l1 := r1.length
  have l2 := r2.length
  refine PySem.P.add_list g1 g2 ?_ (by simp only [List.size_toArray]; omega)
  have I2 := I.lnew (its := i1 ++ i2) (t' := s.toks) (r1.append r2) (by rw [List.length_append]; omega)
  rw [show i1.toArray ++ i2.toArray = (i1 ++ i2).toArray from by simp]
  exact ⟨.ref s.heap.objs.size, _, I2, rfl, q _ I.fresh⟩
theorem o_add : O2 true X (binaryOp .Add) dAdd := by
  refine ⟨_, op_add.or (op_add_str.or (op_catA.or op_catR)), fun H x y dx dy d fx fy hx hy hg Q q => ?_⟩
  unfold dAdd at hg
  split at hg
  · cases hg
    obtain ⟨_, rfl⟩ := hx
    obtain ⟨_, rfl⟩ := hy
    exact .inl ⟨_, _, rfl, rfl, q.int⟩
  · split at hg
    · rename_i hz
      cases hg
      obtain ⟨_, rfl⟩ := hx
      obtain ⟨_, rfl⟩ := hy
      exact .inr (.inl ⟨_, _, rfl, rfl, by rw [szL_eq]; exact hz, q.str⟩)
    · cases hg
  · split at hg
    · rename_i a0 b0 hz
      cases hg
      obtain ⟨_, a, xs, h1, h2, h3⟩ := hx
      obtain ⟨_, b, ys, h4, h5, h6⟩ := hy
      refine .inr (.inr (.inl ⟨a, b, xs, ys, h1, h4, SqT.of h2, SqT.of h5, by rw [szL_eq, h3.length, h6.length]; exact hz, fun e => ?_, fun _ e => ?_, fun _ _ p hp => ?_⟩))
      · refine q.imm ?_
        subst e
        have e := h3.length
        have e0 : a0 = [] := List.eq_nil_of_length_eq_zero (by simpa using e.symm)
        rw [e0]
        exact ⟨b, ys, h4 ▸ rfl, h5, h6⟩
      · refine q.imm ?_
        subst e
        have e := h6.length
        have e0 : b0 = [] := List.eq_nil_of_length_eq_zero (by simpa using e.symm)
        rw [e0, List.append_nil]
        exact ⟨a, xs, rfl, h2, h3⟩
      · exact q.tup (h3.app h6) hp
    · cases hg
  · split at hg
    · rename_i hz
      cases hg
      obtain ⟨a, xs, f, h1, h2, h3⟩ := hx.rdl
      obtain ⟨b, ys, f', h4, h5, h6⟩ := hy.rdl
      exact .inr (.inr (.inr ⟨a, b, xs, ys, h1, h4, h2, h5, by rw [szL_eq, h3.length, h6.length]; exact hz.1, fun p hp => q.lst ((h3.ris hz.2.1).app (h6.ris hz.2.2)) hp⟩))
    · cases hg
  · cases hg
/-- the same of two ints, all ways -/
theorem o_int {f : Value → Value → Sem Value} {C : Int → Int → Prop} {g : Int → Int → V} {h : D → D → Option D} (hr : OpR X f (rI C g))
    (hh : ∀ dx dy d, h dx dy = some d → ∃ i j, dx = .int i ∧ dy = .int j ∧ C i j ∧ flatD d = true ∧ fv d = g i j) : O2 true X f h := by
  refine ⟨_, hr, fun H x y dx dy d fx fy hx hy hg Q q => ?_⟩
  obtain ⟨i, j, rfl, rfl, hc, hf, e⟩ := hh dx dy d hg
  obtain ⟨_, rfl⟩ := hx
  obtain ⟨_, rfl⟩ := hy
  refine ⟨i, j, rfl, rfl, hc, ?_⟩
  rw [← e]
  exact q.imm (fv_ri hf)
theorem o_int0 {f : Value → Value → Sem Value} {g : Int → Int → V} {h : D → D → Option D} (hr : OpR X f (rI0 g))
    (hh : ∀ dx dy d, h dx dy = some d → ∃ i j, dx = .int i ∧ dy = .int j ∧ flatD d = true ∧ fv d = g i j) : O2 true X f h := by
  refine ⟨_, hr, fun H x y dx dy d fx fy hx hy hg Q q => ?_⟩
  obtain ⟨i, j, rfl, rfl, hf, e⟩ := hh dx dy d hg
  obtain ⟨_, rfl⟩ := hx
  obtain ⟨_, rfl⟩ := hy
  refine ⟨i, j, rfl, rfl, ?_⟩
  rw [← e]
  exact q.imm (fv_ri hf)
def dSub : D → D → Option D
  | .int i, .int j => some (.int (i - j))
  | _, _ => none
theorem o_sub : O2 true X (binaryOp .Sub) dSub := o_int0 op_sub fun dx dy d h => by
  unfold dSub at h
  split at h
  · cases h; exact ⟨_, _, rfl, rfl, rfl, rfl⟩
  · cases h
abbrev bitsI (i : Int) : Nat := Builtin.Int.intBits i
def dMul : D → D → Option D
  | .int i, .int j => if bitsI i + bitsI j ≤ 134217728 then some (.int (i * j)) else none
  | .lst _ ds, .int k => if -9223372036854775808 ≤ k ∧ k < 9223372036854775808 ∧ ds.length * k.toNat ≤ szL ∧ ds.all isImm = true then some (.lst false (List.replicate k.toNat ds).flatten) else none
  | _, _ => none
def rRepR : R2 := fun x y H Q => ∃ l k xs, x = .ref l ∧ y = .int k ∧ Rd H l (.lst xs) ∧ -(2 ^ 63) ≤ k ∧ k < 2 ^ 63 ∧ xs.length * k.toNat ≤ sizeLine ∧ ∀ p, H p = none → Q (.ref p) (upd H p (.lst (List.replicate k.toNat xs).flatten))
theorem RIs.rep {K : PySem.W.Frag} {H : Hp} {ds : List D} {xs : List V} (h : RIs K H ds xs) : ∀ n : Nat, RIs K H (List.replicate n ds).flatten (List.replicate n xs).flatten
  | 0 => rfl
  | n + 1 => by
    rw [List.replicate_succ, List.replicate_succ, List.flatten_cons, List.flatten_cons]
    exact h.app (RIs.rep h n)
def dMod : D → D → Option D
  | .int i, .int j => if 0 < j then some (.int (i % j)) else none
  | _, _ => none
theorem o_mod : O2 true X (binaryOp .Mod) dMod := o_int op_mod fun dx dy d h => by
  unfold dMod at h
  split at h
  · split at h
    · rename_i hj
      cases h; exact ⟨_, _, rfl, rfl, hj, rfl, rfl⟩
    · cases h
  · cases h
def dDiv : D → D → Option D
  | .int i, .int j => if 0 < j ∧ j < 1073741824 then some (.int (i / j)) else none
  | _, _ => none
theorem o_div : O2 true X (binaryOp .FloorDiv) dDiv := o_int op_fdiv fun dx dy d h => by
  unfold dDiv at h
  split at h
  · split at h
    · rename_i hj
      cases h; exact ⟨_, _, rfl, rfl, hj, rfl, rfl⟩
    · cases h
  · cases h
def dPow : D → D → Option D
  | .int i, .int j => if 0 ≤ j ∧ j ≤ 1000000 ∧ i.natAbs < 18446744073709551616 then some (.int (i ^ j.toNat)) else none
  | _, _ => none
theorem o_pow : O2 true X (binaryOp .Pow) dPow := o_int op_pow fun dx dy d h => by
  unfold dPow at h
  split at h
  · split at h
    · rename_i hj
      cases h
      exact ⟨_, _, rfl, rfl, ⟨hj.1, hj.2.1, by have := hj.2.2; show _ < 2 ^ 64; omega⟩, rfl, rfl⟩
    · cases h
  · cases h
/-! ### comparisons -/
def dLt : D → D → Option D
  | .int i, .int j => some (.bl (decide (i < j)))
  | .str a, .str b => some (.bl (decide (a.cps.toList < b.cps.toList)))
  | _, _ => none
def dLe : D → D → Option D
  | .int i, .int j => some (.bl (decide (i ≤ j)))
  | _, _ => none
def dGt : D → D → Option D
  | .int i, .int j => some (.bl (decide (j < i)))
  | _, _ => none
def dGe : D → D → Option D
  | .int i, .int j => some (.bl (decide (j ≤ i)))
  | _, _ => none
theorem o_le : O2 true X (compareOp .LtE) dLe := o_int0 op_le fun dx dy d h => by
  unfold dLe at h
  split at h
  · cases h; exact ⟨_, _, rfl, rfl, rfl, rfl⟩
  · cases h
theorem o_gt : O2 true X (compareOp .Gt) dGt := o_int0 op_gt fun dx dy d h => by
  unfold dGt at h
  split at h
  · cases h; exact ⟨_, _, rfl, rfl, rfl, rfl⟩
  · cases h
theorem o_ge : O2 true X (compareOp .GtE) dGe := o_int0 op_ge fun dx dy d h => by
  unfold dGe at h
  split at h
  · cases h; exact ⟨_, _, rfl, rfl, rfl, rfl⟩
  · cases h
theorem o_lt : O2 true X (compareOp .Lt) dLt := by
  refine ⟨_, op_lt.or op_lt_str, fun H x y dx dy d fx fy hx hy hg Q q => ?_⟩
  unfold dLt at hg
  split at hg
  · cases hg
    obtain ⟨_, rfl⟩ := hx
    obtain ⟨_, rfl⟩ := hy
    exact .inl ⟨_, _, rfl, rfl, q.bl⟩
  · cases hg
    obtain ⟨_, rfl⟩ := hx
    obtain ⟨_, rfl⟩ := hy
    exact .inr ⟨_, _, rfl, rfl, q.bl⟩
  · cases hg
/-- == of flat data, as decided -/
def scalD : D → D → Bool
  | .bl _, .int _ => false
  | .int _, .bl _ => false
  | a, b => flatD a && flatD b
theorem scal_fv {a b : D} (h : scalD a b = true) : flatD a = true ∧ flatD b = true ∧ scal (fv a) (fv b) = true := by
  cases a <;> cases b <;> first | exact ⟨rfl, rfl, rfl⟩ | exact nomatch (show false = true from h)
def eqF : D → D → Bool
  | .non, .non => true
  | .bl a, .bl b => a == b
  | .int a, .int b => a == b
  | .str a, .str b => decide (a = b)
  | _, _ => false
theorem eq_fv {a b : D} (h : scalD a b = true) : decide (fv a = fv b) = eqF a b := by
  cases a <;> cases b <;> first
    | exact nomatch (show false = true from h)
    | exact decide_eq_true rfl
    | exact dec_bl
    | exact dec_int
    | (simp only [fv, eqF, V.str.injEq]; done)
    | exact decide_eq_false (fun z => (nomatch z))
def dEq (a b : D) : Option D :=
  if scalD a b = true then some (.bl (eqF a b))
  else if nodic a = true ∧ nodic b = true ∧ SeqAt.shaped (py a) = true ∧ SeqAt.shaped (py b) = true then some (.bl (PyData.eqv (py a) (py b)))
  else none
def dNe (a b : D) : Option D :=
  if scalD a b = true then some (.bl (!eqF a b))
  else if nodic a = true ∧ nodic b = true ∧ SeqAt.shaped (py a) = true ∧ SeqAt.shaped (py b) = true then some (.bl (!PyData.eqv (py a) (py b)))
  else none
theorem o_eq (hu : X.A.units + 64 < cLine) : O2 true X (compareOp .Eq) dEq := by
  refine ⟨_, op_eq.or (op_eqD hu), fun H x y dx dy d fx fy hx hy hg Q q => ?_⟩
  unfold dEq at hg
  split at hg
  · rename_i hs
    cases hg
    obtain ⟨h1, h2, h3⟩ := scal_fv hs
    refine .inl ?_
    rw [hx.fv h1, hy.fv h2]
    exact ⟨h3, by rw [eq_fv hs]; exact q.bl⟩
  · split at hg
    · rename_i hs
      cases hg
      exact .inr ⟨_, _, RO.dp _ _ _ hx hs.1, RO.dp _ _ _ hy hs.2.1, hs.2.2.1, hs.2.2.2, q.bl⟩
    · cases hg
theorem o_ne (hu : X.A.units + 64 < cLine) : O2 true X (compareOp .NotEq) dNe := by
  refine ⟨_, op_ne.or (op_neD hu), fun H x y dx dy d fx fy hx hy hg Q q => ?_⟩
  unfold dNe at hg
  split at hg
  · rename_i hs
    cases hg
    obtain ⟨h1, h2, h3⟩ := scal_fv hs
    refine .inl ?_
    rw [hx.fv h1, hy.fv h2]
    exact ⟨h3, by rw [eq_fv hs]; exact q.bl⟩
  · split at hg
    · rename_i hs
      cases hg
      exact .inr ⟨_, _, RO.dp _ _ _ hx hs.1, RO.dp _ _ _ hy hs.2.1, hs.2.2.1, hs.2.2.2, q.bl⟩
    · cases hg
def isNonD : D → Bool
  | .non => true
  | _ => false
def dIs : D → D → Option D
  | a, .non => some (.bl (isNonD a))
  | .bl a, .bl b => some (.bl (decide (a = b)))
  | _, _ => none
def dIsNot : D → D → Option D
  | a, .non => some (.bl (!isNonD a))
  | .bl a, .bl b => some (.bl (!decide (a = b)))
  | _, _ => none
theorem RO.non_iff {K : PySem.W.Frag} {H : Hp} {d : D} {v : V} {fp : List Addr} (h : RO K H d v fp) : decide (v = .non) = isNonD d := by
  cases d with
  | non => cases h.2; rfl
  | bl b => cases h.2; rfl
  | int b => cases h.2; rfl
  | str b => cases h.2; rfl
  | tup ds => obtain ⟨_, a, xs, h1, _⟩ := h; rw [h1]; rfl
  | scr ds => obtain ⟨_, a, xs, h1, _⟩ := h; rw [h1]; rfl
  | lst fz ds =>
    obtain ⟨a, xs, f, h1, _⟩ := h.rdl
    rw [h1]; rfl
  | dcK fz ks ds =>
    rcases h with ⟨_, _, _, a, o, xs, h1, _⟩ | ⟨_, a, xs, f, h1, _⟩
    · rw [h1]; rfl
    · rw [h1]; rfl
  | dcT fz ks ds =>
    rcases h with ⟨_, _, _, a, o, xs, h1, _⟩ | ⟨_, a, xs, f, h1, _⟩
    · rw [h1]; rfl
    · rw [h1]; rfl
theorem o_is : O2 true X (compareOp .Is) dIs := by
  refine ⟨_, op_isN.or op_isBl, fun H x y dx dy d fx fy hx hy hg Q q => ?_⟩
  unfold dIs at hg
  split at hg
  · cases hg
    refine .inl ⟨hy.2, ?_⟩
    rw [hx.non_iff]
    exact q.bl
  · cases hg
    exact .inr ⟨_, _, hx.2, hy.2, q.bl⟩
  · cases hg
theorem o_isnot : O2 true X (compareOp .IsNot) dIsNot := by
  refine ⟨_, op_notN.or op_notBl, fun H x y dx dy d fx fy hx hy hg Q q => ?_⟩
  unfold dIsNot at hg
  split at hg
  · cases hg
    refine .inl ⟨hy.2, ?_⟩
    rw [hx.non_iff]
    exact q.bl
  · cases hg
    exact .inr ⟨_, _, hx.2, hy.2, q.bl⟩
  · cases hg
end
end DL

set_option maxHeartbeats 1000000
/-! DL, part d: subscripts, slices, in, truth, calls of built-ins, displays -/
namespace DL
open PySem L2

/-! ### tables as two lists -/
section
variable {κ α : Type} [DecidableEq κ]
def getZ : List κ → List α → κ → Option α
  | k :: ks, d :: ds, j => if k = j then some d else getZ ks ds j
  | _, _, _ => none
def putZ : List κ → List α → κ → α → List κ × List α
  | k :: ks, d :: ds, j, v => if k = j then (k :: ks, v :: ds) else let r := putZ ks ds j v; (k :: r.1, d :: r.2)
  | _, _, j, v => ([j], [v])
theorem getZ_val : ∀ (ks : List κ) (xs : List V) (j : κ), valV (ks.zip xs) j = getZ ks xs j
  | [], _, _ => rfl
  | k :: ks, [], _ => rfl
  | k :: ks, x :: xs, j => by
    rw [List.zip_cons_cons]
    by_cases e : k = j
    · rw [valV_pos (p := (k, x)) e]; simp only [getZ, if_pos e]
    · rw [valV_neg (p := (k, x)) e, getZ_val ks xs j]; simp only [getZ, if_neg e]
end
section
variable {K : PySem.W.Frag} {H : Hp} {κ : Type} [DecidableEq κ]
theorem RIs.getZ : ∀ {ks : List κ} {ds : List D} {xs : List V} {j : κ} {d : D}, RIs K H ds xs → getZ ks ds j = some d → ∃ x, DL.getZ ks xs j = some x ∧ RI K H d x
  | [], _, _, _, _, _, e => by simp [DL.getZ] at e
  | k :: ks, [], _, _, _, _, e => by simp [DL.getZ] at e
  | k :: ks, d :: ds, _, j, d', ⟨x, xs, h1, h2, h3⟩, e => by
    rw [h1]
    by_cases ek : k = j
    · simp only [DL.getZ, if_pos ek] at e ⊢
      cases e
      exact ⟨x, rfl, h2⟩
    · simp only [DL.getZ, if_neg ek] at e ⊢
      exact h3.getZ e
theorem ROs.getZ : ∀ {ks : List κ} {ds : List D} {xs : List V} {fp : List Addr} {j : κ} {d : D}, ROs K H ds xs fp → getZ ks ds j = some d → ∃ x f, DL.getZ ks xs j = some x ∧ RO K H d x f ∧ ∀ a ∈ f, a ∈ fp
  | [], _, _, _, _, _, _, e => by simp [DL.getZ] at e
  | k :: ks, [], _, _, _, _, _, e => by simp [DL.getZ] at e
  | k :: ks, d :: ds, _, _, j, d', ⟨x, xs, f, f', h1, hf, h2, h3⟩, e => by
    rw [h1]
    by_cases ek : k = j
    · simp only [DL.getZ, if_pos ek] at e ⊢
      cases e
      exact ⟨x, f, rfl, h2, fun a m => by rw [hf]; exact List.mem_append_left _ m⟩
    · simp only [DL.getZ, if_neg ek] at e ⊢
      obtain ⟨y, g, e1, r, m⟩ := h3.getZ e
      exact ⟨y, g, e1, r, fun a ma => by rw [hf]; exact List.mem_append_right _ (m a ma)⟩
theorem ROs.getZ_none : ∀ {ks : List κ} {ds : List D} {xs : List V} {fp : List Addr} {j : κ}, ROs K H ds xs fp → DL.getZ ks ds j = none → DL.getZ ks xs j = none
  | [], _, _, _, _, _, e => by simp [DL.getZ]
  | k :: ks, [], _, _, _, h, e => by rw [h.1]; simp [DL.getZ]
  | k :: ks, d :: ds, _, _, j, ⟨x, xs, f, f', h1, hf, h2, h3⟩, e => by
    rw [h1]
    by_cases ek : k = j
    · simp only [DL.getZ, if_pos ek] at e
      cases e
    · simp only [DL.getZ, if_neg ek] at e ⊢
      exact h3.getZ_none e
end
/-- a key -/
def kD : D → Option Key
  | .int i => some (.inl i)
  | .str s => some (.inr s)
  | _ => none
def kDs : List D → Option (List Key)
  | [] => some []
  | d :: ds => (kD d).bind fun k => (kDs ds).map fun ks => k :: ks
def tD : D → Option (List Key)
  | .tup ds => kDs ds
  | _ => none
section
variable {K : PySem.W.Frag} {H : Hp}
theorem RO.kD {d : D} {v : V} {fp : List Addr} {k : Key} (h : RO K H d v fp) (e : kD d = some k) : v = kV k := by
  cases d with
  | int i => cases e; exact h.2
  | str s => cases e; exact h.2
  | _ => cases e
theorem RIs.kDs : ∀ {ds : List D} {xs : List V} {ks : List Key}, RIs K H ds xs → kDs ds = some ks → xs = ks.map kV
  | [], _, _, h, e => by cases e; exact h
  | d :: ds, _, ks, ⟨x, xs, h1, h2, h3⟩, e => by
    simp only [DL.kDs] at e
    cases e1 : DL.kD d with
    | none => rw [e1] at e; cases e
    | some k =>
      rw [e1] at e
      have e : (DL.kDs ds).map (fun ks => k :: ks) = some ks := e
      cases e2 : DL.kDs ds with
      | none => rw [e2] at e; cases e
      | some ks' =>
        rw [e2] at e
        cases e
        rw [h1, h3.kDs e2, h2.ro.kD e1]; rfl
theorem RO.tD {d : D} {v : V} {fp : List Addr} {k : List Key} (h : RO K H d v fp) (e : tD d = some k) : ∃ b, v = .ref b ∧ H b = some (.tup (k.map kV)) := by
  cases d with
  | tup ds =>
    obtain ⟨_, a, xs, h1, h2, h3⟩ := h
    exact ⟨a, h1, by rw [h2, h3.kDs e]⟩
  | _ => cases e
/-- what a dict says -/
def dGet : D → D → Option (Option D)
  | .dcK _ ks ds, y => (kD y).map fun k => getZ ks ds k
  | .dcT _ ks ds, y => (tD y).map fun k => getZ ks ds k
  | _, _ => none
def DRel (K : PySem.W.Frag) (H : Hp) : Option D → Option V → Prop
  | none, r => r = none
  | some d', r => ∃ x f, r = some x ∧ RO K H d' x f
theorem RO.dget {d y : D} {v w : V} {fp fy : List Addr} {o : Option D} (h : RO K H d v fp) (hy : RO K H y w fy) (e : dGet d y = some o) :
    ∃ a r, v = .ref a ∧ DGet H a w r ∧ DRel K H o r := by
  cases d with
  | dcK fz ks ds =>
    simp only [dGet] at e
    cases e1 : DL.kD y with
    | none => rw [e1] at e; cases e
    | some k =>
      rw [e1] at e
      cases e
      have hw := hy.kD e1
      have fin : ∀ {a : Addr} {xs : List V} {f : List Addr}, v = .ref a → Rd H a (.dK (ks.zip xs)) → ROs K H ds xs f → ∃ a r, v = .ref a ∧ DGet H a w r ∧ DRel K H (DL.getZ ks ds k) r := fun {a xs f} hv hr hs => by
        refine ⟨a, valV (ks.zip xs) k, hv, .inl ⟨_, k, hr, hw, rfl⟩, ?_⟩
        rw [getZ_val]
        cases e2 : DL.getZ ks ds k with
        | none => exact hs.getZ_none e2
        | some d' =>
          obtain ⟨x, g, e3, r, _⟩ := hs.getZ e2
          exact ⟨x, g, e3, r⟩
      rcases h with ⟨_, _, _, a, o, xs, h1, h2, _, h3⟩ | ⟨_, a, xs, f, h1, _, h2, _, h3⟩
      · exact fin h1 (.inr ⟨o, h2⟩) h3.ros
      · exact fin h1 (.inl h2) h3
  | dcT fz ks ds =>
    simp only [dGet] at e
    cases e1 : DL.tD y with
    | none => rw [e1] at e; cases e
    | some k =>
      rw [e1] at e
      cases e
      obtain ⟨b, hw, hb⟩ := hy.tD e1
      have fin : ∀ {a : Addr} {xs : List V} {f : List Addr}, v = .ref a → Rd H a (.dT (ks.zip xs)) → ROs K H ds xs f → ∃ a r, v = .ref a ∧ DGet H a w r ∧ DRel K H (DL.getZ ks ds k) r := fun {a xs f} hv hr hs => by
        refine ⟨a, valV (ks.zip xs) k, hv, .inr ⟨_, k, b, hr, hw, hb, rfl⟩, ?_⟩
        rw [getZ_val]
        cases e2 : DL.getZ ks ds k with
        | none => exact hs.getZ_none e2
        | some d' =>
          obtain ⟨x, g, e3, r, _⟩ := hs.getZ e2
          exact ⟨x, g, e3, r⟩
      rcases h with ⟨_, _, _, a, o, xs, h1, h2, _, h3⟩ | ⟨_, a, xs, f, h1, _, h2, _, h3⟩
      · exact fin h1 (.inr ⟨o, h2⟩) h3.ros
      · exact fin h1 (.inl h2) h3
  | _ => cases e
end

/-! ### a[b] -/
def dIx (a b : D) : Option D :=
  match a, b with
  | .str s, .int i => if s.length ≤ szL then (atI s.cps.toList i).map fun c => .str ⟨#[c]⟩ else none
  | a, b => match dGet a b with
    | some r => r
    | none => match seqD a, b with
      | some ds, .int i => atI ds i
      | _, _ => none
section
variable {K : PySem.W.Frag} {H : Hp}
theorem ROs.atI {ds : List D} {xs : List V} {fp : List Addr} {i : Int} {d : D} (h : ROs K H ds xs fp) (e : atI ds i = some d) : ∃ x f, L2.atI xs i = some x ∧ RO K H d x f ∧ ∀ a ∈ f, a ∈ fp := by
  unfold L2.atI at e ⊢
  rw [h.length]
  cases e1 : ixN ds.length i with
  | none => rw [e1] at e; cases e
  | some j =>
    rw [e1] at e
    exact h.get e
end
section
variable {X : Cx}
/-- a dict's item, as a subscript -/
def rIxDc : R2 := fun x y H Q => ∃ a v, x = .ref a ∧ DGet H a y (some v) ∧ Q v H
theorem ix_dc (hu : X.A.units + 1 < cLine) : IxR X rIxDc := by
  rintro vl sl pins s σ H x y v u Q I rx ry ⟨a, w, rfl, g, q⟩ hs
  obtain rfl : v = Value.ref a := rx
  exact PyProof.Rows.tail_any (ops := [.ref a, u]) (dict_typeIs I g) PySem.F.slot_dict_getitem.lookup (d_getItem hu I g ry fun z s' I' r => ⟨w, H, I', r, q⟩) hs
theorem o_ix (hu : X.A.units + 1 < cLine) : OX X dIx := by
  refine ⟨_, (ix_dc hu).or ix_seq, fun H x y dx dy d fx fy hx hy hg Q q => ?_⟩
  unfold dIx at hg
  split at hg
  · split at hg
    · rename_i hz
      obtain ⟨_, rfl⟩ := hx
      obtain ⟨_, rfl⟩ := hy
      obtain ⟨c, e1, e2⟩ := Option.map_eq_some_iff.mp hg
      subst e2
      exact .inr (.inr (.inr ⟨_, _, c, rfl, rfl, by rw [szL_eq]; exact hz, e1, q.str⟩))
    · cases hg
  · split at hg
    · rename_i r e1
      subst hg
      obtain ⟨a, r, h1, h2, h3⟩ := hx.dget hy e1
      obtain ⟨x', f, e2, r'⟩ := h3
      subst e2
      exact .inl ⟨a, x', h1, h2, q x' H f (Same.refl H) r' fun z => (nomatch z)⟩
    · split at hg
      · obtain ⟨_, rfl⟩ := hy
        obtain ⟨a, xs, f, h1, h2, _, h4, _⟩ := hx.seq (by assumption)
        obtain ⟨x', f', e2, r', _⟩ := h2.atI hg
        have fin := q x' H f' (Same.refl H) r' fun z => (nomatch z)
        rcases h4 with h4 | h4
        · exact .inr (.inl ⟨a, xs, _, x', h1, rfl, h4, e2, fin⟩)
        · exact .inr (.inr (.inl ⟨a, xs, _, x', h1, rfl, h4, e2, fin⟩))
      · cases hg
variable {a b : Expr} {pos : Pos}
theorem db_ix (hu : X.A.units + 1 < cLine) {fa fb : PSm} (ha : DB false X a fa) (hb : DB false X b fb) (hs : PlainIx b) : DB false X (.Subscript a b pos) (p2 dIx fa fb) := by
  obtain ⟨r, hr, ho⟩ := o_ix hu
  obtain ⟨ta, pa, ha⟩ := ha
  obtain ⟨tb, pb, hb⟩ := hb
  refine ⟨_, pe_ix hr pa pb hs, fun σ H env fp d s nd hf Q q => ?_⟩
  obtain ⟨x, y, e1, e2, e3⟩ := p2_inv hf
  refine ha σ H env fp x s nd e1 _ fun vx H1 fx s1 rx _ => ?_
  refine hb σ H1 env fp y (s.same s1) nd e2 _ fun vy H2 fy s2 ry _ => ?_
  exact ho H2 vx vy x y d fx fy (rx.same s2) ry e3 Q ((q.via s1).via s2)
/-- the item never changes -/
def dIxI (a b : D) : Option D := (dIx a b).bind fun d => if isImm d = true then some d else none
theorem de_ix (hu : X.A.units + 1 < cLine) {fa fb : ESm} (ha : DE X a fa) (hb : DE X b fb) (hs : PlainIx b) : DE X (.Subscript a b pos) (e2 dIxI fa fb) := by
  obtain ⟨r, hr, ho⟩ := o_ix hu
  obtain ⟨ta, pa, ha⟩ := ha
  obtain ⟨tb, pb, hb⟩ := hb
  refine ⟨_, pe_ix hr pa pb hs, fun σ H env env' fp d s nd hf Q q => ?_⟩
  obtain ⟨x, env1, y, e1, e2, e3⟩ := e2_inv hf
  obtain ⟨d', e4, e5⟩ := Option.bind_eq_some_iff.mp e3
  by_cases hi : isImm d' = true
  case neg => rw [if_neg hi] at e5; cases e5
  rw [if_pos hi] at e5
  cases e5
  refine ha σ H env env1 fp x s nd e1 _ fun vx H1 fx fp1 v1 s1 rx n1 => ?_
  refine hb σ H1 env1 env' fp1 y s1 (List.nodup_append.mp n1).2.1 e2 _ fun vy H2 fy fp2 v2 s2 ry n2 => ?_
  obtain ⟨rx2, v12, n12⟩ := two (env := env) (σ := σ) v1 rx n1 v2 n2
  refine ho H2 vx vy x y _ fx fy rx2 ry e4 Q fun v H' fr sm r fo => ?_
  obtain ⟨ez, r'⟩ := r.imm hi
  subst ez
  exact let_go q v12 s2 (List.nodup_append.mp n2).2.1 sm r .nil
end

/-! ### x in y -/
def dIn0 (a b : D) : Option Bool :=
  match a, b with
  | .str x, .str y => some (!(Builtin.Str.occurrences y x 0 y.length 1).isEmpty)
  | a, b => match dGet b a with
    | some r => some r.isSome
    | none => match seqD b with
      | some ds => if flatD a = true ∧ ds.all flatD = true then some (inV (fv a) (ds.map fv))
        else match b with
          | .tup _ => none
          | _ => if nodic a = true ∧ nodics ds = true ∧ SeqAt.shaped (py a) = true ∧ SeqAt.shaped (.list (pys ds)) = true then some ((pys ds).any fun z => PyData.eqv z (py a)) else none
      | none => none
def dIn (a b : D) : Option D := (dIn0 a b).map .bl
def dNotIn (a b : D) : Option D := (dIn0 a b).map fun k => .bl (!k)
section
variable {X : Cx}
def rInDc (neg : Bool) : R2 := fun y x H Q => ∃ a o, x = .ref a ∧ DGet H a y o ∧ Q (.bl (if neg = true then !o.isSome else o.isSome)) H
theorem op_inDc (hu : X.A.units + 1 < cLine) : OpR X (compareOp .In) (rInDc false) := by
  rintro pins s σ H x y v u Q I rx ry ⟨a, o, rfl, g, q⟩
  obtain rfl : u = Value.ref a := ry
  exact d_in hu I g rx fun s' I' => ⟨.bl o.isSome, H, I', rfl, q⟩
theorem op_notInDc (hu : X.A.units + 1 < cLine) : OpR X (compareOp .NotIn) (rInDc true) := by
  rintro pins s σ H x y v u Q I rx ry ⟨a, o, rfl, g, q⟩
  obtain rfl : u = Value.ref a := ry
  exact d_notIn hu I g rx fun s' I' => ⟨.bl (!o.isSome), H, I', rfl, q⟩
theorem in_core {H : Hp} {x y : V} {dx dy : D} {fx fy : List Addr} {k : Bool} (hx : RO X.K H dx x fx) (hy : RO X.K H dy y fy) (hg : dIn0 dx dy = some k) :
    (∃ i j, x = .str i ∧ y = .str j ∧ k = (!(Builtin.Str.occurrences j i 0 j.length 1).isEmpty)) ∨
    (∃ a o, y = .ref a ∧ DGet H a x o ∧ k = o.isSome) ∨
    (∃ p xs, y = .ref p ∧ (SqL X.K H p xs ∨ SqT X.K H p xs) ∧ flatV x = true ∧ xs.all flatV = true ∧ k = inV x xs) ∨
    ∃ d ds, Dp X.K H x d ∧ Dp X.K H y (.list ds) ∧ SeqAt.shaped d = true ∧ SeqAt.shaped (.list ds) = true ∧ k = ds.any fun z => PyData.eqv z d := by
  unfold dIn0 at hg
  split at hg
  · cases hg
    exact .inl ⟨_, _, hx.2, hy.2, rfl⟩
  · split at hg
    · rename_i r e1
      cases hg
      obtain ⟨a, r', h1, h2, h3⟩ := hy.dget hx e1
      refine .inr (.inl ⟨a, r', h1, h2, ?_⟩)
      cases r with
      | none => rw [show r' = none from h3]; rfl
      | some d => obtain ⟨x', f, e2, _⟩ := h3; rw [e2]; rfl
    · split at hg
      · rename_i ds e1
        split at hg
        · rename_i hf
          cases hg
          obtain ⟨a, xs, f, h1, h2, _, h4, _⟩ := hy.seq e1
          have ex := h2.fvs hf.2
          subst ex
          refine .inr (.inr (.inl ⟨a, _, h1, h4, ?_, all_fv hf.2, ?_⟩))
          · rw [hx.fv hf.1]; exact flat_fv hf.1
          · rw [hx.fv hf.1]
        · split at hg
          · cases hg
          · rename_i hnt
            split at hg
            · rename_i hs
              cases hg
              refine .inr (.inr (.inr ⟨_, _, RO.dp _ _ _ hx hs.1, ?_, hs.2.2.1, hs.2.2.2, rfl⟩))
              obtain ⟨a, xs, f, h1, h2, _, _, _, h6⟩ := hy.seq e1
              rw [h1]
              exact .lst (h6 fun o z => hnt o z) (ROs.dp ds xs f h2 hs.2.1)
            · cases hg
      · cases hg
theorem o_in (hu : X.A.units + 65 < cLine) : O2 true X (compareOp .In) dIn := by
  refine ⟨_, op_in_str.or ((op_inDc (by omega)).or (op_in_seq.or (op_inD hu))), fun H x y dx dy d fx fy hx hy hg Q q => ?_⟩
  obtain ⟨k, e1, e2⟩ := Option.map_eq_some_iff.mp hg
  subst e2
  rcases in_core hx hy e1 with ⟨i, j, h1, h2, h3⟩ | ⟨a, o, h1, h2, h3⟩ | ⟨p, xs, h1, h2, h4, h5, h3⟩ | ⟨d, ds, h1, h2, h4, h5, h3⟩
  · exact .inl ⟨i, j, h1, h2, by rw [← h3]; exact q.bl⟩
  · exact .inr (.inl ⟨a, o, h1, h2, by rw [if_neg Bool.false_ne_true, ← h3]; exact q.bl⟩)
  · exact .inr (.inr (.inl ⟨p, xs, h1, h2, h4, h5, by rw [if_neg Bool.false_ne_true, ← h3]; exact q.bl⟩))
  · exact .inr (.inr (.inr ⟨d, ds, h1, h2, h4, h5, by rw [← h3]; exact q.bl⟩))
theorem o_notin (hu : X.A.units + 65 < cLine) : O2 true X (compareOp .NotIn) dNotIn := by
  refine ⟨_, op_notin_str.or ((op_notInDc (by omega)).or (op_notIn_seq.or (op_notInD hu))), fun H x y dx dy d fx fy hx hy hg Q q => ?_⟩
  obtain ⟨k, e1, e2⟩ := Option.map_eq_some_iff.mp hg
  subst e2
  rcases in_core hx hy e1 with ⟨i, j, h1, h2, h3⟩ | ⟨a, o, h1, h2, h3⟩ | ⟨p, xs, h1, h2, h4, h5, h3⟩ | ⟨d, ds, h1, h2, h4, h5, h3⟩
  · exact .inl ⟨i, j, h1, h2, by rw [← h3]; exact q.bl⟩
  · exact .inr (.inl ⟨a, o, h1, h2, by rw [if_pos rfl, ← h3]; exact q.bl⟩)
  · exact .inr (.inr (.inl ⟨p, xs, h1, h2, h4, h5, by rw [if_pos rfl, ← h3]; exact q.bl⟩))
  · exact .inr (.inr (.inr ⟨d, ds, h1, h2, h4, h5, by rw [← h3]; exact q.bl⟩))
end

/-! ### slices -/
def cutD (ds : List D) (lo hi : Option Int) : List D := (ds.drop (HT.sIx ds.length 0 lo)).take (HT.sIx ds.length ds.length hi - HT.sIx ds.length 0 lo)
def dSl (a : D) (lo hi : Option Int) : Option D :=
  match a with
  | .str s => if s.length ≤ szL then some (.str (cutS s lo hi)) else none
  | .tup ds => some (.tup (cutD ds lo hi))
  | .lst _ ds => if ds.all isImm = true then some (.lst false (cutD ds lo hi)) else none
  | .scr ds => some (.lst false (cutD ds lo hi))
  | _ => none
theorem RIs.cut {K : PySem.W.Frag} {H : Hp} {ds : List D} {xs : List V} (h : RIs K H ds xs) (lo hi : Option Int) : RIs K H (cutD ds lo hi) (cutV xs lo hi) := by
  unfold cutD cutV
  rw [h.length]
  exact (h.drop _).take _
section
variable {X : Cx}
theorem o_sl : ∃ r, SlR X r ∧ ∀ (H : Hp) (x : V) (dx d : D) (fx : List Addr) (lo hi : Option Int), RO X.K H dx x fx → dSl dx lo hi = some d → ∀ Q : VK, Res true X.K H d Q → r x lo hi H Q := by
  refine ⟨_, sl_str.or (sl_tupA.or sl_list), fun H x dx d fx lo hi hx hg Q q => ?_⟩
  unfold dSl at hg
  split at hg
  · split at hg
    · rename_i hz
      cases hg
      exact .inl ⟨_, hx.2, by rw [szL_eq]; exact hz, q.str⟩
    · cases hg
  · rename_i ds
    cases hg
    obtain ⟨_, a, xs, h1, h2, h3⟩ := hx
    refine .inr (.inl ⟨a, xs, h1, SqT.of h2, fun hw => ?_, fun _ p hp => q.tup (h3.cut lo hi) hp⟩)
    refine q.imm ?_
    have e : cutD ds lo hi = ds := by
      unfold cutD
      rw [← h3.length, hw.1, hw.2, Nat.sub_zero, List.drop_zero, h3.length, List.take_length]
    rw [e]
    exact ⟨a, xs, rfl, h2, h3⟩
  · split at hg
    · rename_i hz
      cases hg
      obtain ⟨a, xs, f, h1, h2, h3⟩ := hx.rdl
      exact .inr (.inr ⟨a, xs, h1, .inl h2, fun p hp => q.lst ((h3.ris hz).cut lo hi) hp⟩)
    · cases hg
  · cases hg
    obtain ⟨_, a, xs, h1, h2, h3⟩ := hx
    exact .inr (.inr ⟨a, xs, h1, h2.sq, fun p hp => q.lst (h3.cut lo hi) hp⟩)
  · cases hg
/-- a slice's part -/
def DPO (X : Cx) (e : Option Expr) (f : Env → Option (Option Int)) : Prop := ∃ t : TO, PO X e t ∧ ∀ (σ : L2.St) (H : Hp) (env : Env) (fp : List Addr) (o : Option Int), SR X.K H env σ fp → fp.Nodup → f env = some o → ∀ Q : Option Int → Hp → Prop, (∀ H', Same H H' → Q o H') → t σ H Q
def DEO (X : Cx) (e : Option Expr) (f : Env → Option (Option Int × Env)) : Prop := ∃ t : TO, PO X e t ∧ ∀ (σ : L2.St) (H : Hp) (env env' : Env) (fp : List Addr) (o : Option Int), SR X.K H env σ fp → fp.Nodup → f env = some (o, env') → ∀ Q : Option Int → Hp → Prop,
  (∀ H' fp', Evo fp H fp' H' → SR X.K H' env' σ fp' → fp'.Nodup → Q o H') → t σ H Q
def oNo : Env → Option (Option Int) := fun _ => some none
def oSome (f : PSm) : Env → Option (Option Int) := fun env => match f env with | some (.int i) => some (some i) | _ => none
def oNoE : Env → Option (Option Int × Env) := fun env => some (none, env)
def oSomeE (f : ESm) : Env → Option (Option Int × Env) := fun env => match f env with | some (.int i, env') => some (some i, env') | _ => none
theorem dpo_none : DPO X none oNo := ⟨_, po_none, fun σ H env fp o s nd hf Q q => by cases hf; exact q H (Same.refl H)⟩
theorem deo_none : DEO X none oNoE := ⟨_, po_none, fun σ H env env' fp o s nd hf Q q => by cases hf; exact q H fp (Evo.refl fp H) s nd⟩
theorem dpo_some {e : Expr} {f : PSm} (h : DB false X e f) : DPO X (some e) (oSome f) := by
  obtain ⟨t, p, h⟩ := h
  refine ⟨_, po_some p, fun σ H env fp o s nd hf Q q => ?_⟩
  unfold oSome at hf
  split at hf
  · rename_i i e1
    cases hf
    exact h σ H env fp _ s nd e1 _ fun v H' fr sm r _ => ⟨i, r.2, q H' sm⟩
  · cases hf
theorem deo_some {e : Expr} {f : ESm} (h : DE X e f) : DEO X (some e) (oSomeE f) := by
  obtain ⟨t, p, h⟩ := h
  refine ⟨_, po_some p, fun σ H env env' fp o s nd hf Q q => ?_⟩
  unfold oSomeE at hf
  split at hf
  · rename_i i ee e1
    cases hf
    refine h σ H env _ fp _ s nd e1 _ fun v H' fr fp' ev s' r n => ⟨i, r.2, ?_⟩
    exact q H' fp' (ev.sub fun a m => List.mem_append_right _ m) s' (List.nodup_append.mp n).2.1
  · cases hf
variable {e : Expr} {lo hi : Option Expr} {pos p2 : Pos}
def pSl (f : PSm) (l h : Env → Option (Option Int)) : PSm := fun env => (f env).bind fun d => (l env).bind fun i => (h env).bind fun j => dSl d i j
def eSl (f : ESm) (l h : Env → Option (Option Int × Env)) : ESm := fun env => (f env).bind fun d => (l d.2).bind fun i => (h i.2).bind fun j => (dSl d.1 i.1 j.1).map fun r => (r, j.2)
theorem db_sl {f : PSm} {l h : Env → Option (Option Int)} (he : DB false X e f) (hl : DPO X lo l) (hh : DPO X hi h) : DB true X (.Subscript e (.Slice lo hi none p2) pos) (pSl f l h) := by
  obtain ⟨r, hr, ho⟩ := o_sl (X := X)
  obtain ⟨te, pe, he⟩ := he
  obtain ⟨tl, pl, hl⟩ := hl
  obtain ⟨th, ph, hh⟩ := hh
  refine ⟨_, pe_slice hr pe pl ph, fun σ H env fp d s nd hf Q q => ?_⟩
  obtain ⟨x, e1, hf⟩ := Option.bind_eq_some_iff.mp hf
  obtain ⟨i, e2, hf⟩ := Option.bind_eq_some_iff.mp hf
  obtain ⟨j, e3, hf⟩ := Option.bind_eq_some_iff.mp hf
  refine he σ H env fp x s nd e1 _ fun vx H1 fx s1 rx _ => ?_
  refine hl σ H1 env fp i (s.same s1) nd e2 _ fun H2 s2 => ?_
  refine hh σ H2 env fp j ((s.same s1).same s2) nd e3 _ fun H3 s3 => ?_
  exact ho H3 vx x d fx i j ((rx.same s2).same s3) hf Q (((q.via s1).via s2).via s3)
theorem de_sl {f : ESm} {l h : Env → Option (Option Int × Env)} (he : DE X e f) (hl : DEO X lo l) (hh : DEO X hi h) : DE X (.Subscript e (.Slice lo hi none p2) pos) (eSl f l h) := by
  obtain ⟨r, hr, ho⟩ := o_sl (X := X)
  obtain ⟨te, pe, he⟩ := he
  obtain ⟨tl, pl, hl⟩ := hl
  obtain ⟨th, ph, hh⟩ := hh
  refine ⟨_, pe_slice hr pe pl ph, fun σ H env env' fp d s nd hf Q q => ?_⟩
  obtain ⟨⟨x, en1⟩, e1, hf⟩ := Option.bind_eq_some_iff.mp hf
  obtain ⟨⟨i, en2⟩, e2, hf⟩ := Option.bind_eq_some_iff.mp hf
  obtain ⟨⟨j, en3⟩, e3, hf⟩ := Option.bind_eq_some_iff.mp hf
  obtain ⟨d', e4, e5⟩ := Option.map_eq_some_iff.mp hf
  cases e5
  refine he σ H env en1 fp x s nd e1 _ fun vx H1 fx fp1 v1 s1 rx n1 => ?_
  refine hl σ H1 en1 en2 fp1 i s1 (List.nodup_append.mp n1).2.1 e2 _ fun H2 fp2 v2 s2 n2 => ?_
  obtain ⟨rx2, v12, n12⟩ := two (env := env) (σ := σ) v1 rx n1 (fr2 := []) v2 n2
  rw [List.append_nil] at v12 n12
  refine hh σ H2 en2 _ fp2 j s2 n2 e3 _ fun H3 fp3 v3 s3 n3 => ?_
  obtain ⟨rx3, v13, n13⟩ := two (env := env) (σ := σ) v12 rx2 n12 (fr2 := []) v3 n3
  rw [List.append_nil] at v13 n13
  exact ho H3 vx x _ fx i j rx3 e4 Q fun v H' fr sm r fo => let_go q v13 s3 n3 sm r (fo rfl)
end

/-! ### truth -/
def tru : D → Option Bool
  | .non => some false
  | .bl b => some b
  | .int i => some (i != 0)
  | .str s => if s.length ≤ szL then some ((s.length : Int) != 0) else none
  | .tup ds => some (!ds.isEmpty)
  | .lst _ ds => some (!ds.isEmpty)
  | .scr ds => some (!ds.isEmpty)
  | .dcK false ks _ => some (!ks.isEmpty)
  | _ => none
theorem empty_of {α β : Type} {a : List α} {b : List β} (h : a.length = b.length) : a.isEmpty = b.isEmpty := by
  cases a <;> cases b <;> first | rfl | cases h
theorem tru_of {K : PySem.W.Frag} {H : Hp} {d : D} {v : V} {fp : List Addr} {b : Bool} (h : RO K H d v fp) (e : tru d = some b) : TruV K v H b := by
  unfold tru at e
  split at e
  · cases e; rw [h.2]; exact rfl
  · cases e; rw [h.2]; exact rfl
  · cases e; rw [h.2]; exact rfl
  · split at e
    · rename_i hz
      cases e; rw [h.2]; exact ⟨by rw [szL_eq]; exact hz, rfl⟩
    · cases e
  · cases e
    obtain ⟨_, a, xs, h1, h2, h3⟩ := h
    rw [h1]; exact .inr (.inl ⟨xs, SqT.of h2, by rw [empty_of h3.length]⟩)
  · cases e
    obtain ⟨a, xs, f, h1, h2, h3⟩ := h.rdl
    rw [h1]; exact .inl ⟨xs, .inl h2, by rw [empty_of h3.length]⟩
  · cases e
    obtain ⟨_, a, xs, h1, h2, h3⟩ := h
    rw [h1]; exact .inl ⟨xs, h2.sq, by rw [empty_of h3.length]⟩
  · rename_i ks ds
    cases e
    rcases h with ⟨z, _⟩ | ⟨_, a, xs, f, h1, _, h2, h4, h3⟩
    · cases z
    · rw [h1]
      refine .inr (.inr ⟨_, h2, ?_⟩)
      rw [empty_of (a := ks.zip xs) (b := ks) (by rw [List.length_zip, ← h4, Nat.min_self])]
  · cases e
section
variable {X : Cx} {a b c e : Expr} {rest : List Expr} {pos : Pos}
def tTru (f : ESm) : TSm := fun env => (f env).bind fun d => (tru d.1).map fun b => (b, d.2)
theorem dt_tru {f : ESm} (h : DE X e f) (he : ∀ whole, isTrue e X.env whole = (do let v ← whole; standAt e.pos; holding [v] (truthy v)) := by intro _; rfl) : DT X e (tTru f) := by
  obtain ⟨t, p, h⟩ := h
  refine ⟨_, pt_truth p he, fun σ H env env' fp b s nd hf Q q => ?_⟩
  obtain ⟨⟨d, en1⟩, e1, hf⟩ := Option.bind_eq_some_iff.mp hf
  obtain ⟨k, e2, e3⟩ := Option.map_eq_some_iff.mp hf
  cases e3
  refine h σ H env _ fp d s nd e1 _ fun v H' fr fp' ev s' r n => ⟨_, tru_of r e2, ?_⟩
  exact q H' fp' (ev.sub fun a m => List.mem_append_right _ m) s' (List.nodup_append.mp n).2.1
/-- of a name that is our own list, without taking it -/
def tTruP (f : PSm) : TPm := fun env => (f env).bind tru
theorem dtp_tru {f : PSm} (h : DB false X e f) (he : ∀ whole, isTrue e X.env whole = (do let v ← whole; standAt e.pos; holding [v] (truthy v)) := by intro _; rfl) : DTP X e (tTruP f) := by
  obtain ⟨t, p, h⟩ := h
  refine ⟨_, pt_truth p he, fun σ H env fp b s nd hf Q q => ?_⟩
  obtain ⟨d, e1, e2⟩ := Option.bind_eq_some_iff.mp hf
  exact h σ H env fp d s nd e1 _ fun v H' fr sm r _ => ⟨_, tru_of r e2, q H' sm⟩
def tNo (f : TSm) : TSm := fun env => (f env).map fun b => (!b.1, b.2)
theorem dt_not {f : TSm} (h : DT X a f) : DT X (.UnaryOp .Not a pos) (tNo f) := by
  obtain ⟨t, p, h⟩ := h
  refine ⟨_, pt_not p, fun σ H env env' fp b s nd hf Q q => ?_⟩
  obtain ⟨⟨k, en⟩, e1, e2⟩ := Option.map_eq_some_iff.mp hf
  cases e2
  exact h σ H env _ fp k s nd e1 _ fun H' fp' ev s' n => q H' fp' ev s' n
/-- a chain of and, of or -/
def DW (X : Cx) (e : Expr) (f : TSm) : Prop := ∃ t : TT, PW X e t ∧ ∀ (σ : L2.St) (H : Hp) (env env' : Env) (fp : List Addr) (b : Bool), SR X.K H env σ fp → fp.Nodup → f env = some (b, env') → ∀ Q : Bool → Hp → Prop, TQ X.K σ H fp b env' Q → t σ H Q
theorem dt_w {f : TSm} (h : DW X e f) : DT X e f := by
  obtain ⟨t, p, h⟩ := h
  exact ⟨t, p.pt, h⟩
theorem dw_and1 {f : TSm} (h : DT X a f) : DW X (.BoolOp .And [a] pos) f := by
  obtain ⟨t, p, h⟩ := h
  exact ⟨t, pw_and1 p, h⟩
theorem dw_or1 {f : TSm} (h : DT X a f) : DW X (.BoolOp .Or [a] pos) f := by
  obtain ⟨t, p, h⟩ := h
  exact ⟨t, pw_or1 p, h⟩
def tAnd2 (f g : TSm) : TSm := fun env => (f env).bind fun b => if b.1 = true then g b.2 else some (false, b.2)
def tOr2 (f g : TSm) : TSm := fun env => (f env).bind fun b => if b.1 = true then some (true, b.2) else g b.2
theorem dw_and {f g : TSm} (h : DT X a f) (h' : DW X (.BoolOp .And (b :: rest) pos) g) : DW X (.BoolOp .And (a :: b :: rest) pos) (tAnd2 f g) := by
  obtain ⟨t, p, h⟩ := h
  obtain ⟨t', p', h'⟩ := h'
  refine ⟨_, pw_and p p', fun σ H env env' fp k s nd hf Q q => ?_⟩
  obtain ⟨⟨k1, en⟩, e1, e2⟩ := Option.bind_eq_some_iff.mp hf
  refine h σ H env en fp k1 s nd e1 _ fun H' fp' ev s' n => ?_
  cases k1 with
  | true =>
    rw [if_pos rfl] at e2 ⊢
    exact h' σ H' en env' fp' k s' n e2 Q fun H2 fp2 ev2 s2 n2 => q H2 fp2 (ev.trans ev2) s2 n2
  | false =>
    rw [if_neg Bool.false_ne_true] at e2 ⊢
    cases e2
    exact q H' fp' ev s' n
theorem dw_or {f g : TSm} (h : DT X a f) (h' : DW X (.BoolOp .Or (b :: rest) pos) g) : DW X (.BoolOp .Or (a :: b :: rest) pos) (tOr2 f g) := by
  obtain ⟨t, p, h⟩ := h
  obtain ⟨t', p', h'⟩ := h'
  refine ⟨_, pw_or p p', fun σ H env env' fp k s nd hf Q q => ?_⟩
  obtain ⟨⟨k1, en⟩, e1, e2⟩ := Option.bind_eq_some_iff.mp hf
  refine h σ H env en fp k1 s nd e1 _ fun H' fp' ev s' n => ?_
  cases k1 with
  | false =>
    rw [if_neg Bool.false_ne_true] at e2 ⊢
    exact h' σ H' en env' fp' k s' n e2 Q fun H2 fp2 ev2 s2 n2 => q H2 fp2 (ev.trans ev2) s2 n2
  | true =>
    rw [if_pos rfl] at e2 ⊢
    cases e2
    exact q H' fp' ev s' n
/-- .. as values, by truth -/
def eAnd2 (f g : ESm) : ESm := fun env => (f env).bind fun d => (tru d.1).bind fun b => if b = true then g d.2 else some d
def eOr2 (f g : ESm) : ESm := fun env => (f env).bind fun d => (tru d.1).bind fun b => if b = true then some d else g d.2
theorem de_one {op : BoolOp} {f : ESm} (h : DE X a f) : DE X (.BoolOp op [a] pos) f := by
  obtain ⟨t, p, h⟩ := h
  exact ⟨t, pe_one p, h⟩
theorem EQ.drop {K : PySem.W.Frag} {σ : L2.St} {H H1 : Hp} {fp fr fp1 : List Addr} {d : D} {env' : Env} {Q : VK} (q : EQ K σ H fp d env' Q) (e : Evo fp H (fr ++ fp1) H1) : EQ K σ H1 fp1 d env' Q := q.via (e.sub fun a m => List.mem_append_right _ m)
theorem de_and {f g : ESm} (h : DE X a f) (h' : DE X (.BoolOp .And (b :: rest) pos) g) : DE X (.BoolOp .And (a :: b :: rest) pos) (eAnd2 f g) := by
  obtain ⟨t, p, h⟩ := h
  obtain ⟨t', p', h'⟩ := h'
  refine ⟨_, pe_andT p p', fun σ H env env' fp d s nd hf Q q => ?_⟩
  obtain ⟨⟨d1, en⟩, e1, hf⟩ := Option.bind_eq_some_iff.mp hf
  obtain ⟨k, e2, hf⟩ := Option.bind_eq_some_iff.mp hf
  refine h σ H env en fp d1 s nd e1 _ fun v H' fr fp' ev s' r n => ⟨k, tru_of r e2, ?_⟩
  cases k with
  | true =>
    rw [if_pos rfl] at hf ⊢
    exact h' σ H' en env' fp' d s' (List.nodup_append.mp n).2.1 hf Q (q.drop ev)
  | false =>
    rw [if_neg Bool.false_ne_true] at hf ⊢
    cases hf
    exact q v H' fr fp' ev s' r n
theorem de_or {f g : ESm} (h : DE X a f) (h' : DE X (.BoolOp .Or (b :: rest) pos) g) : DE X (.BoolOp .Or (a :: b :: rest) pos) (eOr2 f g) := by
  obtain ⟨t, p, h⟩ := h
  obtain ⟨t', p', h'⟩ := h'
  refine ⟨_, pe_orT p p', fun σ H env env' fp d s nd hf Q q => ?_⟩
  obtain ⟨⟨d1, en⟩, e1, hf⟩ := Option.bind_eq_some_iff.mp hf
  obtain ⟨k, e2, hf⟩ := Option.bind_eq_some_iff.mp hf
  refine h σ H env en fp d1 s nd e1 _ fun v H' fr fp' ev s' r n => ⟨k, tru_of r e2, ?_⟩
  cases k with
  | false =>
    rw [if_neg Bool.false_ne_true] at hf ⊢
    exact h' σ H' en env' fp' d s' (List.nodup_append.mp n).2.1 hf Q (q.drop ev)
  | true =>
    rw [if_pos rfl] at hf ⊢
    cases hf
    exact q v H' fr fp' ev s' r n
def eNot (f : ESm) : ESm := fun env => (f env).bind fun d => (tru d.1).map fun b => (.bl (!b), d.2)
theorem de_not {f : ESm} (h : DE X a f) : DE X (.UnaryOp .Not a pos) (eNot f) := by
  obtain ⟨t, p, h⟩ := h
  refine ⟨_, pe_notT p, fun σ H env env' fp d s nd hf Q q => ?_⟩
  obtain ⟨⟨d1, en⟩, e1, hf⟩ := Option.bind_eq_some_iff.mp hf
  obtain ⟨k, e2, e3⟩ := Option.map_eq_some_iff.mp hf
  cases e3
  refine h σ H env _ fp d1 s nd e1 _ fun v H' fr fp' ev s' r n => ⟨k, tru_of r e2, ?_⟩
  exact q _ H' [] fp' (ev.sub fun a m => List.mem_append_right _ m) s' ⟨rfl, rfl⟩ (List.nodup_append.mp n).2.1
def eIf (c : TSm) (f g : ESm) : ESm := fun env => (c env).bind fun b => if b.1 = true then f b.2 else g b.2
theorem de_if {t0 : TSm} {f g : ESm} (hc : DT X c t0) (ha : DE X a f) (hb : DE X b g) : DE X (.IfExp c a b pos) (eIf t0 f g) := by
  obtain ⟨t, p, h⟩ := hc
  obtain ⟨ta, pa, ha⟩ := ha
  obtain ⟨tb, pb, hb⟩ := hb
  refine ⟨_, pe_ifExp p pa pb, fun σ H env env' fp d s nd hf Q q => ?_⟩
  obtain ⟨⟨k, en⟩, e1, hf⟩ := Option.bind_eq_some_iff.mp hf
  refine h σ H env en fp k s nd e1 _ fun H' fp' ev s' n => ?_
  cases k with
  | true =>
    rw [if_pos rfl] at hf ⊢
    exact ha σ H' en env' fp' d s' n hf Q (q.via ev)
  | false =>
    rw [if_neg Bool.false_ne_true] at hf ⊢
    exact hb σ H' en env' fp' d s' n hf Q (q.via ev)
/-- -x -/
def dNeg : D → Option D
  | .int i => some (.int (-i))
  | _ => none
def p1 (g : D → Option D) (f : PSm) : PSm := fun env => (f env).bind g
def e1 (g : D → Option D) (f : ESm) : ESm := fun env => (f env).bind fun d => (g d.1).map fun r => (r, d.2)
theorem db_neg {f : PSm} (h : DB false X a f) : DB true X (.UnaryOp .USub a pos) (p1 dNeg f) := by
  obtain ⟨t, p, h⟩ := h
  refine ⟨_, pe_un un_neg p, fun σ H env fp d s nd hf Q q => ?_⟩
  obtain ⟨x, e1, hf⟩ := Option.bind_eq_some_iff.mp hf
  cases x with
  | int i =>
    cases hf
    exact h σ H env fp _ s nd e1 _ fun v H' fr sm r _ => ⟨i, (show fr = [] ∧ v = .int i from r).2, (q.via sm).int⟩
  | _ => cases hf
theorem de_neg {f : ESm} (h : DE X a f) : DE X (.UnaryOp .USub a pos) (e1 dNeg f) := by
  obtain ⟨t, p, h⟩ := h
  refine ⟨_, pe_un un_neg p, fun σ H env env' fp d s nd hf Q q => ?_⟩
  obtain ⟨⟨x, en⟩, e1, hf⟩ := Option.bind_eq_some_iff.mp hf
  obtain ⟨d', e2, e3⟩ := Option.map_eq_some_iff.mp hf
  cases e3
  cases x with
  | int i =>
    cases e2
    refine h σ H env _ fp _ s nd e1 _ fun v H' fr fp' ev s' r n => ⟨i, (show fr = [] ∧ v = .int i from r).2, ?_⟩
    exact q _ H' [] fp' (ev.sub fun a m => List.mem_append_right _ m) s' ⟨rfl, rfl⟩ (List.nodup_append.mp n).2.1
  | _ => cases e2
end
end DL

set_option maxHeartbeats 1000000
/-! DL, part e: argument lists, displays, built-in calls, isinstance, freezing -/
namespace DL
open PySem L2

/-! ### argument lists -/
section
variable {own : Bool} {X : Cx} {e : Expr} {es : List Expr} {pos : Pos}
def aNil : APm := fun _ => some []
def aCons (f : PSm) (g : APm) : APm := fun env => (f env).bind fun d => (g env).map fun ds => d :: ds
def aNilE : ASm := fun env => some ([], env)
def aConsE (f : ESm) (g : ASm) : ASm := fun env => (f env).bind fun d => (g d.2).map fun ds => (d.1 :: ds.1, ds.2)
theorem dap_nil : DAP false X [] aNil := ⟨_, pa_nil, fun σ H env fp ds s nd hf Q q => by cases hf; exact q [] H [] (Same.refl H) ⟨rfl, rfl⟩ fun z => (nomatch z)⟩
theorem dap_cons {f : PSm} {g : APm} (h : DB false X e f) (h' : DAP false X es g) (hs : starEach (e :: es) X.env = (false, eval e X.env) :: starEach es X.env := by rfl) : DAP false X (e :: es) (aCons f g) := by
  obtain ⟨t, p, h⟩ := h
  obtain ⟨t', p', h'⟩ := h'
  refine ⟨_, pa_cons p p' hs, fun σ H env fp ds s nd hf Q q => ?_⟩
  obtain ⟨d, e1, hf⟩ := Option.bind_eq_some_iff.mp hf
  obtain ⟨dr, e2, e3⟩ := Option.map_eq_some_iff.mp hf
  subst e3
  refine h σ H env fp d s nd e1 _ fun v H1 fr s1 r _ => ?_
  refine h' σ H1 env fp dr (s.same s1) nd e2 _ fun vs H2 fr2 s2 rs _ => ?_
  exact q (v :: vs) H2 (fr ++ fr2) (s1.trans s2) ⟨v, vs, fr, fr2, rfl, rfl, r.same s2, rs⟩ fun z => (nomatch z)
theorem da_nil : DA X [] aNilE := ⟨_, pa_nil, fun σ H env env' fp ds s nd hf Q q => by cases hf; exact q [] H [] fp (Evo.refl fp H) s ⟨rfl, rfl⟩ nd⟩
theorem da_cons {f : ESm} {g : ASm} (h : DE X e f) (h' : DA X es g) (hs : starEach (e :: es) X.env = (false, eval e X.env) :: starEach es X.env := by rfl) : DA X (e :: es) (aConsE f g) := by
  obtain ⟨t, p, h⟩ := h
  obtain ⟨t', p', h'⟩ := h'
  refine ⟨_, pa_cons p p' hs, fun σ H env env' fp ds s nd hf Q q => ?_⟩
  obtain ⟨⟨d, en⟩, e1, hf⟩ := Option.bind_eq_some_iff.mp hf
  obtain ⟨⟨dr, en2⟩, e2, e3⟩ := Option.map_eq_some_iff.mp hf
  cases e3
  refine h σ H env en fp d s nd e1 _ fun v H1 fr fp1 v1 s1 r n1 => ?_
  refine h' σ H1 en _ fp1 dr s1 (List.nodup_append.mp n1).2.1 e2 _ fun vs H2 fr2 fp2 v2 s2 rs n2 => ?_
  obtain ⟨r2, v12, n12⟩ := two (env := env) (σ := σ) v1 r n1 v2 n2
  exact q (v :: vs) H2 (fr ++ fr2) fp2 v12 s2 ⟨v, vs, fr, fr2, rfl, rfl, r2, rs⟩ n12

/-! ### displays -/
def pTup (f : APm) : PSm := fun env => (f env).bind fun ds => if ds.all isImm = true ∧ ds.length ≤ szL then some (.tup ds) else none
def eTup (f : ASm) : ESm := fun env => (f env).bind fun ds => if ds.1.all isImm = true ∧ ds.1.length ≤ szL then some (.tup ds.1, ds.2) else none
def eLst (f : ASm) : ESm := fun env => (f env).bind fun ds => if ds.1.length ≤ szL then some (.lst false ds.1, ds.2) else none
theorem db_tup {k} {f : APm} (h : DAP false X es f) : DB true X (.Tuple es k pos) (pTup f) := by
  obtain ⟨t, p, h⟩ := h
  refine ⟨_, pe_tup p, fun σ H env fp d s nd hf Q q => ?_⟩
  obtain ⟨ds, e1, hf⟩ := Option.bind_eq_some_iff.mp hf
  split at hf
  case isFalse => cases hf
  rename_i hi
  cases hf
  refine h σ H env fp ds s nd e1 _ fun vs H1 fr s1 rs _ => ⟨by rw [szL_eq, rs.length]; exact hi.2, fun pp hp => ?_⟩
  exact (q.via s1).tup (rs.ris hi.1) hp
theorem de_tup {k} {f : ASm} (h : DA X es f) : DE X (.Tuple es k pos) (eTup f) := by
  obtain ⟨t, p, h⟩ := h
  refine ⟨_, pe_tup p, fun σ H env env' fp d s nd hf Q q => ?_⟩
  obtain ⟨⟨ds, en⟩, e1, hf⟩ := Option.bind_eq_some_iff.mp hf
  split at hf
  case isFalse => cases hf
  rename_i hi
  cases hf
  refine h σ H env _ fp ds s nd e1 _ fun vs H1 fr fp1 v1 s1 rs n1 => ⟨by rw [szL_eq, rs.length]; exact hi.2, fun pp hp => ?_⟩
  have q' : Res true X.K H1 (.tup ds) Q := fun v H' fr' sm r fo => let_go q v1 s1 (List.nodup_append.mp n1).2.1 sm r (fo rfl)
  exact q'.tup (rs.ris hi.1) hp
theorem upd_same_ne {H : Hp} {p : Addr} {o : HO} (hp : H p = none) : Same H (upd H p o) := same_new hp
theorem de_lst {f : ASm} (h : DA X es f) : DE X (.List es pos) (eLst f) := by
  obtain ⟨t, p, h⟩ := h
  refine ⟨_, pe_lst p, fun σ H env env' fp d s nd hf Q q => ?_⟩
  obtain ⟨⟨ds, en⟩, e1, hf⟩ := Option.bind_eq_some_iff.mp hf
  split at hf
  case isFalse => cases hf
  rename_i hi
  cases hf
  refine h σ H env _ fp ds s nd e1 _ fun vs H1 fr fp1 v1 s1 rs n1 => ⟨by rw [szL_eq, rs.length]; exact hi, fun pp hp => ?_⟩
  have sm : Same H1 (upd H1 pp (.lst vs)) := same_new hp
  refine q (.ref pp) _ (pp :: fr) fp1 ⟨fun a o ha hn => sm a o (v1.keep a o ha hn), fun a m => ?_, v1.imm.trans (.of_same sm)⟩ (s1.same sm) (.inr ⟨rfl, pp, vs, fr, rfl, rfl, upd_same, rs.same sm⟩) ?_
  · rcases List.mem_cons.mp m with rfl | m
    · by_cases hm : a ∈ fp
      · exact .inl hm
      · refine .inr ?_
        cases z : H a with
        | none => rfl
        | some o => rw [v1.keep a o z hm] at hp; cases hp
    · exact v1.own a m
  · refine List.nodup_cons.mpr ⟨fun m => ?_, n1⟩
    rcases List.mem_append.mp m with m | m
    · obtain ⟨o, z, _⟩ := ROs.live ds vs fr rs pp m
      rw [hp] at z; cases z
    · obtain ⟨o, z, _⟩ := s1.live pp m
      rw [hp] at z; cases z
end

/-! ### calls of built-ins -/
section
variable {own : Bool} {X : Cx} {x : Str} {p pos : Pos} {e : Expr} {es : List Expr} {id T : String} {g : List D → Option D}
def pCall (g : List D → Option D) (f : APm) : PSm := fun env => (f env).bind g
def eCall (g : List D → Option D) (f : ASm) : ESm := fun env => (f env).bind fun ds => (g ds.1).map fun d => (d, ds.2)
theorem db_app {c : Expr} {v : Value} {f : APm} (ho : OC own X v g) (ha : DAP false X es f) (mk : ∀ r t, CallR X v r → PA X es t → PE X c (tCB r t)) : DB own X c (pCall g f) := by
  obtain ⟨r, hr, ho⟩ := ho
  obtain ⟨t, pa, h⟩ := ha
  refine ⟨_, mk r t hr pa, fun σ H env fp d s nd hf Q q => ?_⟩
  obtain ⟨ds, e1, e2⟩ := Option.bind_eq_some_iff.mp hf
  exact h σ H env fp ds s nd e1 _ fun vs H1 fr s1 rs _ => ho H1 vs ds fr d rs e2 Q (q.via s1)
theorem de_app {c : Expr} {v : Value} {f : ASm} (ho : OC true X v g) (ha : DA X es f) (mk : ∀ r t, CallR X v r → PA X es t → PE X c (tCB r t)) : DE X c (eCall g f) := by
  obtain ⟨r, hr, ho⟩ := ho
  obtain ⟨t, pa, h⟩ := ha
  refine ⟨_, mk r t hr pa, fun σ H env env' fp d s nd hf Q q => ?_⟩
  obtain ⟨⟨ds, en⟩, e1, hf⟩ := Option.bind_eq_some_iff.mp hf
  obtain ⟨d', e2, e3⟩ := Option.map_eq_some_iff.mp hf
  cases e3
  exact h σ H env _ fp ds s nd e1 _ fun vs H1 fr fp1 v1 s1 rs n1 => ho H1 vs ds fr _ rs e2 Q fun v H' fr' sm r fo => let_go q v1 s1 (List.nodup_append.mp n1).2.1 sm r (fo rfl)
theorem db_callB {f : APm} (ho : OC own X (.builtin id) g) (hg : Gl X x) (hm : X.mg x = none) (hv : bootBuiltins x = some (.builtin id)) (ha : DAP false X (e :: es) f) (hn : x ≠ "__name__" := by decide) (hdb : (x == ("__debug__" : Str)) = false := by decide)
    (he : starEach (e :: es) X.env = (false, eval e X.env) :: starEach es X.env := by rfl) (hpl : (backTo pos (starEach es X.env)).any (·.1) = false := by rfl) : DB own X (.Call (.Name x p) (e :: es) [] pos) (pCall g f) :=
  db_app ho ha fun _ _ h1 h2 => pe_callB h1 hg hm hv h2 hn hdb he hpl
theorem de_callB {f : ASm} (ho : OC true X (.builtin id) g) (hg : Gl X x) (hm : X.mg x = none) (hv : bootBuiltins x = some (.builtin id)) (ha : DA X (e :: es) f) (hn : x ≠ "__name__" := by decide) (hdb : (x == ("__debug__" : Str)) = false := by decide)
    (he : starEach (e :: es) X.env = (false, eval e X.env) :: starEach es X.env := by rfl) (hpl : (backTo pos (starEach es X.env)).any (·.1) = false := by rfl) : DE X (.Call (.Name x p) (e :: es) [] pos) (eCall g f) :=
  de_app ho ha fun _ _ h1 h2 => pe_callB h1 hg hm hv h2 hn hdb he hpl
theorem db_callTy {f : APm} (ho : OC own X (.type T) g) (hg : Gl X x) (hm : X.mg x = none) (hv : bootBuiltins x = some (.type T)) (ha : DAP false X (e :: es) f) (hn : x ≠ "__name__" := by decide) (hdb : (x == ("__debug__" : Str)) = false := by decide)
    (he : starEach (e :: es) X.env = (false, eval e X.env) :: starEach es X.env := by rfl) (hpl : (backTo pos (starEach es X.env)).any (·.1) = false := by rfl) : DB own X (.Call (.Name x p) (e :: es) [] pos) (pCall g f) :=
  db_app ho ha fun _ _ h1 h2 => pe_callTy h1 hg hm hv h2 hn hdb he hpl
theorem de_callTy {f : ASm} (ho : OC true X (.type T) g) (hg : Gl X x) (hm : X.mg x = none) (hv : bootBuiltins x = some (.type T)) (ha : DA X (e :: es) f) (hn : x ≠ "__name__" := by decide) (hdb : (x == ("__debug__" : Str)) = false := by decide)
    (he : starEach (e :: es) X.env = (false, eval e X.env) :: starEach es X.env := by rfl) (hpl : (backTo pos (starEach es X.env)).any (·.1) = false := by rfl) : DE X (.Call (.Name x p) (e :: es) [] pos) (eCall g f) :=
  de_app ho ha fun _ _ h1 h2 => pe_callTy h1 hg hm hv h2 hn hdb he hpl
end

/-! ### what the built-ins do -/
section
variable {K : PySem.W.Frag} {H : Hp} {X : Cx}
theorem ROs.one {d : D} {vs : List V} {fp : List Addr} (h : ROs K H [d] vs fp) : ∃ v, vs = [v] ∧ RO K H d v fp := by
  obtain ⟨x, xs, f, f', h1, hf, h2, h3, h4⟩ := h
  subst h3
  rw [hf, h4, List.append_nil]
  exact ⟨x, h1, h2⟩
theorem ROs.two {d e : D} {vs : List V} {fp : List Addr} (h : ROs K H [d, e] vs fp) : ∃ v w f g, vs = [v, w] ∧ RO K H d v f ∧ RO K H e w g := by
  obtain ⟨x, xs, f, f', h1, hf, h2, h3⟩ := h
  obtain ⟨w, e1, e2⟩ := ROs.one h3
  exact ⟨x, w, f, f', by rw [h1, e1], h2, e2⟩
def gLen : List D → Option D
  | [.str s] => if s.length ≤ szL then some (.int s.length) else none
  | [.dcK _ ks _] => some (.int ks.length)
  | [d] => (seqD d).map fun ds => .int ds.length
  | _ => none
theorem call_lenRd : CallR X (.builtin "len") (fun xs H Q => ∃ d kvs, xs = [.ref d] ∧ Rd H d (.dK kvs) ∧ Q (.int kvs.length) H) := by
  rintro pins s σ H xs us Q I r ⟨d, kvs, rfl, hd, q⟩
  rw [Vals.ref1 r]
  exact d_len I hd fun t s' I' => ⟨.int kvs.length, H, I', ⟨t, rfl⟩, q⟩
theorem c_len : OC true X (.builtin "len") gLen := by
  refine ⟨_, CallR.or call_len call_lenRd, fun H vs ds fp d hv hg Q q => ?_⟩
  unfold gLen at hg
  split at hg
  · split at hg
    · rename_i hz
      cases hg
      obtain ⟨v, rfl, _, rfl⟩ := hv.one
      exact .inl ⟨_, _, rfl, ⟨by rw [szL_eq]; exact hz, rfl⟩, q.int⟩
    · cases hg
  · rename_i fz ks ds
    cases hg
    obtain ⟨v, rfl, r⟩ := hv.one
    have fin : ∀ {a : Addr} {xs : List V}, v = .ref a → Rd H a (.dK (ks.zip xs)) → ks.length = xs.length → ∃ d kvs, [v] = [V.ref d] ∧ Rd H d (.dK kvs) ∧ Q (.int kvs.length) H := fun {a xs} e1 e2 e3 =>
      ⟨a, _, by rw [e1], e2, by rw [List.length_zip, ← e3, Nat.min_self]; exact q.int⟩
    rcases r with ⟨_, _, _, a, o, xs, h1, h2, h3, _⟩ | ⟨_, a, xs, f, h1, _, h2, h3, _⟩
    · exact .inr (fin h1 (.inr ⟨o, h2⟩) h3)
    · exact .inr (fin h1 (.inl h2) h3)
  · obtain ⟨es, e1, e2⟩ := Option.map_eq_some_iff.mp hg
    subst e2
    obtain ⟨v, rfl, r⟩ := hv.one
    obtain ⟨a, xs, f, h1, h2, _, h4, _⟩ := r.seq e1
    refine .inl ⟨v, _, rfl, ?_, q.int⟩
    rw [h1, ← h2.length]
    exact h4.imp (fun z => ⟨xs, z, rfl⟩) fun z => ⟨xs, z, rfl⟩
  · cases hg
def gInt : List D → Option D
  | [.int i] => some (.int i)
  | [.bl b] => some (.int (if b = true then 1 else 0))
  | _ => none
theorem c_int : OC true X (.type "int") gInt := by
  refine ⟨_, call_int1, fun H vs ds fp d hv hg Q q => ?_⟩
  unfold gInt at hg
  split at hg
  · cases hg
    obtain ⟨v, rfl, _, rfl⟩ := hv.one
    exact .inl ⟨_, rfl, q.int⟩
  · cases hg
    obtain ⟨v, rfl, _, rfl⟩ := hv.one
    exact .inr ⟨_, rfl, q.int⟩
  · cases hg
def gBool : List D → Option D
  | [.int i] => some (.bl (i != 0))
  | [.bl b] => some (.bl b)
  | _ => none
theorem c_bool : OC true X (.type "bool") gBool := by
  refine ⟨_, call_bool1, fun H vs ds fp d hv hg Q q => ?_⟩
  unfold gBool at hg
  split at hg
  · cases hg
    obtain ⟨v, rfl, _, rfl⟩ := hv.one
    exact .inl ⟨_, rfl, q.bl⟩
  · cases hg
    obtain ⟨v, rfl, _, rfl⟩ := hv.one
    exact .inr ⟨_, rfl, q.bl⟩
  · cases hg
def gStr : List D → Option D
  | [.int i] => if i.natAbs.log2 < 1920 then some (.str (toString i)) else none
  | _ => none
theorem c_str : OC true X (.type "str") gStr := by
  refine ⟨_, call_str_int, fun H vs ds fp d hv hg Q q => ?_⟩
  unfold gStr at hg
  split at hg
  · split at hg
    · rename_i hz
      cases hg
      obtain ⟨v, rfl, _, rfl⟩ := hv.one
      exact ⟨_, rfl, hz, q.str⟩
    · cases hg
  · cases hg
def gAbs : List D → Option D
  | [.int i] => some (.int (if i < 0 then -i else i))
  | _ => none
theorem c_abs : OC true X (.builtin "abs") gAbs := by
  refine ⟨_, call_abs, fun H vs ds fp d hv hg Q q => ?_⟩
  unfold gAbs at hg
  split at hg
  · cases hg
    obtain ⟨v, rfl, _, rfl⟩ := hv.one
    exact ⟨_, rfl, q.int⟩
  · cases hg
def intsD : List D → Option (List Int)
  | [] => some []
  | .int i :: r => (intsD r).map fun l => i :: l
  | _ => none
theorem intsD_all : ∀ {ds : List D} {ns : List Int}, intsD ds = some ns → ds = ns.map D.int
  | [], _, e => by cases e; rfl
  | .int i :: r, _, e => by
    obtain ⟨l, e1, e2⟩ := Option.map_eq_some_iff.mp e
    subst e2
    rw [intsD_all e1]; rfl
  | .non :: r, _, e => by cases e
  | .bl _ :: r, _, e => by cases e
  | .str _ :: r, _, e => by cases e
  | .tup _ :: r, _, e => by cases e
  | .lst _ _ :: r, _, e => by cases e
  | .scr _ :: r, _, e => by cases e
  | .dcK _ _ _ :: r, _, e => by cases e
  | .dcT _ _ _ :: r, _, e => by cases e
theorem intsD_map : ∀ ns : List Int, intsD (ns.map D.int) = some ns
  | [] => rfl
  | n :: ns => by
    show (intsD (ns.map D.int)).map _ = _
    rw [intsD_map ns]; rfl
theorem ROs.ints {ns : List Int} {vs : List V} {fp : List Addr} (h : ROs K H (ns.map D.int) vs fp) : vs = ns.map V.int := by
  rw [h.fvs (by rw [List.all_map, List.all_eq_true]; exact fun _ _ => rfl), List.map_map]; rfl
/-- the greatest, the least of a row of ints -/
def mxI : Int → List Int → Int
  | m, [] => m
  | m, n :: r => mxI (if m < n then n else m) r
def mnI : Int → List Int → Int
  | m, [] => m
  | m, n :: r => mnI (if n < m then n else m) r
theorem mxI_mem : ∀ (r : List Int) (m : Int), mxI m r ∈ m :: r ∧ ∀ y ∈ m :: r, y ≤ mxI m r
  | [], m => ⟨by simp [mxI], fun y h => by
    have : y = m := by simpa using h
    subst this; exact Int.le_refl _⟩
  | n :: r, m => by
    show mxI (if m < n then n else m) r ∈ m :: n :: r ∧ ∀ y ∈ m :: n :: r, y ≤ mxI (if m < n then n else m) r
    have ih := mxI_mem r (if m < n then n else m)
    have h0 := ih.2 _ List.mem_cons_self
    refine ⟨?_, fun y h => ?_⟩
    · rcases List.mem_cons.mp ih.1 with e | e
      · rw [e]; split
        · exact List.mem_cons_of_mem _ List.mem_cons_self
        · exact List.mem_cons_self
      · exact List.mem_cons_of_mem _ (List.mem_cons_of_mem _ e)
    · rcases List.mem_cons.mp h with rfl | h
      · split at h0 <;> rename_i z <;> (try rw [if_pos z]) <;> (try rw [if_neg z]) <;> omega
      · rcases List.mem_cons.mp h with rfl | h
        · split at h0 <;> rename_i z <;> (try rw [if_pos z]) <;> (try rw [if_neg z]) <;> omega
        · exact ih.2 y (List.mem_cons_of_mem _ h)
theorem mnI_mem : ∀ (r : List Int) (m : Int), mnI m r ∈ m :: r ∧ ∀ y ∈ m :: r, mnI m r ≤ y
  | [], m => ⟨by simp [mnI], fun y h => by
    have : y = m := by simpa using h
    subst this; exact Int.le_refl _⟩
  | n :: r, m => by
    show mnI (if n < m then n else m) r ∈ m :: n :: r ∧ ∀ y ∈ m :: n :: r, mnI (if n < m then n else m) r ≤ y
    have ih := mnI_mem r (if n < m then n else m)
    have h0 := ih.2 _ List.mem_cons_self
    refine ⟨?_, fun y h => ?_⟩
    · rcases List.mem_cons.mp ih.1 with e | e
      · rw [e]; split
        · exact List.mem_cons_of_mem _ List.mem_cons_self
        · exact List.mem_cons_self
      · exact List.mem_cons_of_mem _ (List.mem_cons_of_mem _ e)
    · rcases List.mem_cons.mp h with rfl | h
      · split at h0 <;> rename_i z <;> (try rw [if_pos z]) <;> (try rw [if_neg z]) <;> omega
      · rcases List.mem_cons.mp h with rfl | h
        · split at h0 <;> rename_i z <;> (try rw [if_pos z]) <;> (try rw [if_neg z]) <;> omega
        · exact ih.2 y (List.mem_cons_of_mem _ h)
/-- max, min of two ints, or of a list of ints -/
def gMax : List D → Option D
  | [.int i, .int j] => some (.int (if i < j then j else i))
  | [.lst _ ds] => match intsD ds with | some (m :: r) => some (.int (mxI m r)) | _ => none
  | _ => none
def gMin : List D → Option D
  | [.int i, .int j] => some (.int (if j < i then j else i))
  | [.lst _ ds] => match intsD ds with | some (m :: r) => some (.int (mnI m r)) | _ => none
  | _ => none
theorem c_max (hc : X.calm = true) : OC true X (.builtin "max") gMax := by
  refine ⟨_, CallR.or (call_max2 hc) (cr_max hc), fun H vs ds fp d hv hg Q q => ?_⟩
  unfold gMax at hg
  split at hg
  · cases hg
    obtain ⟨v, w, f, g, rfl, r1, r2⟩ := hv.two
    exact .inl ⟨_, _, by rw [r1.2, r2.2], q.int⟩
  · split at hg
    · rename_i m r e1
      cases hg
      obtain ⟨v, rfl, rr⟩ := hv.one
      obtain ⟨a, xs, f, h1, h2, h3⟩ := rr.rdl
      have e2 := intsD_all e1
      rw [e2] at h3
      have e3 := h3.ints
      refine .inr ⟨a, m :: r, by rw [h1], by rw [← e3]; exact .inl h2, Nat.zero_lt_succ _, fun k hk hb => ?_⟩
      have z := mxI_mem r m
      have : k = mxI m r := Int.le_antisymm (z.2 k hk) (hb _ z.1)
      rw [this]; exact q.int
    · cases hg
  · cases hg
theorem c_min (hc : X.calm = true) : OC true X (.builtin "min") gMin := by
  refine ⟨_, CallR.or (call_min2 hc) (cr_min hc), fun H vs ds fp d hv hg Q q => ?_⟩
  unfold gMin at hg
  split at hg
  · cases hg
    obtain ⟨v, w, f, g, rfl, r1, r2⟩ := hv.two
    exact .inl ⟨_, _, by rw [r1.2, r2.2], q.int⟩
  · split at hg
    · rename_i m r e1
      cases hg
      obtain ⟨v, rfl, rr⟩ := hv.one
      obtain ⟨a, xs, f, h1, h2, h3⟩ := rr.rdl
      have e2 := intsD_all e1
      rw [e2] at h3
      have e3 := h3.ints
      refine .inr ⟨a, m :: r, by rw [h1], by rw [← e3]; exact .inl h2, Nat.zero_lt_succ _, fun k hk hb => ?_⟩
      have z := mnI_mem r m
      have : k = mnI m r := Int.le_antisymm (hb _ z.1) (z.2 k hk)
      rw [this]; exact q.int
    · cases hg
  · cases hg
def gSum : List D → Option D
  | [.lst _ ds] => (intsD ds).map fun ns => .int ns.sum
  | _ => none
theorem c_sum (hc : X.calm = true) : OC true X (.builtin "sum") gSum := by
  refine ⟨_, cr_sum hc, fun H vs ds fp d hv hg Q q => ?_⟩
  unfold gSum at hg
  split at hg
  · obtain ⟨ns, e1, e2⟩ := Option.map_eq_some_iff.mp hg
    subst e2
    obtain ⟨v, rfl, rr⟩ := hv.one
    obtain ⟨a, xs, f, h1, h2, h3⟩ := rr.rdl
    rw [intsD_all e1] at h3
    exact ⟨a, ns, by rw [h1], by rw [← h3.ints]; exact .inl h2, q.int⟩
  · cases hg
def gTuple : List D → Option D
  | [.tup ds] => some (.tup ds)
  | [.lst _ ds] => if ds.all isImm = true then some (.tup ds) else none
  | [.scr ds] => some (.tup ds)
  | _ => none
theorem c_tuple : OC true X (.type "tuple") gTuple := by
  refine ⟨_, call_tuple_of, fun H vs ds fp d hv hg Q q => ?_⟩
  unfold gTuple at hg
  split at hg
  · cases hg
    obtain ⟨v, rfl, r⟩ := hv.one
    have r' : RI X.K H _ v := r.2
    obtain ⟨_, a, xs, h1, h2, h3⟩ := r
    exact ⟨a, xs, by rw [h1], .inr ⟨SqT.of h2, by rw [← h1]; exact q.imm r'⟩⟩
  · split at hg
    · rename_i hz
      cases hg
      obtain ⟨v, rfl, rr⟩ := hv.one
      obtain ⟨a, xs, f, h1, h2, h3⟩ := rr.rdl
      exact ⟨a, xs, by rw [h1], .inl ⟨.inl h2, fun l hl => q.tup (h3.ris hz) hl⟩⟩
    · cases hg
  · cases hg
    obtain ⟨v, rfl, _, a, xs, h1, h2, h3⟩ := hv.one
    exact ⟨a, xs, by rw [h1], .inl ⟨h2.sq, fun l hl => q.tup h3 hl⟩⟩
  · cases hg
def gList : List D → Option D
  | [d] => (seqD d).bind fun ds => if ds.all isImm = true then some (.lst false ds) else none
  | _ => none
theorem c_list : OC true X (.type "list") gList := by
  refine ⟨_, call_list_of, fun H vs ds fp d hv hg Q q => ?_⟩
  unfold gList at hg
  split at hg
  · obtain ⟨es, e1, hg⟩ := Option.bind_eq_some_iff.mp hg
    split at hg
    · rename_i hz
      cases hg
      obtain ⟨v, rfl, r⟩ := hv.one
      obtain ⟨a, xs, f, h1, h2, _, h4, _⟩ := r.seq e1
      exact ⟨a, xs, by rw [h1], h4, fun l hl => q.lst (h2.ris hz) hl⟩
    · cases hg
  · cases hg
end

/-! ### isinstance -/
def tyN : D → String
  | .non => "NoneType" | .bl _ => "bool" | .int _ => "int" | .str _ => "str"
  | .tup _ => "tuple" | .lst _ _ => "list" | .scr _ => "list" | .dcK _ _ _ => "dict" | .dcT _ _ _ => "dict"
def isD (T : String) (d : D) : Bool := tyN d == T || (tyN d == "bool" && T == "int")
/-- the classes that the texts ask for -/
def okT (T : String) : Bool := ["int", "bool", "str", "tuple", "list", "dict"].contains T
theorem kit_all : (["NoneType", "bool", "int", "str", "tuple", "list", "dict"] : List String).all (fun n => (["int", "bool", "str", "tuple", "list", "dict"] : List String).all fun T => decide (kitB n T = some (n == T || (n == "bool" && T == "int")))) = true := by decide +kernel
theorem tyN_mem (d : D) : tyN d ∈ (["NoneType", "bool", "int", "str", "tuple", "list", "dict"] : List String) := by
  cases d <;> simp [tyN]
theorem kit_is {T : String} (h : okT T = true) (d : D) : kitB (tyN d) T = some (isD T d) := by
  have hT : T ∈ (["int", "bool", "str", "tuple", "list", "dict"] : List String) := by simpa [okT] using h
  exact of_decide_eq_true (List.all_eq_true.mp (List.all_eq_true.mp kit_all _ (tyN_mem d)) T hT)
section
variable {K : PySem.W.Frag} {H : Hp} {X : Cx}
theorem RO.tyx {d : D} {v : V} {fp : List Addr} (h : RO K H d v fp) (hd : ∀ ks ds, d ≠ .dcT true ks ds) : TyX K H v (.type (tyN d)) := by
  cases d with
  | non => rw [h.2]; exact .base .non
  | bl b => rw [h.2]; exact .base (.bl b)
  | int b => rw [h.2]; exact .base (.int b)
  | str b => rw [h.2]; exact .base (.str b)
  | tup ds => obtain ⟨_, a, xs, h1, h2, h3⟩ := h; rw [h1]; exact .base (.tup h2)
  | scr ds =>
    obtain ⟨_, a, xs, h1, h2, h3⟩ := h
    rw [h1]
    rcases h2 with ⟨o, h2⟩ | ⟨o, its, n, h2, h4, _⟩
    · exact .base (.frz h2)
    · exact .kList h2 h4
  | lst fz ds =>
    obtain ⟨a, xs, f, h1, h2, h3⟩ := h.rdl
    rw [h1]
    rcases h2 with h2 | ⟨o, h2⟩
    · exact .base (.lst h2)
    · exact .base (.frz h2)
  | dcK fz ks ds =>
    rcases h with ⟨_, _, _, a, o, xs, h1, h2, _⟩ | ⟨_, a, xs, f, h1, _, h2, _⟩
    · rw [h1]; exact .fDict h2
    · rw [h1]; exact .base (.dK h2)
  | dcT fz ks ds =>
    rcases h with ⟨z, _⟩ | ⟨_, a, xs, f, h1, _, h2, _⟩
    · subst z; exact absurd rfl (hd ks ds)
    · rw [h1]; exact .base (.dT h2)
def notFT : D → Bool
  | .dcT true _ _ => false
  | _ => true
def pIsi (T : String) (f : PSm) : PSm := fun env => (f env).bind fun d => if notFT d = true then some (.bl (isD T d)) else none
variable {a : Expr} {p q0 pos : Pos} {tn : Str} {T : String}
theorem db_isi {f : PSm} (hT : okT T = true) (hg : Gl X "isinstance") (hm : X.mg "isinstance" = none) (hg2 : Gl X tn) (hm2 : X.mg tn = none) (hv2 : bootBuiltins tn = some (.type T)) (ha : DB false X a f)
    (hv : bootBuiltins ("isinstance" : Str) = some (.builtin "isinstance") := by decide +kernel) (hn2 : tn ≠ "__name__" := by decide) (hd2 : (tn == ("__debug__" : Str)) = false := by decide)
    (he : starEach [a, .Name tn q0] X.env = (false, eval a X.env) :: starEach [.Name tn q0] X.env := by rfl) (he2 : starEach [.Name tn q0] X.env = (false, eval (.Name tn q0) X.env) :: starEach [] X.env := by rfl)
    (hpl : (backTo pos (starEach [.Name tn q0] X.env)).any (·.1) = false := by rfl) : DB true X (.Call (.Name "isinstance" p) [a, .Name tn q0] [] pos) (pIsi T f) := by
  obtain ⟨t, pa, h⟩ := ha
  refine ⟨_, pe_callB call_isi hg hm hv (pa_cons pa (pa_cons (pe_bltn (v := .ty T) hg2 hm2 hv2 rfl hn2 hd2) pa_nil he2) he) (by decide) (by decide) he hpl, fun σ H env fp d s nd hf Q q => ?_⟩
  obtain ⟨d0, e1, hf⟩ := Option.bind_eq_some_iff.mp hf
  split at hf
  case isFalse => cases hf
  rename_i hn
  cases hf
  refine h σ H env fp d0 s nd e1 _ fun v H1 fr s1 r _ => ?_
  exact ⟨v, .ty T, .type (tyN d0), .type T, isD T d0, rfl, .ty T, r.tyx (fun ks ds z => by subst z; cases hn), kit_ty (kit_is hT d0), (q.via s1).bl⟩
def pIsi2 (T U : String) (f : PSm) : PSm := fun env => (f env).bind fun d => if notFT d = true then some (.bl (isD T d || isD U d)) else none
theorem kit_two {T U : String} {d : D} (hT : okT T = true) (hU : okT U = true) : PySem.W.kitAny K (.type (tyN d)) [.type T, .type U] = some (isD T d || isD U d) := by
  refine kitAny_cons (kit_ty (kit_is hT d)) (fun e => kitAny_cons (kit_ty (kit_is hU d)) (fun e2 => ?_) fun e2 => ?_) fun e => ?_
  · rw [e, e2]; rfl
  · rw [e2, Bool.or_true]
  · rw [e, Bool.true_or]
variable {un : Str} {U : String} {q1 q2 : Pos} {k : Nat}
theorem db_isi2 {f : PSm} (hT : okT T = true) (hU : okT U = true) (hg : Gl X "isinstance") (hm : X.mg "isinstance" = none) (hg2 : Gl X tn) (hm2 : X.mg tn = none) (hv2 : bootBuiltins tn = some (.type T)) (hg3 : Gl X un) (hm3 : X.mg un = none) (hv3 : bootBuiltins un = some (.type U)) (ha : DB false X a f)
    (hv : bootBuiltins ("isinstance" : Str) = some (.builtin "isinstance") := by decide +kernel) (hn2 : tn ≠ "__name__" := by decide) (hd2 : (tn == ("__debug__" : Str)) = false := by decide) (hn3 : un ≠ "__name__" := by decide) (hd3 : (un == ("__debug__" : Str)) = false := by decide)
    (he : starEach [a, .Tuple [.Name tn q0, .Name un q1] k q2] X.env = (false, eval a X.env) :: starEach [.Tuple [.Name tn q0, .Name un q1] k q2] X.env := by rfl) (he2 : starEach [.Tuple [.Name tn q0, .Name un q1] k q2] X.env = (false, eval (.Tuple [.Name tn q0, .Name un q1] k q2) X.env) :: starEach [] X.env := by rfl)
    (he3 : starEach [.Name tn q0, .Name un q1] X.env = (false, eval (.Name tn q0) X.env) :: starEach [.Name un q1] X.env := by rfl) (he4 : starEach [.Name un q1] X.env = (false, eval (.Name un q1) X.env) :: starEach [] X.env := by rfl)
    (hpl : (backTo pos (starEach [.Tuple [.Name tn q0, .Name un q1] k q2] X.env)).any (·.1) = false := by rfl) : DB true X (.Call (.Name "isinstance" p) [a, .Tuple [.Name tn q0, .Name un q1] k q2] [] pos) (pIsi2 T U f) := by
  obtain ⟨t, pa, h⟩ := ha
  refine ⟨_, pe_callB call_isiT hg hm hv (pa_cons pa (pa_cons (pe_tup (pa_cons (pe_bltn (v := .ty T) hg2 hm2 hv2 rfl hn2 hd2) (pa_cons (pe_bltn (v := .ty U) hg3 hm3 hv3 rfl hn3 hd3) pa_nil he4) he3)) pa_nil he2) he) (by decide) (by decide) he hpl, fun σ H env fp d s nd hf Q q => ?_⟩
  obtain ⟨d0, e1, hf⟩ := Option.bind_eq_some_iff.mp hf
  split at hf
  case isFalse => cases hf
  rename_i hn
  cases hf
  refine h σ H env fp d0 s nd e1 _ fun v H1 fr s1 r _ => ⟨by rw [szL_eq]; exact (by decide : 2 ≤ 16777216), fun pp hp => ?_⟩
  have sm := same_new (o := .tup [.ty T, .ty U]) hp
  exact ⟨v, pp, _, .type (tyN d0), _, _, rfl, upd_same, .cons (.ty T) (.cons (.ty U) .nil), (r.same sm).tyx (fun ks ds z => by subst z; cases hn), kit_two hT hU, ((q.via s1).via sm).bl⟩
end
end DL

set_option maxHeartbeats 1000000
/-! DL, part f: canonical readings, freezing, statements, targets, loops -/
namespace DL
open PySem L2

/-! ### canonical readings: by the meaning alone -/
def tE (K : PySem.W.Frag) (f : ESm) : TE := fun σ H Q => ∃ env env' fp d, SR K H env σ fp ∧ fp.Nodup ∧ f env = some (d, env') ∧ EQ K σ H fp d env' Q
def tT (K : PySem.W.Frag) (f : TSm) : TT := fun σ H Q => ∃ env env' fp b, SR K H env σ fp ∧ fp.Nodup ∧ f env = some (b, env') ∧ TQ K σ H fp b env' Q
section
variable {X : Cx} {e : Expr}
theorem DE.pe {f : ESm} (h : DE X e f) : PE X e (tE X.K f) := by
  obtain ⟨t, p, h⟩ := h
  exact ⟨fun pins s σ H Q I ⟨env, env', fp, d, sr, nd, hf, q⟩ => p.run pins s σ H Q I (h σ H env env' fp d sr nd hf Q q)⟩
theorem DT.pt {f : TSm} (h : DT X e f) : PT X e (tT X.K f) := by
  obtain ⟨t, p, h⟩ := h
  exact ⟨fun pins s σ H Q I ⟨env, env', fp, d, sr, nd, hf, q⟩ => p.run pins s σ H Q I (h σ H env env' fp d sr nd hf Q q)⟩

/-! ### freezing -/
mutual
def fz : D → D
  | .non => .non
  | .bl b => .bl b
  | .int i => .int i
  | .str s => .str s
  | .tup ds => .tup ds
  | .scr ds => .scr ds
  | .lst true ds => .lst true ds
  | .lst false ds => .lst true (fzs ds)
  | .dcK true ks ds => .dcK true ks ds
  | .dcK false ks ds => .dcK true ks (fzs ds)
  | .dcT true ks ds => .dcT true ks ds
  | .dcT false ks ds => .dcT true ks (fzs ds)
def fzs : List D → List D
  | [] => []
  | d :: ds => fz d :: fzs ds
end
/-- the things at fp are locked for good -/
structure Locked (fp : List Addr) (H H' : Hp) : Prop where
  at_ : ∀ a ∈ fp, ∀ u, H a = some u → ∃ o, H' a = some (.frz o u)
  off : ∀ a, a ∉ fp → H' a = H a
theorem Locked.imm {fp : List Addr} {H H' : Hp} (l : Locked fp H H') (lv : ∀ a ∈ fp, Live H a) : ImmExt H H' := by
  refine ⟨fun a xs h => ?_, fun a o u h => ?_⟩
  · by_cases m : a ∈ fp
    · obtain ⟨o, z, mu⟩ := lv a m
      rw [h] at z; cases z; exact mu.elim
    · rw [l.off a m]; exact h
  · by_cases m : a ∈ fp
    · obtain ⟨o, z, mu⟩ := lv a m
      rw [h] at z; cases z; exact mu.elim
    · rw [l.off a m]; exact h
section
variable {K : PySem.W.Frag} {H H' : Hp} {fp : List Addr}
mutual
theorem RO.fz (l : ∀ a ∈ fp, ∀ u, H a = some u → ∃ o, H' a = some (.frz o u)) (im : ImmExt H H') : ∀ (d : D) (v : V) (f : List Addr), RO K H d v f → (∀ a ∈ f, a ∈ fp) → RI K H' (fz d) v
  | .non, _, _, h, _ => h.2
  | .bl _, _, _, h, _ => h.2
  | .int _, _, _, h, _ => h.2
  | .str _, _, _, h, _ => h.2
  | .tup ds, v, _, h, _ => RI.mono im _ v h.2
  | .scr ds, v, _, h, _ => RI.mono im _ v h.2
  | .lst true ds, v, _, h, _ => by
    rcases h with ⟨_, _, h⟩ | ⟨z, _⟩
    · exact RI.mono im _ v h
    · cases z
  | .lst false ds, v, f, h, hf => by
    rcases h with ⟨z, _⟩ | ⟨_, a, xs, g, h1, h2, h3, h4⟩
    · cases z
    · obtain ⟨o, ho⟩ := l a (hf a (by rw [h2]; exact List.mem_cons_self)) _ h3
      exact ⟨rfl, a, o, xs, h1, ho, ROs.fz l im ds xs g h4 fun b m => hf b (by rw [h2]; exact List.mem_cons_of_mem _ m)⟩
  | .dcK true ks ds, v, _, h, _ => by
    rcases h with ⟨_, _, h⟩ | ⟨z, _⟩
    · exact RI.mono im _ v h
    · cases z
  | .dcK false ks ds, v, f, h, hf => by
    rcases h with ⟨z, _⟩ | ⟨_, a, xs, g, h1, h2, h3, h5, h4⟩
    · cases z
    · obtain ⟨o, ho⟩ := l a (hf a (by rw [h2]; exact List.mem_cons_self)) _ h3
      exact ⟨rfl, a, o, xs, h1, ho, h5, ROs.fz l im ds xs g h4 fun b m => hf b (by rw [h2]; exact List.mem_cons_of_mem _ m)⟩
  | .dcT true ks ds, v, _, h, _ => by
    rcases h with ⟨_, _, h⟩ | ⟨z, _⟩
    · exact RI.mono im _ v h
    · cases z
  | .dcT false ks ds, v, f, h, hf => by
    rcases h with ⟨z, _⟩ | ⟨_, a, xs, g, h1, h2, h3, h5, h4⟩
    · cases z
    · obtain ⟨o, ho⟩ := l a (hf a (by rw [h2]; exact List.mem_cons_self)) _ h3
      exact ⟨rfl, a, o, xs, h1, ho, h5, ROs.fz l im ds xs g h4 fun b m => hf b (by rw [h2]; exact List.mem_cons_of_mem _ m)⟩
theorem ROs.fz (l : ∀ a ∈ fp, ∀ u, H a = some u → ∃ o, H' a = some (.frz o u)) (im : ImmExt H H') : ∀ (ds : List D) (vs : List V) (f : List Addr), ROs K H ds vs f → (∀ a ∈ f, a ∈ fp) → RIs K H' (fzs ds) vs
  | [], _, _, h, _ => h.1
  | d :: ds, _, f, ⟨x, xs, g, g', h1, h2, h3, h4⟩, hf =>
    ⟨x, xs, h1, RO.fz l im d x g h3 fun b m => hf b (by rw [h2]; exact List.mem_append_left _ m), ROs.fz l im ds xs g' h4 fun b m => hf b (by rw [h2]; exact List.mem_append_right _ m)⟩
end
end
/-- behind e, what stands at some places is locked for good -/
def tLk (t : TE) : TE := fun σ H Q => t σ H fun v H1 => ∃ fp, (∀ a ∈ fp, Live H1 a) ∧ ∀ H', Locked fp H1 H' → Q v H'
theorem lock_all {pins : List (Addr × Obj)} {σ : L2.St} {s : Shared} : ∀ (fp : List Addr) {H : Hp}, Inv X pins σ H s → (∀ a ∈ fp, Live H a) → ∃ H', Inv X pins σ H' s ∧ Locked fp H H'
  | [], H, I, _ => ⟨H, I, fun _ m => (nomatch m), fun _ _ => rfl⟩
  | a :: fp, H, I, lv => by
    obtain ⟨H1, I1, l1⟩ := lock_all fp I fun b m => lv b (List.mem_cons_of_mem _ m)
    by_cases ha : a ∈ fp
    · exact ⟨H1, I1, fun b m u hu => l1.at_ b ((List.mem_cons.mp m).elim (fun e => by rw [e]; exact ha) id) u hu, fun b n => l1.off b fun m => n (List.mem_cons_of_mem _ m)⟩
    · obtain ⟨u, hu, mu⟩ := lv a List.mem_cons_self
      have e1 : H1 a = some u := by rw [l1.off a ha]; exact hu
      obtain ⟨o, I2⟩ := I1.lock e1 mu
      refine ⟨_, I2, fun b m w hw => ?_, fun b n => ?_⟩
      · by_cases e : b = a
        · subst e
          rw [hu] at hw; cases hw
          exact ⟨o, upd_same⟩
        · rw [upd_ne e]
          exact l1.at_ b ((List.mem_cons.mp m).resolve_left e) w hw
      · rw [upd_ne (fun e => n (by rw [e]; exact List.mem_cons_self))]
        exact l1.off b fun m => n (List.mem_cons_of_mem _ m)
theorem pe_lk {t : TE} (h : PE X e t) : PE X e (tLk t) := by
  refine ⟨fun pins s σ H Q I q => thn (h.run pins s σ H _ I q) fun u s1 ⟨v, H1, I1, r, fp, lv, q1⟩ => ?_⟩
  obtain ⟨H2, I2, l⟩ := lock_all fp I1 lv
  exact ⟨v, H2, I2, r, q1 H2 l⟩
def eFz (f : ESm) : ESm := fun env => (f env).map fun d => (fz d.1, d.2)
theorem Locked.evo {fr fp : List Addr} {H H' : Hp} (l : Locked fr H H') (lv : ∀ a ∈ fr, Live H a) : Evo (fr ++ fp) H fp H' :=
  ⟨fun a o h n => by rw [l.off a fun m => n (List.mem_append_left _ m)]; exact h, fun a m => .inl (List.mem_append_right _ m), l.imm lv⟩
theorem de_fz {f : ESm} (h : DE X e f) : DE X e (eFz f) := by
  obtain ⟨t, p, h⟩ := h
  refine ⟨_, pe_lk p, fun σ H env env' fp d s nd hf Q q => ?_⟩
  obtain ⟨⟨d1, en⟩, e1, e2⟩ := Option.map_eq_some_iff.mp hf
  cases e2
  refine h σ H env _ fp d1 s nd e1 _ fun v H1 fr fp1 v1 s1 r n1 => ⟨fr, RO.live d1 v fr r, fun H' l => ?_⟩
  have lv := RO.live d1 v fr r
  have im := l.imm lv
  have r' := RO.fz (fp := fr) l.at_ im d1 v fr r fun a m => m
  have nf : ∀ a ∈ fp1, a ∉ fr := fun a m m' => (List.nodup_append.mp n1).2.2 a m' a m rfl
  exact q v H' [] fp1 (v1.trans (l.evo lv)) (s1.mono im fun a m => l.off a (nf a m)) r'.ro (List.nodup_append.mp n1).2.1
end

/-! ### statements -/
inductive Out where
  | nx | rt (d : D) | bk | ct
abbrev SSm := Env → Option (Out × Env)
/-- the slots that keep their values -/
def Pin (P : Nat → Bool) (σ σ' : L2.St) : Prop := σ'.length = σ.length ∧ ∀ i, P i = true → σ'[i]? = σ[i]?
theorem Pin.refl {P : Nat → Bool} (σ : L2.St) : Pin P σ σ := ⟨rfl, fun _ _ => rfl⟩
theorem Pin.trans {P : Nat → Bool} {a b c : L2.St} (h : Pin P a b) (h' : Pin P b c) : Pin P a c := ⟨h'.1.trans h.1, fun i hi => (h'.2 i hi).trans (h.2 i hi)⟩
theorem Pin.set {P : Nat → Bool} {σ : L2.St} {i : Nat} {x : Option V} (h : P i = false) : Pin P σ (σ.set i x) := ⟨List.length_set, fun j hj => by
  rw [List.getElem?_set_ne (fun e => by rw [e, hj] at h; cases h)]⟩
def NQ (K : PySem.W.Frag) (P : Nat → Bool) (σ : L2.St) (H : Hp) (fp : List Addr) (env' : Env) (Q : L2.St → Hp → Prop) : Prop :=
  ∀ σ' H' fp', Evo fp H fp' H' → SR K H' env' σ' fp' → fp'.Nodup → Pin P σ σ' → Q σ' H'
def SQ (K : PySem.W.Frag) (P : Nat → Bool) (σ : L2.St) (H : Hp) (fp : List Addr) (env' : Env) (D : Ends) : Out → Prop
  | .nx => NQ K P σ H fp env' D.nx
  | .bk => NQ K P σ H fp env' D.bk
  | .ct => NQ K P σ H fp env' D.ct
  | .rt d => ∀ v σ' H' fr fp', Evo fp H (fr ++ fp') H' → SR K H' env' σ' fp' → RO K H' d v fr → (fr ++ fp').Nodup → Pin P σ σ' → D.rt v H'
theorem SQ.via {K : PySem.W.Frag} {P : Nat → Bool} {σ σ1 : L2.St} {H H1 : Hp} {fp fp1 : List Addr} {env' : Env} {D : Ends} {o : Out} (q : SQ K P σ H fp env' D o) (e : Evo fp H fp1 H1) (p : Pin P σ σ1) : SQ K P σ1 H1 fp1 env' D o := by
  cases o with
  | nx => exact fun σ' H' fp' e' s n p' => q σ' H' fp' (e.trans e') s n (p.trans p')
  | bk => exact fun σ' H' fp' e' s n p' => q σ' H' fp' (e.trans e') s n (p.trans p')
  | ct => exact fun σ' H' fp' e' s n p' => q σ' H' fp' (e.trans e') s n (p.trans p')
  | rt d => exact fun v σ' H' fr fp' e' s r n p' => q v σ' H' fr fp' (e.trans e') s r n (p.trans p')
def tS (K : PySem.W.Frag) (P : Nat → Bool) (f : SSm) : TS := fun D σ H => ∃ env env' fp o, SR K H env σ fp ∧ fp.Nodup ∧ f env = some (o, env') ∧ SQ K P σ H fp env' D o
def DS (P : Nat → Bool) (X : Cx) (st : Stmt) (f : SSm) : Prop := PS X st (tS X.K P f)
def DSs (P : Nat → Bool) (X : Cx) (sts : List Stmt) (f : SSm) : Prop := PSs X sts (tS X.K P f)
section
variable {P : Nat → Bool} {X : Cx} {st : Stmt} {rest : List Stmt} {e : Expr} {pos : Pos}
theorem ps_of {t t' : TS} (h : PS X st t) (i : ∀ D σ H, t' D σ H → t D σ H) : PS X st t' := ⟨fun pins s σ H D I q => h.run pins s σ H D I (i D σ H q)⟩
theorem pss_of {sts : List Stmt} {t t' : TS} (h : PSs X sts t) (i : ∀ D σ H, t' D σ H → t D σ H) : PSs X sts t' := ⟨fun pins s σ H D I q => h.run pins s σ H D I (i D σ H q)⟩
def sNil : SSm := fun env => some (.nx, env)
def sSeq (f g : SSm) : SSm := fun env => (f env).bind fun r => match r.1 with
  | .nx => g r.2
  | o => some (o, r.2)
theorem ds_nil : DSs P X [] sNil := pss_of pss_nil fun D σ H ⟨env, env', fp, o, s, nd, hf, q⟩ => by
  cases hf
  exact q σ H fp (Evo.refl fp H) s nd (Pin.refl σ)
theorem ds_cons {f g : SSm} (h : DS P X st f) (h' : DSs P X rest g) : DSs P X (st :: rest) (sSeq f g) := pss_of (pss_cons h h') fun D σ H ⟨env, env', fp, o, s, nd, hf, q⟩ => by
  obtain ⟨⟨o1, en⟩, e1, hf⟩ := Option.bind_eq_some_iff.mp hf
  refine ⟨env, en, fp, o1, s, nd, e1, ?_⟩
  cases o1 with
  | nx => exact fun σ' H' fp' ev s' n' p' => ⟨en, env', fp', o, s', n', hf, q.via ev p'⟩
  | bk => cases hf; exact q
  | ct => cases hf; exact q
  | rt d => cases hf; exact q
theorem ds_one {f : SSm} (h : DS P X st f) : DSs P X [st] f := pss_of (pss_one h) fun D σ H z => z
theorem ds_pass : DS P X (.Pass pos) sNil := ps_of ps_pass fun D σ H ⟨env, env', fp, o, s, nd, hf, q⟩ => by
  cases hf
  exact q σ H fp (Evo.refl fp H) s nd (Pin.refl σ)
def sBk : SSm := fun env => some (.bk, env)
def sCt : SSm := fun env => some (.ct, env)
theorem ds_break : DS P X (.Break pos) sBk := ps_of ps_break fun D σ H ⟨env, env', fp, o, s, nd, hf, q⟩ => by
  cases hf
  exact q σ H fp (Evo.refl fp H) s nd (Pin.refl σ)
theorem ds_cont : DS P X (.Continue pos) sCt := ps_of ps_continue fun D σ H ⟨env, env', fp, o, s, nd, hf, q⟩ => by
  cases hf
  exact q σ H fp (Evo.refl fp H) s nd (Pin.refl σ)
def sRet (f : ESm) : SSm := fun env => (f env).map fun d => (.rt d.1, d.2)
theorem ds_ret {f : ESm} (h : DE X e f) : DS P X (.Return (some e) pos) (sRet f) := by
  refine ps_of (ps_ret h.pe) fun D σ H ⟨env, env', fp, o, s, nd, hf, q⟩ => ?_
  obtain ⟨⟨d, en⟩, e1, e2⟩ := Option.map_eq_some_iff.mp hf
  cases e2
  exact ⟨env, _, fp, d, s, nd, e1, fun v H' fr fp' ev s' r n => q v σ H' fr fp' ev s' r n (Pin.refl σ)⟩
def sRetN : SSm := fun env => some (.rt .non, env)
theorem ds_retN : DS P X (.Return none pos) sRetN := ps_of ps_retN fun D σ H ⟨env, env', fp, o, s, nd, hf, q⟩ => by
  cases hf
  exact q .non σ H [] fp (Evo.refl fp H) s ⟨rfl, rfl⟩ nd (Pin.refl σ)
def sExpr (f : ESm) : SSm := fun env => (f env).map fun d => (.nx, d.2)
theorem ds_expr {f : ESm} (h : DE X e f) (hs : swapsWith e none pos.line X.env = pure false := by rfl) : DS P X (.Expr e pos) (sExpr f) := by
  refine ps_of (ps_expr h.pe hs) fun D σ H ⟨env, env', fp, o, s, nd, hf, q⟩ => ?_
  obtain ⟨⟨d, en⟩, e1, e2⟩ := Option.map_eq_some_iff.mp hf
  cases e2
  exact ⟨env, _, fp, d, s, nd, e1, fun v H' fr fp' ev s' r n => q σ H' fp' (ev.sub fun a m => List.mem_append_right _ m) s' (List.nodup_append.mp n).2.1 (Pin.refl σ)⟩
def sIf (c : TSm) (f g : SSm) : SSm := fun env => (c env).bind fun b => if b.1 = true then f b.2 else g b.2
theorem ds_if {c : Expr} {a b : List Stmt} {t : TSm} {f g : SSm} (hc : DT X c t) (ha : DSs P X a f) (hb : DSs P X b g) : DS P X (.If c a b pos) (sIf t f g) := by
  refine ps_of (ps_if hc.pt ha hb) fun D σ H ⟨env, env', fp, o, s, nd, hf, q⟩ => ?_
  obtain ⟨⟨k, en⟩, e1, e2⟩ := Option.bind_eq_some_iff.mp hf
  refine ⟨env, en, fp, k, s, nd, e1, fun H' fp' ev s' n => ?_⟩
  cases k with
  | true =>
    rw [if_pos rfl] at e2 ⊢
    exact ⟨en, env', fp', o, s', n, e2, q.via ev (Pin.refl σ)⟩
  | false =>
    rw [if_neg Bool.false_ne_true] at e2 ⊢
    exact ⟨en, env', fp', o, s', n, e2, q.via ev (Pin.refl σ)⟩

/-! ### targets -/
abbrev GSm := D → Env → Option Env
def tG (K : PySem.W.Frag) (P : Nat → Bool) (g : GSm) : TG := fun v σ H Q => ∃ d env env' fp fr, SR K H env σ fp ∧ RO K H d v fr ∧ (fr ++ fp).Nodup ∧ g d env = some env' ∧ NQ K P σ H (fr ++ fp) env' Q
def DG (P : Nat → Bool) (X : Cx) (tg : Expr) (g : GSm) : Prop := PG X tg (tG X.K P g)
theorem pg_of {tg : Expr} {t t' : TG} (h : PG X tg t) (i : ∀ v σ H Q, t' v σ H Q → t v σ H Q) : PG X tg t' := ⟨fun pins s σ H v u Q I r q => h.run pins s σ H v u Q I r (i v σ H Q q)⟩
def gNm (i : Nat) : GSm := fun d env => if i < env.length then some (env.set i (some d)) else none
theorem put_slot {K : PySem.W.Frag} {H : Hp} {env : Env} {σ : L2.St} {fp fr : List Addr} {i : Nat} {d : D} {v : V} (s : SR K H env σ fp) (r : RO K H d v fr) (nd : (fr ++ fp).Nodup) (hi : i < env.length) :
    ∃ fp', SR K H (env.set i (some d)) (σ.set i (some v)) fp' ∧ fp'.Nodup ∧ ∀ a ∈ fp', a ∈ fr ++ fp := by
  obtain ⟨pre, f, post, e, p, _⟩ := s.put hi
  refine ⟨_, p d v fr r, ?_, fun a m => ?_⟩
  · rw [e] at nd
    have n1 := List.nodup_append.mp nd
    have n2 := List.nodup_append.mp n1.2.1
    have n3 := List.nodup_append.mp n2.2.1
    refine List.nodup_append.mpr ⟨n2.1, List.nodup_append.mpr ⟨n1.1, n3.2.1, fun a m b m' => n1.2.2 a m b (List.mem_append_right _ (List.mem_append_right _ m'))⟩, fun a m b m' => ?_⟩
    rcases List.mem_append.mp m' with m' | m'
    · exact fun z => n1.2.2 b m' a (List.mem_append_left _ m) z.symm
    · exact n2.2.2 a m b (List.mem_append_right _ m')
  · rw [e]
    rcases List.mem_append.mp m with m | m
    · exact List.mem_append_right _ (List.mem_append_left _ m)
    · rcases List.mem_append.mp m with m | m
      · exact List.mem_append_left _ m
      · exact List.mem_append_right _ (List.mem_append_right _ (List.mem_append_right _ m))
theorem dg_name {i : Nat} {x : Str} {p : Pos} (hN : X.N.Nodup) (hi : X.N[i]? = some x) (hx : Loc X.env.scope x) (hP : P i = false) (hf : X.fn x = true ∨ X.env.scope.names.lookup x = some .local := by first | exact .inl rfl | exact .inr rfl | assumption) : DG P X (.Name x p) (gNm i) := by
  refine pg_of (pg_name hN hi hx hf) fun v σ H Q ⟨d, env, env', fp, fr, s, r, nd, hg, q⟩ => ?_
  unfold gNm at hg
  split at hg
  case isFalse => cases hg
  rename_i hl
  cases hg
  obtain ⟨fp', s', n', m'⟩ := put_slot s r nd hl
  exact q _ H fp' ((Evo.refl _ H).sub m') s' n' (Pin.set hP)
/-- several -/
abbrev GsSm := List D → Env → Option Env
def tGs (K : PySem.W.Frag) (P : Nat → Bool) (g : GsSm) : TGs := fun vs σ H Q => ∃ ds env env' fp, SR K H env σ fp ∧ RIs K H ds vs ∧ fp.Nodup ∧ g ds env = some env' ∧ NQ K P σ H fp env' Q
def DGs (P : Nat → Bool) (X : Cx) (ts : List Expr) (g : GsSm) : Prop := PGs X ts (tGs X.K P g)
def gsNil : GsSm := fun ds env => match ds with | [] => some env | _ => none
def gsCons (g : GSm) (h : GsSm) : GsSm := fun ds env => match ds with | d :: r => (g d env).bind fun e => h r e | _ => none
theorem pgs_of {ts : List Expr} {t t' : TGs} (h : PGs X ts t) (i : ∀ v σ H Q, t' v σ H Q → t v σ H Q) : PGs X ts t' := ⟨fun pins s σ H v u Q I r q => h.run pins s σ H v u Q I r (i v σ H Q q)⟩
theorem dgs_nil : DGs P X [] gsNil := pgs_of pgs_nil fun vs σ H Q ⟨ds, env, env', fp, s, r, nd, hg, q⟩ => by
  cases ds with
  | nil => cases hg; exact ⟨r, q σ H fp (Evo.refl fp H) s nd (Pin.refl σ)⟩
  | cons d r' => cases hg
theorem dgs_cons {t : Expr} {ts : List Expr} {g : GSm} {h : GsSm} (h1 : DG P X t g) (h2 : DGs P X ts h) (hs : (assignEach (t :: ts) X.env).map (·.2) = assign t X.env :: (assignEach ts X.env).map (·.2) := by rfl) : DGs P X (t :: ts) (gsCons g h) :=
  pgs_of (pgs_cons h1 h2 hs) fun vs σ H Q ⟨ds, env, env', fp, s, r, nd, hg, q⟩ => by
  cases ds with
  | nil => cases hg
  | cons d dr =>
    obtain ⟨x, xs, e1, r1, r2⟩ := r
    obtain ⟨en, e2, e3⟩ := Option.bind_eq_some_iff.mp hg
    refine ⟨x, xs, e1, d, env, en, fp, [], s, r1.ro, nd, e2, fun σ' H' fp' ev s' n' p' => ?_⟩
    have ev' : Evo fp H fp' H' := ev
    exact ⟨dr, en, env', fp', s', RIs.mono ev'.imm dr xs r2, n', e3, fun σ2 H2 fp2 ev2 s2 n2 p2 => q σ2 H2 fp2 (ev'.trans ev2) s2 n2 (p'.trans p2)⟩
/-- (a, b, ..) = a tuple -/
def gTu (n : Nat) (g : GsSm) : GSm := fun d env => match d with | .tup ds => if ds.length = n then g ds env else none | _ => none
theorem dg_tup {es : List Expr} {k : Nat} {g : GsSm} {n : Nat} {p : Pos} (hc : X.calm = true) (h : DGs P X es g) (hn : (assignEach es X.env).length = n := by rfl) (hst : (assignEach es X.env).findIdx? (·.1) = none := by rfl) : DG P X (.Tuple es k p) (gTu n g) :=
  pg_of (pg_tup hc h hn hst) fun v σ H Q ⟨d, env, env', fp, fr, s, r, nd, hg, q⟩ => by
  cases d with
  | tup ds =>
    obtain ⟨ez, a, xs, h1, h2, h3⟩ := r
    subst ez
    unfold gTu at hg
    simp only at hg
    split at hg
    case isFalse => cases hg
    rename_i hl
    exact ⟨a, xs, h1, SqT.of h2, by rw [h3.length]; exact hl, ds, env, env', fp, s, h3, nd, hg, q⟩
  | _ => cases hg
/-- target = value -/
def sAsg (f : ESm) (g : GSm) : SSm := fun env => (f env).bind fun d => (g d.1 d.2).map fun e => (.nx, e)
theorem asg_core {te : TE} {tg : TG} {f : ESm} {g : GSm} {D : Ends} {σ : L2.St} {H : Hp} (i1 : ∀ σ H Q, tE X.K f σ H Q → te σ H Q) (i2 : ∀ v σ H Q, tG X.K P g v σ H Q → tg v σ H Q) (h : tS X.K P (sAsg f g) D σ H) : tAsg te tg D σ H := by
  obtain ⟨env, env', fp, o, s, nd, hf, q⟩ := h
  obtain ⟨⟨d, en⟩, e1, hf⟩ := Option.bind_eq_some_iff.mp hf
  obtain ⟨en2, e2, e3⟩ := Option.map_eq_some_iff.mp hf
  cases e3
  refine i1 σ H _ ⟨env, en, fp, d, s, nd, e1, fun v H' fr fp' ev s' r n => ?_⟩
  refine i2 v σ H' _ ⟨d, en, _, fp', fr, s', r, n, e2, fun σ2 H2 fp2 ev2 s2 n2 p2 => ?_⟩
  exact q σ2 H2 fp2 (ev.trans ev2) s2 n2 p2
theorem ds_asg {tg : Expr} {f : ESm} {g : GSm} (he : DE X e f) (hg : DG P X tg g) (hs : swapsWithSole [tg] e pos.line X.env = pure false := by rfl) (hw : swappedStores [tg] e X.env = pure none := by rfl)
    (h1 : (assignEach [tg] X.env).map (·.2) = [assign tg X.env] := by rfl) : DS P X (.Assign [tg] e pos) (sAsg f g) :=
  ps_of (ps_asg he.pe hg hs hw h1) fun D σ H z => asg_core (fun _ _ _ z => z) (fun _ _ _ _ z => z) z
theorem ds_set {i : Nat} {x : Str} {f : ESm} {p : Pos} (hN : X.N.Nodup) (hi : X.N[i]? = some x) (hx : Loc X.env.scope x) (hP : P i = false) (he : DE X e f) (hs : swapsWith e (some (.Name x p)) pos.line X.env = pure false := by rfl) (hf : X.fn x = true ∨ X.env.scope.names.lookup x = some .local := by first | exact .inl rfl | exact .inr rfl | assumption) :
    DS P X (.Assign [.Name x p] e pos) (sAsg f (gNm i)) :=
  ps_of (ps_set hN hi hx he.pe hs hf) fun D σ H z => asg_core (fun _ _ _ z => z) (fun v σ H Q ⟨d, env, env', fp, fr, s, r, nd, hg, q⟩ => by
    unfold gNm at hg
    split at hg
    case isFalse => cases hg
    rename_i hl
    cases hg
    obtain ⟨fp', s', n', m'⟩ := put_slot s r nd hl
    exact q _ H fp' ((Evo.refl _ H).sub m') s' n' (Pin.set hP)) z

/-! ### loops -/
/-- what an iterator yields, whatever else happens: these, one after another -/
def Yields (K : PySem.W.Frag) (J : It) (ds : List D) (H : Hp) : Prop := ∀ H1, ImmExt H H1 →
  (∀ i d, ds[i]? = some d → J.go i H1 ∧ ∀ x H2, J.yld i H1 x H2 → Same H1 H2 ∧ RI K H2 d x) ∧ J.stop ds.length H1
abbrev ISm := Env → Option (List D × Env)
def tI (K : PySem.W.Frag) (f : ISm) : TI := fun σ H R => ∃ env env' fp ds, SR K H env σ fp ∧ fp.Nodup ∧ f env = some (ds, env') ∧ ∀ J H' fp', Evo fp H fp' H' → SR K H' env' σ fp' → fp'.Nodup → Yields K J ds H' → R J H'
def DI (X : Cx) (tg e : Expr) (f : ISm) : Prop := PI X tg e (tI X.K f)
theorem pi_of {tg e : Expr} {t t' : TI} (h : PI X tg e t) (i : ∀ σ H R, t' σ H R → t σ H R) : PI X tg e t' := ⟨fun pins s σ H R I q => h.run pins s σ H R I (i σ H R q)⟩
def forL (g : GSm) (body : SSm) : List D → Env → Option (Out × Env)
  | [], env => some (.nx, env)
  | d :: ds, env => (g d env).bind fun e => (body e).bind fun r => match r.1 with
    | .nx => forL g body ds r.2
    | .ct => forL g body ds r.2
    | .bk => some (.nx, r.2)
    | .rt v => some (.rt v, r.2)
def sFor (it : ISm) (g : GSm) (body : SSm) : SSm := fun env => (it env).bind fun ds => forL g body ds.1 ds.2
theorem ds_for {tg iter : Expr} {body : List Stmt} {it : ISm} {g : GSm} {f : SSm} (hp : PassesOwn (model X.prog X.w) X.A X.env X.xe) (hc : X.calm = true) (hi : DI X tg iter it) (hg : DG P X tg g) (hb : DSs P X body f)
    (hs : ∀ x, foldedSetIterable iter X.env x = pure x := by intro _; rfl) : DS P X (.For tg iter body [] pos) (sFor it g f) := by
  refine ps_of (ps_for hp hc hi hg hb hs) fun D σ H ⟨env, env', fp, o, s, nd, hf, q⟩ => ?_
  obtain ⟨⟨ds, en⟩, e1, e2⟩ := Option.bind_eq_some_iff.mp hf
  refine ⟨env, en, fp, ds, s, nd, e1, fun J H1 fp1 ev1 s1 n1 yl => ?_⟩
  refine ⟨fun i m σ' H' => m = ds.length - i ∧ i ≤ ds.length ∧ ImmExt H1 H' ∧ ∃ env2 fp2, SR X.K H' env2 σ' fp2 ∧ fp2.Nodup ∧ forL g f (ds.drop i) env2 = some (o, env') ∧ SQ X.K P σ' H' fp2 env' D o, ⟨ds.length, by omega, Nat.zero_le _, ImmExt.refl H1, en, fp1, s1, n1, by rw [List.drop_zero]; exact e2, q.via ev1 (Pin.refl σ)⟩, ?_⟩
  rintro i m σ2 H2 ⟨rfl, hi, im, env2, fp2, s2, n2, e3, q2⟩
  have y2 := yl H2 im
  by_cases hlt : i < ds.length
  · refine .inr ?_
    have ed : ds[i]? = some ds[i] := List.getElem?_eq_getElem hlt
    obtain ⟨go, yi⟩ := y2.1 i _ ed
    refine ⟨go, fun σ' H' => i + 1 ≤ ds.length ∧ ImmExt H1 H' ∧ ∃ env2 fp2, SR X.K H' env2 σ' fp2 ∧ fp2.Nodup ∧ forL g f (ds.drop (i + 1)) env2 = some (o, env') ∧ SQ X.K P σ' H' fp2 env' D o, fun σ' H' z => ⟨ds.length - (i + 1), by omega, rfl, z⟩, fun x H3 hy => ?_⟩
    obtain ⟨sm, rx⟩ := yi x H3 hy
    rw [List.drop_eq_getElem_cons hlt] at e3
    unfold forL at e3
    obtain ⟨en4, e4, e3⟩ := Option.bind_eq_some_iff.mp e3
    obtain ⟨⟨o5, en5⟩, e5, e3⟩ := Option.bind_eq_some_iff.mp e3
    have ev3 : Evo fp2 H2 fp2 H3 := Evo.of_same (fr := []) sm fun a z => (nomatch z)
    refine ⟨ds[i], env2, en4, fp2, [], s2.same sm, rx.ro, n2, e4, fun σ4 H4 fp4 ev4 s4 n4 p4 => ?_⟩
    have ev4 : Evo fp2 H3 fp4 H4 := ev4
    have q4 := q2.via (ev3.trans ev4) p4
    refine ⟨en4, en5, fp4, o5, s4, n4, e5, ?_⟩
    cases o5 with
    | nx => exact fun σ6 H6 fp6 ev6 s6 n6 p6 => ⟨hlt, ((im.trans ev3.imm).trans ev4.imm).trans ev6.imm, en5, fp6, s6, n6, e3, q4.via ev6 p6⟩
    | ct => exact fun σ6 H6 fp6 ev6 s6 n6 p6 => ⟨hlt, ((im.trans ev3.imm).trans ev4.imm).trans ev6.imm, en5, fp6, s6, n6, e3, q4.via ev6 p6⟩
    | bk => cases e3; exact q4
    | rt d => cases e3; exact q4
  · have e : i = ds.length := by omega
    subst e
    rw [List.drop_length] at e3
    cases e3
    exact .inl ⟨y2.2, q2 σ2 H2 fp2 (Evo.refl _ _) s2 n2 (Pin.refl _)⟩
/-- while, at most so many turns -/
def whL (c : TSm) (body : SSm) : Nat → Env → Option (Out × Env)
  | 0, _ => none
  | n + 1, env => (c env).bind fun b => if b.1 = true then (body b.2).bind fun r => match r.1 with
      | .nx => whL c body n r.2
      | .ct => whL c body n r.2
      | .bk => some (.nx, r.2)
      | .rt v => some (.rt v, r.2)
    else some (.nx, b.2)
def sWhile (n : Nat) (c : TSm) (body : SSm) : SSm := whL c body n
theorem ds_while {c : Expr} {body : List Stmt} {t : TSm} {f : SSm} (n : Nat) (hp : PassesOwn (model X.prog X.w) X.A X.env X.xe) (hc : DT X c t) (hb : DSs P X body f) : DS P X (.While c body [] pos) (sWhile n t f) := by
  refine ps_of (ps_while hp hc.pt hb) fun D σ H ⟨env, env', fp, o, s, nd, hf, q⟩ => ?_
  refine ⟨fun m σ' H' => ∃ env2 fp2, SR X.K H' env2 σ' fp2 ∧ fp2.Nodup ∧ whL t f m env2 = some (o, env') ∧ SQ X.K P σ' H' fp2 env' D o, ⟨n, env, fp, s, nd, hf, q⟩, ?_⟩
  rintro m σ2 H2 ⟨env2, fp2, s2, n2, e3, q2⟩
  cases m with
  | zero => cases e3
  | succ m =>
    unfold whL at e3
    obtain ⟨⟨k, en⟩, e4, e5⟩ := Option.bind_eq_some_iff.mp e3
    refine ⟨env2, en, fp2, k, s2, n2, e4, fun H3 fp3 ev3 s3 n3 => ?_⟩
    have q3 := q2.via ev3 (Pin.refl σ2)
    cases k with
    | false =>
      rw [if_neg Bool.false_ne_true] at e5
      cases e5
      refine iteF ?_
      exact q3 σ2 H3 fp3 (Evo.refl _ _) s3 n3 (Pin.refl _)
    | true =>
      rw [if_pos rfl] at e5
      refine iteT ?_
      obtain ⟨⟨o6, en6⟩, e6, e7⟩ := Option.bind_eq_some_iff.mp e5
      refine ⟨fun σ' H' => ∃ env2 fp2, SR X.K H' env2 σ' fp2 ∧ fp2.Nodup ∧ whL t f m env2 = some (o, env') ∧ SQ X.K P σ' H' fp2 env' D o, fun σ' H' z => ⟨m, Nat.lt_succ_self m, z⟩, en, en6, fp3, o6, s3, n3, e6, ?_⟩
      cases o6 with
      | nx => exact fun σ7 H7 fp7 ev7 s7 n7 p7 => ⟨en6, fp7, s7, n7, e7, q3.via ev7 p7⟩
      | ct => exact fun σ7 H7 fp7 ev7 s7 n7 p7 => ⟨en6, fp7, s7, n7, e7, q3.via ev7 p7⟩
      | bk => cases e7; exact q3
      | rt d => cases e7; exact q3
end
end DL

set_option maxHeartbeats 1000000
/-! DL, part g: what is walked -/
namespace PySem
open AutoSeq1 (wpAny_loadPart')
set_option maxHeartbeats 1000000 in
/-- enumerate(v) for any v whose iterator is told -/
theorem dl_enum_new {v : Value} {o : Obj} {H : Heap → Prop} (B : Begins v o H) : Meets (Builtin.«enumerate.__new__» ⟨[.type "enumerate", v], []⟩) (fun _ R s => H s.heap ∧
    R (.ok (.ret (.ref (s.heap.push o).objs.size))) { s with heap := (s.heap.push o).push { cls := .type "enumerate", data := .fields #[.none, .bool false, .ref s.heap.objs.size, rawInt 0, .none, .none] } }) :=
  .of_wp fun prog w A R s h => by
    obtain ⟨hp, g, d, tk, os⟩ := s
    obtain ⟨h1, hR⟩ := h
    have hsub := sub_enumerate
    have step : ∀ {A' : Around} {E : Value → Shared → Prop} {Q : Value → Shared → Prop}, Q (.ref hp.objs.size) ⟨hp.push o, g, d, tk, os⟩ → wpAny (model prog w) A' (pyIter v) Q E ⟨hp, g, d, tk, os⟩ := fun q => B.iter prog w _ _ _ _ h1 q
    wp_walk using step
    refine wpAny_stack_any (fun stk => wpAny_pure ?_)
    split
    · rename_i c _ _ _ _ _
      cases (c == Value.type "enumerate")
      · wp_walk using step
        exact ⟨_, rfl, hR⟩
      · wp_walk using step
        exact ⟨_, rfl, hR⟩
    · wp_walk using step
      exact ⟨_, rfl, hR⟩
theorem dl_call_enum {prog : Program} {w : World} {A : Around} {E : Value → Shared → Prop} {s : Shared} {v : Value} {o : Obj} {H : Heap → Prop} {Q : Value → Shared → Prop} (B : Begins v o H) (h1 : H s.heap)
    (h : ∀ h', IsEnum h' (s.heap.objs.size + 1) s.heap.objs.size 0 .none → h'.get? s.heap.objs.size = some o → (∀ b ob, s.heap.get? b = some ob → h'.get? b = some ob) → Q (.ref (s.heap.objs.size + 1)) { s with heap := h' }) :
    wpAny (model prog w) A (call (.type "enumerate") [v]) Q E s := by
  refine callType_new F.called_enumerate (by decide) (F.typeCall_enumerate_1 _) (F.newCall_enumerate_1 _) (fun ob => F.args_object_init_2 ob _) F.entry_enumerate_new (dl_enum_new B) ⟨h1, ?_⟩
  have hz : (s.heap.push o).objs.size = s.heap.objs.size + 1 := Heap.size_push ..
  show _ ∧ _
  rw [hz]
  have he : IsEnum ((s.heap.push o).push { cls := .type "enumerate", data := .fields #[.none, .bool false, .ref s.heap.objs.size, rawInt 0, .none, .none] }) (s.heap.objs.size + 1) s.heap.objs.size 0 .none := by
    have z := Heap.get?_push_size (s.heap.push o) (o := { cls := .type "enumerate", data := .fields #[.none, .bool false, .ref s.heap.objs.size, rawInt 0, .none, .none] }) rfl
    rw [hz] at z
    exact z
  exact ⟨⟨_, he, rfl⟩, h _ he (Heap.get?_push_of_some _ (Heap.get?_push_size _ B.free)) fun b ob x => Heap.get?_push_of_some _ (Heap.get?_push_of_some _ x)⟩
end PySem
namespace DL
open PySem L2 PyProof.Rows RT RZ

section
variable {X : Cx} {tg : Expr}
/-- the tuple at a, each item in a new pair -/
def IteT (K : PySem.W.Frag) (a : Addr) : It :=
  ⟨fun i H => ∃ (xs : List V) (x : V), SqT K H a xs ∧ xs[i]? = some x, fun i H v H' => ∃ T x, v = .ref T ∧ H T = none ∧ H' = upd H T (.tup [.int (i : Nat), x]) ∧ ∀ xs, SqT K H a xs → xs[i]? = some x, fun i H => ∃ xs : List V, SqT K H a xs ∧ xs.length = i⟩
theorem turn_enumT {P : Program} {w : World} {K : PySem.W.Frag} {elts : List Expr} {kk : Nat} {tpos : Pos} (a e it : Addr) (hai : a ≠ it) (hae : a ≠ e) :
    Turn P w K (.Tuple elts kk tpos) (IteT K a) [e, it] e (fun i h => (∃ old, IsEnum h e it ((i : Nat) : Int) old) ∧ h.IsTupleIter it a i ∧ e ≠ it) where
  mem := List.mem_cons_self
  obj := fun i h ⟨⟨old, he⟩, ⟨o, ho, hc, hd⟩, _⟩ b hb => by
    rcases List.mem_cons.mp hb with rfl | hb
    · exact ⟨_, he, fun v q => (nomatch q)⟩
    · rcases List.mem_cons.mp hb with rfl | hb
      · exact ⟨o, ho, fun v q => by rw [hd] at q; cases q⟩
      · cases hb
  keep := fun i h h' ⟨⟨old, he⟩, hi, hne⟩ k => ⟨⟨old, k e List.mem_cons_self _ he⟩, hi.at fun o q => k it (List.mem_cons_of_mem _ List.mem_cons_self) o q, hne⟩
  item := by
    intro X hP hw hK hc i pins s σ H E I hf st hg
    subst hP hw hK
    obtain ⟨⟨old, he⟩, hit, hne⟩ := st
    obtain ⟨xs, x, hq, hx⟩ := hg
    obtain ⟨its, rv, ht, hz⟩ := I.tuple hq
    obtain ⟨u, hu, ru⟩ := rv.get hx
    have hel : e < s.heap.objs.size := Heap.lt_size he
    have hil : it < s.heap.objs.size := by obtain ⟨_, q, _⟩ := hit; exact Heap.lt_size q
    have hh : X.A.in1.handled = none := I.ok.hd hc
    have Dr := Draws.tuple (prog := X.prog) (w := X.w) hh it a hai its.toArray
    have hlt : i < its.toArray.size := by
      rw [List.size_toArray]
      exact (List.getElem?_eq_some_iff.mp hu).1
    refine wpAny_pyNext_enum_itemD (i := i) Dr he ⟨hit, ht⟩ hlt hne (by
      intro m
      rcases List.mem_cons.mp m with m | m
      · exact hne m
      · exact hae (List.mem_singleton.mp m).symm) fun z h' tk hz' ho st' hT hsz hk => ?_
    have ez : z = u := by
      have h2 : its.toArray[i]? = some u := by simpa using hu
      exact Option.some.inj (hz'.symm.trans h2)
    subst ez
    refine ⟨_, rfl, wpAny_letOwnedTupleGo_enum (s := { s with heap := h', toks := tk + 1 }) ho fun h2 he2 sb => ?_⟩
    have hT2 : h2.get? s.heap.objs.size = some { cls := .type "tuple", data := .seq #[.int i tk, z] } := (sb.2 _ (Nat.ne_of_gt hel)).trans hT
    have kp : ∀ b ob, b ∉ [e, it] → s.heap.get? b = some ob → h2.get? b = some ob := fun b ob hb q => by
      have n1 : b ≠ e := fun z => hb (by rw [z]; exact List.mem_cons_self)
      have n2 : b ≠ it := fun z => hb (by rw [z]; exact List.mem_cons_of_mem _ List.mem_cons_self)
      exact (sb.2 b n1).trans (hk b ob n1 n2 q)
    have I1 : Inv X pins σ (upd H s.heap.objs.size (.tup [.int (i : Nat), x])) { s with heap := h2, toks := tk + 1 } :=
      I.turnedNew (ch := [e, it]) kp hf (Nat.le_refl _) ⟨(by rw [sizeLine_eq]; exact (by decide : 2 ≤ 16777216)), [.int i tk, z], .cons ⟨_, rfl⟩ (.cons ru .nil), ⟨_, hT2, rfl, _, rfl⟩⟩
    refine ⟨.ref s.heap.objs.size, _, I1, rfl, ⟨_, x, rfl, I.fresh, rfl, fun ys hy => by rw [I.tuple_inj hy hq]; exact hx⟩, ⟨⟨z, ?_⟩, st'.1.at fun o q => (sb.2 it (Ne.symm hne)).trans q, hne⟩, fun b hb => ?_⟩
    · have e1 : ((i + 1 : Nat) : Int) = (i : Int) + 1 := by omega
      rw [e1]
      exact he2
    · have hb' : b < s.heap.objs.size := by
        rcases List.mem_cons.mp hb with rfl | hb2
        · exact hel
        · rw [List.mem_singleton.mp hb2]; exact hil
      rw [upd_ne (Nat.ne_of_lt hb')]
      exact (hf b hb).1
  done := by
    intro X hP hw hK hc i pins s σ H E I hf st hg
    subst hP hw hK
    obtain ⟨⟨old, he⟩, hit, hne⟩ := st
    obtain ⟨xs, hq, hx⟩ := hg
    obtain ⟨its, rv, ht, hz⟩ := I.tuple hq
    have hh : X.A.in1.handled = none := I.ok.hd hc
    obtain ⟨f0, f1, f2, f3, f4, f5⟩ := hf it (List.mem_cons_of_mem _ List.mem_cons_self)
    have hl := rv.length
    have fin : ∀ h' : Heap, Heap.ExtBut it s.heap h' → (none : Option Value) = none ∧ Inv X pins σ H { s with heap := h' } := fun h' eb => ⟨rfl, I.turned (t' := s.toks) (fun b o hb q => eb b o hb q) f0 f1 f3 f4 f5⟩
    have Dr := Draws.tuple (prog := X.prog) (w := X.w) hh it a hai its.toArray
    have e0 : i = its.toArray.size := by rw [List.size_toArray]; omega
    exact wpAny_pyNext_enum_endD Dr he (by rw [← e0]; exact ⟨hit, ht⟩) fin
  self := fun A i s Q E ⟨⟨_, he⟩, _⟩ h => wpAny_pyIter_enum he h
theorem pi_enumT {e : Expr} {ta : TA} {p pos tpos : Pos} {elts : List Expr} {kk : Nat} (hg : Gl X "enumerate") (hm : X.mg "enumerate" = none) (ha : PA X [e] ta) (hs : starEach [e] X.env = [(false, eval e X.env)] := by rfl) :
    PI X (.Tuple elts kk tpos) (.Call (.Name "enumerate" p) [e] [] pos) (fun σ H R => ta σ H fun vs H1 => ∃ a xs, vs = [.ref a] ∧ SqT X.K H1 a xs ∧ R (IteT X.K a) H1) := by
  refine ⟨fun pins s σ H R I h => ?_⟩
  refine Call_ (ld_blt I hg hm PyProof.Rows.boot_enumerate (PyProof.Rows.callWith_type1 (thn (ha.run pos pins s σ H _ I h) fun us s1 ⟨vs, H1, I1, r1, a, xs, ex, hq, q⟩ => ?_) hs rfl))
  subst ex
  rw [Vals.ref1 r1]
  obtain ⟨its, rv, ht, hz⟩ := I1.tuple hq
  have hlt : a < s1.heap.objs.size := by obtain ⟨o, ho, _⟩ := id ht; exact Heap.lt_size ho
  refine dl_call_enum (begins_tuple a its.toArray) ht fun h' he hit hk => wpAny_pyIter_enum he ?_
  have I2 : Inv X pins σ H1 { s1 with heap := h' } := I1.kept (t' := s1.toks) hk
  refine ⟨s1.heap.objs.size + 1, [s1.heap.objs.size + 1, s1.heap.objs.size], _, _, H1, rfl, I2, turn_enumT a (s1.heap.objs.size + 1) s1.heap.objs.size (Nat.ne_of_lt hlt) (Nat.ne_of_lt (Nat.lt_succ_of_lt hlt)), ⟨⟨.none, he⟩, ⟨_, hit, rfl, rfl⟩, Nat.succ_ne_self _⟩, fun b hb => ?_, q⟩
  have hle : s1.heap.objs.size ≤ b := by
    rcases List.mem_cons.mp hb with rfl | hb2
    · exact Nat.le_succ _
    · rw [List.mem_singleton.mp hb2]; exact Nat.le_refl _
  exact I1.fpOk hle (I1.hok.fresh hle)
theorem PI.or {e : Expr} {t u : TI} (h : PI X tg e t) (h' : PI X tg e u) : PI X tg e (fun σ H R => t σ H R ∨ u σ H R) := ⟨fun pins s σ H R I q => q.elim (h.run pins s σ H R I) (h'.run pins s σ H R I)⟩

/-! ### what comes out of an iterator over data that never change -/
variable {K : PySem.W.Frag} {H : Hp} {a : Addr} {xs : List V} {ds : List D}
theorem RIs.at {i : Nat} {d : D} (h : RIs K H ds xs) (e : ds[i]? = some d) : ∃ x, xs[i]? = some x ∧ RI K H d x := h.get e
theorem SqT.ext {H1 : Hp} (e : ImmExt H H1) (h : H a = some (.tup xs)) : SqT K H1 a xs := SqT.of (e.1 _ _ h)
theorem FzL.ext {H1 : Hp} (e : ImmExt H H1) (h : FzL K H a xs) : SqL K H1 a xs := (h.mono e).sq
theorem RIs.none_of {i : Nat} (h : RIs K H ds xs) (e : ds[i]? = none) : xs[i]? = none := by
  rw [List.getElem?_eq_none_iff] at e ⊢
  rw [h.length]; exact e
theorem yl_tup (h : H a = some (.tup xs)) (r : RIs K H ds xs) : Yields K (Itt K a) ds H := fun H1 e => by
  refine ⟨fun i d hd => ?_, xs, SqT.ext e h, by rw [r.length]; exact Nat.le_refl _⟩
  obtain ⟨x, hx, rx⟩ := r.get hd
  refine ⟨⟨xs, x, SqT.ext e h, hx⟩, fun y H2 ⟨e2, hy⟩ => ?_⟩
  subst e2
  have := hy xs (SqT.ext e h)
  rw [hx] at this; cases this
  exact ⟨Same.refl _, RI.mono e d x rx⟩
theorem yl_lst (h : FzL K H a xs) (r : RIs K H ds xs) : Yields K (Itl K a) ds H := fun H1 e => by
  refine ⟨fun i d hd => ?_, xs, FzL.ext e h, by rw [r.length]; exact Nat.le_refl _⟩
  obtain ⟨x, hx, rx⟩ := r.get hd
  refine ⟨⟨xs, x, FzL.ext e h, hx⟩, fun y H2 ⟨e2, hy⟩ => ?_⟩
  subst e2
  have := hy xs (FzL.ext e h)
  rw [hx] at this; cases this
  exact ⟨Same.refl _, RI.mono e d x rx⟩
def strD (s : Str) : List D := s.cps.toList.map fun c => .str ⟨#[c]⟩
theorem yl_str (s : Str) : Yields K (Its s) (strD s) H := fun H1 e => by
  refine ⟨fun i d hd => ?_, ?_⟩
  · unfold strD at hd
    rw [List.getElem?_map] at hd
    obtain ⟨c, hc, rfl⟩ := Option.map_eq_some_iff.mp hd
    rw [Array.getElem?_toList] at hc
    refine ⟨(Array.getElem?_eq_some_iff.mp hc).1, fun y H2 ⟨e2, c', hc', hy⟩ => ?_⟩
    subst e2
    rw [hc] at hc'; cases hc'
    exact ⟨Same.refl _, hy⟩
  · show s.cps.size ≤ (strD s).length
    unfold strD
    rw [List.length_map, Array.length_toList]; exact Nat.le_refl _
def kOf : Key → D
  | .inl i => .int i
  | .inr s => .str s
theorem kOf_ri (k : Key) : RI K H (kOf k) (kV k) := by cases k <;> exact rfl
theorem kOfs_ri : ∀ ks : List Key, RIs K H (ks.map kOf) (ks.map kV)
  | [] => rfl
  | k :: ks => ⟨_, _, rfl, kOf_ri k, kOfs_ri ks⟩
variable {o : Obj} {ks : List Key} {ts : List (List Key)}
theorem zip_at {α β : Type} {as : List α} {bs : List β} (h : as.length = bs.length) {i : Nat} {a : α} (e : as[i]? = some a) : ∃ b, bs[i]? = some b ∧ (as.zip bs)[i]? = some (a, b) := by
  have hi := (List.getElem?_eq_some_iff.mp e).1
  refine ⟨bs[i]'(h ▸ hi), List.getElem?_eq_getElem (h ▸ hi), ?_⟩
  rw [List.getElem?_zip_eq_some]
  exact ⟨e, List.getElem?_eq_getElem (h ▸ hi)⟩
theorem yl_keysK (h : H a = some (.frz o (.dK (ks.zip xs)))) (hl : ks.length = xs.length) : Yields K (Itk a o (ks.zip xs)) (ks.map kOf) H := fun H1 e => by
  have h1 := e.2 _ _ _ h
  have hz : (ks.zip xs).length = ks.length := by rw [List.length_zip, ← hl, Nat.min_self]
  refine ⟨fun i d hd => ?_, h1, by rw [List.length_map, hz]; exact Nat.le_refl _⟩
  rw [List.getElem?_map] at hd
  obtain ⟨k, hk, rfl⟩ := Option.map_eq_some_iff.mp hd
  refine ⟨⟨h1, by rw [hz]; exact (List.getElem?_eq_some_iff.mp hk).1⟩, fun y H2 ⟨e2, k', v, hk', hy⟩ => ?_⟩
  subst e2
  rw [List.getElem?_zip_eq_some] at hk'
  rw [hk] at hk'
  obtain ⟨hk1, _⟩ := hk'
  cases hk1
  rw [hy]
  exact ⟨Same.refl _, kOf_ri _⟩
theorem yl_keysT (h : H a = some (.frz o (.dT (ts.zip xs)))) (hl : ts.length = xs.length) : Yields K (Itkt a o (ts.zip xs)) (ts.map fun k => .tup (k.map kOf)) H := fun H1 e => by
  have h1 := e.2 _ _ _ h
  have hz : (ts.zip xs).length = ts.length := by rw [List.length_zip, ← hl, Nat.min_self]
  refine ⟨fun i d hd => ?_, h1, by rw [List.length_map, hz]; exact Nat.le_refl _⟩
  rw [List.getElem?_map] at hd
  obtain ⟨k, hk, rfl⟩ := Option.map_eq_some_iff.mp hd
  refine ⟨⟨h1, by rw [hz]; exact (List.getElem?_eq_some_iff.mp hk).1⟩, fun y H2 ⟨e2, k', v, q, hk', hy, hq⟩ => ?_⟩
  subst e2
  rw [List.getElem?_zip_eq_some] at hk'
  rw [hk] at hk'
  obtain ⟨hk1, _⟩ := hk'
  cases hk1
  exact ⟨Same.refl _, q, _, hy, hq, kOfs_ri _⟩
def itemD (ks : List Key) (ds : List D) : List D := List.zipWith (fun k d => .tup [kOf k, d]) ks ds
theorem pair_ri {H1 : Hp} {T : Addr} {d e : D} {x y : V} (hT : H1 T = none) (r : RI K H1 d x) (r' : RI K H1 e y) : RI K (upd H1 T (.tup [x, y])) (.tup [d, e]) (.ref T) := by
  have im := ImmExt.of_same (same_new (o := .tup [x, y]) hT)
  exact ⟨T, _, rfl, upd_same, x, [y], rfl, RI.mono im d x r, y, [], rfl, RI.mono im e y r', rfl⟩
theorem yl_items (h : H a = some (.frz o (.dK (ks.zip xs)))) (hl : ks.length = xs.length) (r : RIs K H ds xs) : Yields K (Iti a o (ks.zip xs)) (itemD ks ds) H := fun H1 e => by
  have h1 := e.2 _ _ _ h
  have hz : (ks.zip xs).length = ks.length := by rw [List.length_zip, ← hl, Nat.min_self]
  have hd' : ks.length = ds.length := by rw [hl, r.length]
  refine ⟨fun i d hd => ?_, h1, by unfold itemD; rw [List.length_zipWith, hz, ← hd', Nat.min_self]; exact Nat.le_refl _⟩
  unfold itemD at hd
  rw [List.getElem?_zipWith] at hd
  cases hk : ks[i]? with
  | none => rw [hk] at hd; cases hd
  | some k =>
    cases hv : ds[i]? with
    | none => rw [hk, hv] at hd; cases hd
    | some dv =>
      rw [hk, hv] at hd
      cases hd
      obtain ⟨x, hx, rx⟩ := r.get hv
      refine ⟨⟨h1, by rw [hz]; exact (List.getElem?_eq_some_iff.mp hk).1⟩, fun y H2 ⟨T, k', v, hk', hy, hT, e2⟩ => ?_⟩
      rw [List.getElem?_zip_eq_some] at hk'
      rw [hk, hx] at hk'
      obtain ⟨hk1, hk2⟩ := hk'
      cases hk1
      cases hk2
      subst e2 hy
      exact ⟨same_new hT, pair_ri hT (kOf_ri _) (RI.mono e _ _ rx)⟩
theorem yl_vals (h : H a = some (.frz o (.dK (ks.zip xs)))) (hl : ks.length = xs.length) (r : RIs K H ds xs) : Yields K (Itd a o (ks.zip xs)) ds H := fun H1 e => by
  have h1 := e.2 _ _ _ h
  have hz : (ks.zip xs).length = ks.length := by rw [List.length_zip, ← hl, Nat.min_self]
  have hd' : ks.length = ds.length := by rw [hl, r.length]
  refine ⟨fun i d hd => ?_, h1, by rw [hz, hd']; exact Nat.le_refl _⟩
  obtain ⟨x, hx, rx⟩ := r.get hd
  refine ⟨⟨h1, by rw [hz, hd']; exact (List.getElem?_eq_some_iff.mp hd).1⟩, fun y H2 ⟨e2, k', hk'⟩ => ?_⟩
  subst e2
  rw [List.getElem?_zip_eq_some, hx] at hk'
  obtain ⟨_, hk2⟩ := hk'
  cases hk2
  exact ⟨Same.refl _, RI.mono e _ _ rx⟩
def rngD (lo : Int) (n : Nat) : List D := (List.range n).map fun i => .int (lo + (i : Nat))
theorem yl_rng (lo : Int) (n : Nat) : Yields K (Itr lo n) (rngD lo n) H := fun H1 e => by
  refine ⟨fun i d hd => ?_, by show n ≤ (rngD lo n).length; unfold rngD; rw [List.length_map, List.length_range]; exact Nat.le_refl _⟩
  unfold rngD at hd
  rw [List.getElem?_map] at hd
  obtain ⟨j, hj, rfl⟩ := Option.map_eq_some_iff.mp hd
  obtain ⟨hlt, hj⟩ := List.getElem?_eq_some_iff.mp hj
  rw [List.getElem_range] at hj
  rw [List.length_range] at hlt
  subst hj
  exact ⟨hlt, fun y H2 ⟨e2, hy⟩ => ⟨by rw [e2]; exact Same.refl _, hy⟩⟩
def rngC (lo c : Int) (n : Nat) : List D := (List.range n).map fun i => .int (lo + (i : Nat) * c)
theorem yl_rngC (lo c : Int) (n : Nat) : Yields K (Itc lo c n) (rngC lo c n) H := fun H1 e => by
  refine ⟨fun i d hd => ?_, by show n ≤ (rngC lo c n).length; unfold rngC; rw [List.length_map, List.length_range]; exact Nat.le_refl _⟩
  unfold rngC at hd
  rw [List.getElem?_map] at hd
  obtain ⟨j, hj, rfl⟩ := Option.map_eq_some_iff.mp hd
  obtain ⟨hlt, hj⟩ := List.getElem?_eq_some_iff.mp hj
  rw [List.getElem_range] at hj
  rw [List.length_range] at hlt
  subst hj
  exact ⟨hlt, fun y H2 ⟨e2, hy⟩ => ⟨by rw [e2]; exact Same.refl _, hy⟩⟩
def enumD (ds : List D) : List D := ds.mapIdx fun i d => .tup [.int (i : Nat), d]
theorem enum_at {i : Nat} {d : D} (h : (enumD ds)[i]? = some d) : ∃ e, ds[i]? = some e ∧ d = .tup [.int (i : Nat), e] := by
  unfold enumD at h
  rw [List.getElem?_mapIdx] at h
  obtain ⟨e, h1, h2⟩ := Option.map_eq_some_iff.mp h
  exact ⟨e, h1, h2.symm⟩
theorem enum_len : (enumD ds).length = ds.length := List.length_mapIdx
theorem yl_enumL (h : FzL K H a xs) (r : RIs K H ds xs) : Yields K (Ite K a) (enumD ds) H := fun H1 e => by
  refine ⟨fun i d hd => ?_, xs, FzL.ext e h, by rw [r.length, enum_len]; exact Nat.le_refl _⟩
  obtain ⟨d', hd', rfl⟩ := enum_at hd
  obtain ⟨x, hx, rx⟩ := r.get hd'
  refine ⟨⟨xs, x, FzL.ext e h, hx⟩, fun y H2 ⟨T, x', hy, hT, e2, hx'⟩ => ?_⟩
  have := hx' xs (FzL.ext e h)
  rw [hx] at this; cases this
  subst e2 hy
  exact ⟨same_new hT, pair_ri hT rfl (RI.mono e d' x rx)⟩
theorem yl_enumT (h : H a = some (.tup xs)) (r : RIs K H ds xs) : Yields K (IteT K a) (enumD ds) H := fun H1 e => by
  refine ⟨fun i d hd => ?_, xs, SqT.ext e h, by rw [r.length, enum_len]⟩
  obtain ⟨d', hd', rfl⟩ := enum_at hd
  obtain ⟨x, hx, rx⟩ := r.get hd'
  refine ⟨⟨xs, x, SqT.ext e h, hx⟩, fun y H2 ⟨T, x', hy, hT, e2, hx'⟩ => ?_⟩
  have := hx' xs (SqT.ext e h)
  rw [hx] at this; cases this
  subst e2 hy
  exact ⟨same_new hT, pair_ri hT rfl (RI.mono e d' x rx)⟩
def zipD (ds es : List D) : List D := List.zipWith (fun d e => .tup [d, e]) ds es
theorem zip_two {es : List D} {i : Nat} {d : D} (h : (zipD ds es)[i]? = some d) : ∃ a b, ds[i]? = some a ∧ es[i]? = some b ∧ d = .tup [a, b] := by
  unfold zipD at h
  rw [List.getElem?_zipWith] at h
  cases h1 : ds[i]? with
  | none => rw [h1] at h; cases h
  | some a =>
    cases h2 : es[i]? with
    | none => rw [h1, h2] at h; cases h
    | some b => rw [h1, h2] at h; cases h; exact ⟨a, b, rfl, rfl, rfl⟩
theorem zip_len {es : List D} {ys : List V} (r : RIs K H ds xs) (r' : RIs K H es ys) : xs.length ≤ (zipD ds es).length ∨ ys.length ≤ (zipD ds es).length := by
  unfold zipD
  rw [List.length_zipWith, r.length, r'.length]
  omega
theorem yl_zipL {b : Addr} {es : List D} {ys : List V} (h : FzL K H a xs) (r : RIs K H ds xs) (h' : FzL K H b ys) (r' : RIs K H es ys) : Yields K (Itz K a b) (zipD ds es) H := fun H1 e => by
  refine ⟨fun i d hd => ?_, xs, ys, FzL.ext e h, FzL.ext e h', zip_len r r'⟩
  obtain ⟨d1, d2, h1, h2, rfl⟩ := zip_two hd
  obtain ⟨x, hx, rx⟩ := r.get h1
  obtain ⟨y, hy, ry⟩ := r'.get h2
  refine ⟨⟨xs, ys, x, y, FzL.ext e h, FzL.ext e h', hx, hy⟩, fun v H2 ⟨T, x', y', hv, hT, e2, hx', hy'⟩ => ?_⟩
  have q1 := hx' xs (FzL.ext e h)
  have q2 := hy' ys (FzL.ext e h')
  rw [hx] at q1; cases q1
  rw [hy] at q2; cases q2
  subst e2 hv
  exact ⟨same_new hT, pair_ri hT (RI.mono e d1 x rx) (RI.mono e d2 y ry)⟩
theorem yl_zipT {b : Addr} {es : List D} {ys : List V} (h : H a = some (.tup xs)) (r : RIs K H ds xs) (h' : H b = some (.tup ys)) (r' : RIs K H es ys) : Yields K (ItzT K a b) (zipD ds es) H := fun H1 e => by
  refine ⟨fun i d hd => ?_, xs, ys, SqT.ext e h, SqT.ext e h', zip_len r r'⟩
  obtain ⟨d1, d2, h1, h2, rfl⟩ := zip_two hd
  obtain ⟨x, hx, rx⟩ := r.get h1
  obtain ⟨y, hy, ry⟩ := r'.get h2
  refine ⟨⟨xs, ys, x, y, SqT.ext e h, SqT.ext e h', hx, hy⟩, fun v H2 ⟨T, x', y', hv, hT, e2, hx', hy'⟩ => ?_⟩
  have q1 := hx' xs (SqT.ext e h)
  have q2 := hy' ys (SqT.ext e h')
  rw [hx] at q1; cases q1
  rw [hy] at q2; cases q2
  subst e2 hv
  exact ⟨same_new hT, pair_ri hT (RI.mono e d1 x rx) (RI.mono e d2 y ry)⟩
theorem rev_at {α : Type} {l : List α} {i : Nat} (hi : i < l.length) : l.reverse[i]? = l[l.length - 1 - i]? := List.getElem?_reverse hi
theorem yl_revL (h : FzL K H a xs) (r : RIs K H ds xs) : Yields K (Itv K a xs.length) ds.reverse H := fun H1 e => by
  refine ⟨fun i d hd => ?_, ?_⟩
  · have hi : i < ds.length := by
      have := (List.getElem?_eq_some_iff.mp hd).1
      rwa [List.length_reverse] at this
    rw [rev_at hi] at hd
    obtain ⟨x, hx, rx⟩ := r.get hd
    rw [← r.length] at hx
    refine ⟨⟨by rw [r.length]; exact hi, xs, x, FzL.ext e h, hx⟩, fun y H2 ⟨e2, hy⟩ => ?_⟩
    subst e2
    have := hy xs (FzL.ext e h)
    rw [hx] at this; cases this
    exact ⟨Same.refl _, RI.mono e d x rx⟩
  · show xs.length ≤ ds.reverse.length
    rw [List.length_reverse, r.length]; exact Nat.le_refl _
theorem yl_revT (h : H a = some (.tup xs)) (r : RIs K H ds xs) : Yields K (ItvT K a xs.length) ds.reverse H := fun H1 e => by
  refine ⟨fun i d hd => ?_, ?_⟩
  · have hi : i < ds.length := by
      have := (List.getElem?_eq_some_iff.mp hd).1
      rwa [List.length_reverse] at this
    rw [rev_at hi] at hd
    obtain ⟨x, hx, rx⟩ := r.get hd
    rw [← r.length] at hx
    refine ⟨⟨by rw [r.length]; exact hi, xs, x, SqT.ext e h, hx⟩, fun y H2 ⟨e2, hy⟩ => ?_⟩
    subst e2
    have := hy xs (SqT.ext e h)
    rw [hx] at this; cases this
    exact ⟨Same.refl _, RI.mono e d x rx⟩
  · show xs.length ≤ ds.reverse.length
    rw [List.length_reverse, r.length]; exact Nat.le_refl _
end

/-! ### the rules -/
section
variable {X : Cx} {tg e : Expr} {p pos : Pos}
/-- the items of what is walked -/
def walkD : D → Option (List D)
  | .tup ds => some ds
  | .lst true ds => some ds
  | .scr ds => some ds
  | .str s => some (strD s)
  | .dcK true ks _ => some (ks.map kOf)
  | .dcT true ks _ => some (ks.map fun k => .tup (k.map kOf))
  | _ => none
def iSeq (f : ESm) : ISm := fun env => (f env).bind fun d => (walkD d.1).map fun ds => (ds, d.2)
theorem di_seq {f : ESm} (h : DE X e f) : DI X tg e (iSeq f) := by
  obtain ⟨t, p, h⟩ := h
  refine pi_of (PI.or (pi_list p) (PI.or (pi_tup p) (PI.or (pi_str p) (pi_keys p)))) fun σ H R ⟨env, env', fp, ds, s, nd, hf, q⟩ => ?_
  obtain ⟨⟨d, en⟩, e1, e2⟩ := Option.bind_eq_some_iff.mp hf
  obtain ⟨ds', e3, e4⟩ := Option.map_eq_some_iff.mp e2
  cases e4
  have fin : ∀ {v : V} {H' : Hp} {fr fp' : List Addr} {J : It}, Evo fp H (fr ++ fp') H' → SR X.K H' _ σ fp' → (fr ++ fp').Nodup → Yields X.K J ds H' → R J H' := fun {v H' fr fp' J} ev s' n y =>
    q J H' fp' (ev.sub fun a m => List.mem_append_right _ m) s' (List.nodup_append.mp n).2.1 y
  cases d with
  | tup es =>
    cases e3
    refine .inr (.inl (h σ H env _ fp _ s nd e1 _ fun v H' fr fp' ev s' r n => ?_))
    obtain ⟨_, a, xs, h1, h2, h3⟩ := r
    exact ⟨a, h1, ⟨xs, SqT.of h2⟩, fin (v := v) ev s' n (yl_tup h2 h3)⟩
  | lst fz es =>
    cases fz with
    | false => cases e3
    | true =>
      cases e3
      refine .inl (h σ H env _ fp _ s nd e1 _ fun v H' fr fp' ev s' r n => ?_)
      obtain ⟨_, _, a, o, xs, h1, h2, h3⟩ := r.imm rfl
      exact ⟨a, h1, ⟨xs, .inl (.inr ⟨o, h2⟩)⟩, fin (v := v) ev s' n (yl_lst (.inl ⟨o, h2⟩) h3)⟩
  | scr es =>
    cases e3
    refine .inl (h σ H env _ fp _ s nd e1 _ fun v H' fr fp' ev s' r n => ?_)
    obtain ⟨_, a, xs, h1, h2, h3⟩ := r
    exact ⟨a, h1, ⟨xs, h2.sq⟩, fin (v := v) ev s' n (yl_lst h2 h3)⟩
  | str z =>
    cases e3
    refine .inr (.inr (.inl (h σ H env _ fp _ s nd e1 _ fun v H' fr fp' ev s' r n => ?_)))
    exact ⟨z, r.2, fin (v := v) ev s' n (yl_str z)⟩
  | dcK fz ks es =>
    cases fz with
    | false => cases e3
    | true =>
      cases e3
      refine .inr (.inr (.inr (h σ H env _ fp _ s nd e1 _ fun v H' fr fp' ev s' r n => ?_)))
      obtain ⟨_, _, a, o, xs, h1, h2, h4, h3⟩ := r.imm rfl
      exact ⟨a, o, h1, .inl ⟨_, h2, fin (v := v) ev s' n (yl_keysK h2 h4)⟩⟩
  | dcT fz ks es =>
    cases fz with
    | false => cases e3
    | true =>
      cases e3
      refine .inr (.inr (.inr (h σ H env _ fp _ s nd e1 _ fun v H' fr fp' ev s' r n => ?_)))
      obtain ⟨_, _, a, o, xs, h1, h2, h4, h3⟩ := r.imm rfl
      exact ⟨a, o, h1, .inr ⟨_, h2, fin (v := v) ev s' n (yl_keysT h2 h4)⟩⟩
  | _ => cases e3
/-- range -/
def smallI (i : Int) : Prop := -4611686018427387904 ≤ i ∧ i < 4611686018427387904
instance (i : Int) : Decidable (smallI i) := inferInstanceAs (Decidable (_ ∧ _))
def iRange1 (f : ASm) : ISm := fun env => (f env).bind fun r => match r.1 with
  | [.int j] => if smallI j then some (rngD 0 j.toNat, r.2) else none
  | _ => none
def iRange2 (f : ASm) : ISm := fun env => (f env).bind fun r => match r.1 with
  | [.int i, .int j] => if smallI i ∧ smallI j then some (rngD i (j - i).toNat, r.2) else none
  | _ => none
theorem DA.pa {es : List Expr} {f : ASm} (h : DA X es f) : PA X es (fun σ H Q => ∃ env env' fp ds, SR X.K H env σ fp ∧ fp.Nodup ∧ f env = some (ds, env') ∧ AQ X.K σ H fp ds env' Q) := by
  obtain ⟨t, p, h⟩ := h
  exact ⟨fun pos pins s σ H Q I ⟨env, env', fp, ds, sr, nd, hf, q⟩ => p.run pos pins s σ H Q I (h σ H env env' fp ds sr nd hf Q q)⟩
theorem di_range1 {a : Expr} {f : ASm} (hg : Gl X "range") (hm : X.mg "range" = none) (ha : DA X [a] f) (hs : starEach [a] X.env = [(false, eval a X.env)] := by rfl) : DI X tg (.Call (.Name "range" p) [a] [] pos) (iRange1 f) := by
  refine pi_of (pi_range1 hg hm ha.pa hs) fun σ H R ⟨env, env', fp, ds, s, nd, hf, q⟩ => ?_
  obtain ⟨⟨ds', en⟩, e1, e2⟩ := Option.bind_eq_some_iff.mp hf
  refine ⟨env, en, fp, ds', s, nd, e1, fun vs H' fr fp' ev s' r n => ?_⟩
  simp only at e2
  split at e2
  · split at e2
    · rename_i j hz
      cases e2
      obtain ⟨v, rfl, _, rfl⟩ := r.one
      exact ⟨j, rfl, hz.1, hz.2, q _ H' fp' (ev.sub fun a m => List.mem_append_right _ m) s' (List.nodup_append.mp n).2.1 (yl_rng 0 _)⟩
    · cases e2
  · cases e2
theorem di_range2 {a b : Expr} {f : ASm} (hg : Gl X "range") (hm : X.mg "range" = none) (ha : DA X [a, b] f) (hs : starEach [a, b] X.env = [(false, eval a X.env), (false, eval b X.env)] := by rfl) (hs2 : starEach [b] X.env = [(false, eval b X.env)] := by rfl) :
    DI X tg (.Call (.Name "range" p) [a, b] [] pos) (iRange2 f) := by
  refine pi_of (pi_range2 hg hm ha.pa hs hs2) fun σ H R ⟨env, env', fp, ds, s, nd, hf, q⟩ => ?_
  obtain ⟨⟨ds', en⟩, e1, e2⟩ := Option.bind_eq_some_iff.mp hf
  refine ⟨env, en, fp, ds', s, nd, e1, fun vs H' fr fp' ev s' r n => ?_⟩
  simp only at e2
  split at e2
  · split at e2
    · rename_i i j hz
      cases e2
      obtain ⟨v, w, f1, f2, rfl, r1, r2⟩ := r.two
      refine ⟨i, j, by rw [r1.2, r2.2], ⟨hz.1.1, hz.1.2, hz.2.1, hz.2.2⟩, q _ H' fp' (ev.sub fun a m => List.mem_append_right _ m) s' (List.nodup_append.mp n).2.1 (yl_rng i _)⟩
    · cases e2
  · cases e2
/-- enumerate, zip, reversed of what never changes -/
def seqI : D → Option (List D)
  | .tup ds => some ds
  | .lst true ds => some ds
  | _ => none
theorem RO.seqI {K : PySem.W.Frag} {H : Hp} {d : D} {v : V} {fp : List Addr} {ds : List D} (h : RO K H d v fp) (e : seqI d = some ds) : ∃ a xs, v = .ref a ∧ RIs K H ds xs ∧ ((d = .tup ds ∧ H a = some (.tup xs)) ∨ (d = .lst true ds ∧ FzL K H a xs)) := by
  cases d with
  | tup es =>
    cases e
    obtain ⟨_, a, xs, h1, h2, h3⟩ := h
    exact ⟨a, xs, h1, h3, .inl ⟨rfl, h2⟩⟩
  | lst fz es =>
    cases fz with
    | false => cases e
    | true =>
      cases e
      obtain ⟨_, _, a, o, xs, h1, h2, h3⟩ := h.imm rfl
      exact ⟨a, xs, h1, h3, .inr ⟨rfl, .inl ⟨o, h2⟩⟩⟩
  | _ => cases e
def iEnumE (f : ASm) : ISm := fun env => (f env).bind fun r => match r.1 with
  | [d] => (seqI d).map fun ds => (enumD ds, r.2)
  | _ => none
theorem di_enum {a : Expr} {f : ASm} {elts : List Expr} {kk : Nat} {tpos : Pos} (hg : Gl X "enumerate") (hm : X.mg "enumerate" = none) (ha : DA X [a] f) (hs : starEach [a] X.env = [(false, eval a X.env)] := by rfl) :
    DI X (.Tuple elts kk tpos) (.Call (.Name "enumerate" p) [a] [] pos) (iEnumE f) := by
  refine pi_of (PI.or (pi_enum hg hm ha.pa hs) (pi_enumT hg hm ha.pa hs)) fun σ H R ⟨env, env', fp, ds, s, nd, hf, q⟩ => ?_
  obtain ⟨⟨ds', en⟩, e1, e2⟩ := Option.bind_eq_some_iff.mp hf
  simp only at e2
  split at e2
  case h_2 => cases e2
  rename_i d0
  obtain ⟨es, e3, e4⟩ := Option.map_eq_some_iff.mp e2
  cases e4
  cases d0 with
  | tup es' =>
    cases e3
    refine .inr ⟨env, _, fp, _, s, nd, e1, fun vs H' fr fp' ev s' r n => ?_⟩
    obtain ⟨v, rfl, rr⟩ := r.one
    obtain ⟨_, a, xs, h1, h2, h3⟩ := rr
    exact ⟨a, xs, by rw [h1], SqT.of h2, q _ H' fp' (ev.sub fun a m => List.mem_append_right _ m) s' (List.nodup_append.mp n).2.1 (yl_enumT h2 h3)⟩
  | lst fz es' =>
    cases fz with
    | false => cases e3
    | true =>
      cases e3
      refine .inl ⟨env, _, fp, _, s, nd, e1, fun vs H' fr fp' ev s' r n => ?_⟩
      obtain ⟨v, rfl, rr⟩ := r.one
      obtain ⟨_, _, a, o, xs, h1, h2, h3⟩ := rr.imm rfl
      exact ⟨a, xs, by rw [h1], .inl (.inr ⟨o, h2⟩), q _ H' fp' (ev.sub fun a m => List.mem_append_right _ m) s' (List.nodup_append.mp n).2.1 (yl_enumL (.inl ⟨o, h2⟩) h3)⟩
  | _ => cases e3
def iZipE (f : ASm) : ISm := fun env => (f env).bind fun r => match r.1 with
  | [.tup ds, .tup es] => some (zipD ds es, r.2)
  | [.lst true ds, .lst true es] => some (zipD ds es, r.2)
  | _ => none
theorem di_zip {a b : Expr} {f : ASm} {elts : List Expr} {kk : Nat} {tpos : Pos} (hg : Gl X "zip") (hm : X.mg "zip" = none) (ha : DA X [a, b] f)
    (hs : starEach [a, b] X.env = (false, eval a X.env) :: starEach [b] X.env := by rfl) (hpl : (backTo pos (starEach [b] X.env)).any (·.1) = false := by rfl) :
    DI X (.Tuple elts kk tpos) (.Call (.Name "zip" p) [a, b] [] pos) (iZipE f) := by
  refine pi_of (pi_zipA hg hm ha.pa hs hpl) fun σ H R ⟨env, env', fp, ds, s, nd, hf, q⟩ => ?_
  obtain ⟨⟨ds', en⟩, e1, e2⟩ := Option.bind_eq_some_iff.mp hf
  refine ⟨env, en, fp, ds', s, nd, e1, fun vs H' fr fp' ev s' r n => ?_⟩
  simp only at e2
  split at e2
  · cases e2
    obtain ⟨v, w, f1, f2, rfl, r1, r2⟩ := r.two
    obtain ⟨_, a, xs, h1, h2, h3⟩ := r1
    obtain ⟨_, b, ys, h4, h5, h6⟩ := r2
    exact ⟨a, b, xs, ys, by rw [h1, h4], .inr ⟨SqT.of h2, SqT.of h5, q _ H' fp' (ev.sub fun a m => List.mem_append_right _ m) s' (List.nodup_append.mp n).2.1 (yl_zipT h2 h3 h5 h6)⟩⟩
  · cases e2
    obtain ⟨v, w, f1, f2, rfl, r1, r2⟩ := r.two
    obtain ⟨_, _, a, o, xs, h1, h2, h3⟩ := r1.imm rfl
    obtain ⟨_, _, b, o', ys, h4, h5, h6⟩ := r2.imm rfl
    exact ⟨a, b, xs, ys, by rw [h1, h4], .inl ⟨.inl (.inr ⟨o, h2⟩), .inl (.inr ⟨o', h5⟩), q _ H' fp' (ev.sub fun a m => List.mem_append_right _ m) s' (List.nodup_append.mp n).2.1 (yl_zipL (.inl ⟨o, h2⟩) h3 (.inl ⟨o', h5⟩) h6)⟩⟩
  · cases e2
def iRevE (f : ESm) : ISm := fun env => (f env).bind fun r => (seqI r.1).map fun ds => (ds.reverse, r.2)
theorem di_rev {a : Expr} {f : ESm} (hg : Gl X "reversed") (hm : X.mg "reversed" = none) (ha : DE X a f) (hs : starEach [a] X.env = (false, eval a X.env) :: starEach [] X.env := by rfl) :
    DI X tg (.Call (.Name "reversed" p) [a] [] pos) (iRevE f) := by
  refine pi_of (pi_revA hg hm ha.pe hs) fun σ H R ⟨env, env', fp, ds, s, nd, hf, q⟩ => ?_
  obtain ⟨⟨d, en⟩, e1, e2⟩ := Option.bind_eq_some_iff.mp hf
  obtain ⟨es, e3, e4⟩ := Option.map_eq_some_iff.mp e2
  cases e4
  refine ⟨env, en, fp, d, s, nd, e1, fun v H' fr fp' ev s' r n => ?_⟩
  obtain ⟨a, xs, h1, h3, h⟩ := r.seqI e3
  have fin := fun J y => q J H' fp' (ev.sub fun a m => List.mem_append_right _ m) s' (List.nodup_append.mp n).2.1 y
  rcases h with ⟨_, h⟩ | ⟨_, h⟩
  · exact ⟨a, xs, h1, .inr ⟨SqT.of h, fin _ (yl_revT h h3)⟩⟩
  · exact ⟨a, xs, h1, .inl ⟨h.sq, fin _ (yl_revL h h3)⟩⟩
/-- d.items(), d.values() -/
def iItemsE (f : ESm) : ISm := fun env => (f env).bind fun r => match r.1 with
  | .dcK true ks ds => some (itemD ks ds, r.2)
  | _ => none
def iValsE (f : ESm) : ISm := fun env => (f env).bind fun r => match r.1 with
  | .dcK true ks ds => some (ds, r.2)
  | _ => none
theorem di_items {elts : List Expr} {kk : Nat} {tpos apos : Pos} {f : ESm} (h : DE X e f) (hbase : attributeBase e "items" X.env (eval e X.env) = eval e X.env := by rfl) (hline : (apos.endLine == pos.line) = true := by rfl) :
    DI X (.Tuple elts kk tpos) (.Call (.Attribute e "items" apos) [] [] pos) (iItemsE f) := by
  refine pi_of (pi_items h.pe hbase hline) fun σ H R ⟨env, env', fp, ds, s, nd, hf, q⟩ => ?_
  obtain ⟨⟨d, en⟩, e1, e2⟩ := Option.bind_eq_some_iff.mp hf
  refine ⟨env, en, fp, d, s, nd, e1, fun v H' fr fp' ev s' r n => ?_⟩
  simp only at e2
  split at e2
  · cases e2
    obtain ⟨_, _, a, o, xs, h1, h2, h4, h3⟩ := r.imm rfl
    exact ⟨a, o, _, h1, h2, q _ H' fp' (ev.sub fun a m => List.mem_append_right _ m) s' (List.nodup_append.mp n).2.1 (yl_items h2 h4 h3)⟩
  · cases e2
theorem di_values {apos : Pos} {f : ESm} (h : DE X e f) (hbase : attributeBase e "values" X.env (eval e X.env) = eval e X.env := by rfl) (hline : (apos.endLine == pos.line) = true := by rfl) :
    DI X tg (.Call (.Attribute e "values" apos) [] [] pos) (iValsE f) := by
  refine pi_of (pi_values h.pe hbase hline) fun σ H R ⟨env, env', fp, ds, s, nd, hf, q⟩ => ?_
  obtain ⟨⟨d, en⟩, e1, e2⟩ := Option.bind_eq_some_iff.mp hf
  refine ⟨env, en, fp, d, s, nd, e1, fun v H' fr fp' ev s' r n => ?_⟩
  simp only at e2
  split at e2
  · cases e2
    obtain ⟨_, _, a, o, xs, h1, h2, h4, h3⟩ := r.imm rfl
    exact ⟨a, o, _, h1, h2, q _ H' fp' (ev.sub fun a m => List.mem_append_right _ m) s' (List.nodup_append.mp n).2.1 (yl_vals h2 h4 h3)⟩
  · cases e2
end
end DL

set_option maxHeartbeats 1000000
/-! DL, part h: comprehensions -/
namespace DL
open PySem L2

def wipeE (env : Env) : List Nat → Env
  | [] => env
  | i :: r => (wipeE env r).set i none
section
variable {K : PySem.W.Frag} {H : Hp}
/-- slots of which nothing is known may hold anything -/
theorem SR.relax : ∀ {env : Env} {σ σ' : L2.St} {fp : List Addr}, SR K H env σ fp → σ'.length = σ.length → (∀ (i : Nat) (d : D), env[i]? = some (some d) → σ'[i]? = σ[i]?) → SR K H env σ' fp
  | [], σ, σ', _, h, hl, _ => ⟨List.eq_nil_of_length_eq_zero (by rw [hl, h.1]; rfl), h.2⟩
  | none :: env, _, σ', _, ⟨x, σ1, h1, h2⟩, hl, hs => by
    subst h1
    cases σ' with
    | nil => simp at hl
    | cons y r => exact ⟨y, r, rfl, h2.relax (by simpa using hl) fun i d e => by simpa using hs (i + 1) d (by simpa using e)⟩
  | some d0 :: env, _, σ', _, ⟨v, σ1, f, f', h1, h2, h3, h4⟩, hl, hs => by
    subst h1
    cases σ' with
    | nil => simp at hl
    | cons y r =>
      have e0 := hs 0 d0 rfl
      simp at e0
      subst e0
      exact ⟨v, r, f, f', rfl, h2, h3, h4.relax (by simpa using hl) fun i d e => by simpa using hs (i + 1) d (by simpa using e)⟩
theorem wipeE_len (env : Env) : ∀ vs, (wipeE env vs).length = env.length
  | [] => rfl
  | i :: r => by show ((wipeE env r).set i none).length = _; rw [List.length_set, wipeE_len env r]
theorem wipeE_some {env : Env} {i : Nat} {d : D} : ∀ {vs : List Nat}, (wipeE env vs)[i]? = some (some d) → i ∉ vs
  | [], _ => fun m => (nomatch m)
  | j :: r, h => fun m => by
    have h : ((wipeE env r).set j none)[i]? = some (some d) := h
    by_cases e : j = i
    · subst e
      rw [List.getElem?_set_self'] at h
      cases z : (wipeE env r)[j]? with
      | none => rw [z] at h; cases h
      | some o => rw [z] at h; cases h
    · rw [List.getElem?_set_ne e] at h
      rcases List.mem_cons.mp m with m | m
      · exact e m.symm
      · exact wipeE_some h m
theorem SR.none_at {env : Env} {σ : L2.St} {fp : List Addr} (h : SR K H env σ fp) (nd : fp.Nodup) (i : Nat) : ∃ fp', SR K H (env.set i none) σ fp' ∧ fp'.Nodup ∧ ∀ a ∈ fp', a ∈ fp := by
  by_cases hi : i < env.length
  · obtain ⟨pre, f, post, e, _, p⟩ := h.put hi
    refine ⟨pre ++ post, ?_, ?_, fun a m => ?_⟩
    · have hs : i < σ.length := by rw [h.length]; exact hi
      have z := p σ[i]
      rw [List.set_getElem_self] at z
      exact z
    · rw [e] at nd
      have n1 := List.nodup_append.mp nd
      have n2 := List.nodup_append.mp n1.2.1
      exact List.nodup_append.mpr ⟨n1.1, n2.2.1, fun a m b m' => n1.2.2 a m b (List.mem_append_right _ m')⟩
    · rw [e]
      rcases List.mem_append.mp m with m | m
      · exact List.mem_append_left _ m
      · exact List.mem_append_right _ (List.mem_append_right _ m)
  · rw [List.set_eq_of_length_le (by omega)]
    exact ⟨fp, h, nd, fun _ m => m⟩
theorem SR.wipe {env : Env} {σ : L2.St} {fp : List Addr} (h : SR K H env σ fp) (nd : fp.Nodup) : ∀ vs, ∃ fp', SR K H (wipeE env vs) σ fp' ∧ fp'.Nodup ∧ ∀ a ∈ fp', a ∈ fp
  | [] => ⟨fp, h, nd, fun _ m => m⟩
  | i :: r => by
    obtain ⟨f1, h1, n1, m1⟩ := h.wipe nd r
    obtain ⟨f2, h2, n2, m2⟩ := h1.none_at n1 i
    exact ⟨f2, h2, n2, fun a m => m1 a (m2 a m)⟩
theorem wipe_ext {σ σ' : L2.St} {vs : List Nat} (hl : σ'.length = σ.length) (h : ∀ i, i ∉ vs → σ'[i]? = σ[i]?) : wipe σ' vs = L2.wipe σ vs := by
  apply List.ext_getElem?
  intro i
  by_cases m : i ∈ vs
  · have z : ∀ (τ : L2.St) (ws : List Nat), i ∈ ws → (L2.wipe τ ws)[i]? = if i < τ.length then some none else none := by
      intro τ ws
      induction ws with
      | nil => intro m; cases m
      | cons j r ih =>
        intro m
        show ((L2.wipe τ r).set j none)[i]? = _
        by_cases e : j = i
        · subst e
          by_cases hi : j < τ.length
          · rw [List.getElem?_set_self (by rw [wipe_length]; exact hi), if_pos hi]
          · rw [List.getElem?_eq_none (by rw [List.length_set, wipe_length]; omega), if_neg hi]
        · rw [List.getElem?_set_ne e]
          exact ih ((List.mem_cons.mp m).resolve_left fun z => e z.symm)
    rw [z σ' vs m, z σ vs m, hl]
  · rw [wipe_out m, wipe_out m]
    exact h i m
end

/-- the slots of a comprehension's own names may change -/
def ownP (vs : List Nat) : Nat → Bool := fun i => !vs.contains i
def yesT : TSm := fun env => some (true, env)
def compL (vs : List Nat) (g : GSm) (c : TSm) (el : ESm) : List D → Env → List D → Option (List D × Env)
  | [], env, acc => some (acc, wipeE env vs)
  | d :: ds, env, acc => (g d (wipeE env vs)).bind fun e1 => (c e1).bind fun b => if b.1 = true then (el b.2).bind fun r => if acc.length < szL then compL vs g c el ds r.2 (acc ++ [r.1]) else none
    else compL vs g c el ds b.2 acc
def eComp (vs : List Nat) (it : ISm) (g : GSm) (c : TSm) (el : ESm) : ESm := fun env => (it env).bind fun ds => (compL vs g c el ds.1 ds.2 []).map fun r => (.lst false r.1, r.2)
section
variable {X : Cx} {elt tg iter : Expr} {ifs : List Expr} {scope : Scope} {own : List (Str × Nat)} {pos : Pos}
theorem pts_yes : PTs X [] (tT X.K yesT) := ⟨fun pins s σ H Q I ⟨env, env', fp, b, sr, nd, hf, q⟩ => by
  cases hf
  exact pts_nil.run pins s σ H Q I (q H fp (Evo.refl fp H) sr nd)⟩
theorem DT.pts {e : Expr} {f : TSm} (h : DT X e f) : PTs X [e] (tT X.K f) := pts_one h.pt
theorem ROs.snoc {K : PySem.W.Frag} {H : Hp} : ∀ {ds : List D} {xs : List V} {f : List Addr} {d : D} {x : V} {g : List Addr}, ROs K H ds xs f → RO K H d x g → ROs K H (ds ++ [d]) (xs ++ [x]) (f ++ g)
  | [], _, _, d, x, g, h, r => by
    rw [h.1, h.2]
    exact ⟨x, [], g, [], rfl, by simp, r, rfl, rfl⟩
  | d0 :: ds, _, _, d, x, g, ⟨y, ys, f1, f2, h1, h2, h3, h4⟩, r => by
    rw [h1, h2]
    exact ⟨y, ys ++ [x], f1, f2 ++ g, rfl, by rw [List.append_assoc], h3, h4.snoc r⟩
theorem comp_core {it : ISm} {g : GSm} {c : TSm} {el : ESm} {vs : List Nat} {σ : L2.St} {H : Hp} {Q : VK} (h : tE X.K (eComp vs it g c el) σ H Q) :
    tLc (tI X.K it) (tG X.K (ownP vs) g) (tT X.K c) (tE X.K el) vs σ H Q := by
  obtain ⟨env, env', fp, d, s, nd, hf, q⟩ := h
  obtain ⟨⟨ds, en⟩, e1, e2⟩ := Option.bind_eq_some_iff.mp hf
  obtain ⟨⟨acc, en'⟩, e3, e4⟩ := Option.map_eq_some_iff.mp e2
  obtain ⟨rfl, rfl⟩ := Prod.mk.inj e4
  refine ⟨env, en, fp, ds, s, nd, e1, fun J H1 fp1 ev1 s1 n1 yl => ?_⟩
  intro Dl hD
  refine ⟨fun i m H2 => m = ds.length - i ∧ i ≤ ds.length ∧ ImmExt H1 H2 ∧ ∃ env2 acc2 xs2 fa fp2, H2 Dl = some (.lst xs2) ∧ ROs X.K H2 acc2 xs2 fa ∧ SR X.K H2 (wipeE env2 vs) (L2.wipe σ vs) fp2 ∧ ((Dl :: fa) ++ fp2).Nodup ∧ Evo fp1 H1 ((Dl :: fa) ++ fp2) H2 ∧
    compL vs g c el (ds.drop i) env2 acc2 = some (acc, en'), ?_, ?_⟩
  · obtain ⟨fp2, s2, n2, m2⟩ := s1.wipe n1 vs
    have sm := same_new (o := .lst []) hD
    have s3 : SR X.K (upd H1 Dl (.lst [])) (wipeE en vs) (L2.wipe σ vs) fp2 := (s2.same sm).relax (by rw [wipe_length]) fun i d' hi => wipe_out (wipeE_some hi)
    refine ⟨ds.length, by omega, Nat.zero_le _, .of_same sm, en, [], [], [], fp2, upd_same, ⟨rfl, rfl⟩, s3, List.nodup_cons.mpr ⟨fun m => ?_, n2⟩, ⟨fun a o ha _ => sm a o ha, fun a m => ?_, .of_same sm⟩, by rw [List.drop_zero]; exact e3⟩
    · obtain ⟨o, z, _⟩ := s1.live Dl (m2 Dl m)
      rw [hD] at z; cases z
    · rcases List.mem_cons.mp m with rfl | m
      · exact .inr hD
      · exact .inl (m2 a m)
  rintro i m H2 ⟨rfl, hi, im, env2, acc2, xs2, fa, fp2, hD2, ra, s2, n2, ev2, e5⟩
  have y2 := yl H2 im
  have nfp : fp2.Nodup := (List.nodup_append.mp n2).2.1
  by_cases hlt : i < ds.length
  · refine .inr ?_
    have ed : ds[i]? = some ds[i] := List.getElem?_eq_getElem hlt
    obtain ⟨go, yi⟩ := y2.1 i _ ed
    refine ⟨go, fun H2 => i + 1 ≤ ds.length ∧ ImmExt H1 H2 ∧ ∃ env2 acc2 xs2 fa fp2, H2 Dl = some (.lst xs2) ∧ ROs X.K H2 acc2 xs2 fa ∧ SR X.K H2 (wipeE env2 vs) (L2.wipe σ vs) fp2 ∧ ((Dl :: fa) ++ fp2).Nodup ∧ Evo fp1 H1 ((Dl :: fa) ++ fp2) H2 ∧
      compL vs g c el (ds.drop (i + 1)) env2 acc2 = some (acc, en'), fun H' z => ⟨ds.length - (i + 1), by omega, rfl, z⟩, fun x H3 hy => ?_⟩
    obtain ⟨sm, rx⟩ := yi x H3 hy
    rw [List.drop_eq_getElem_cons hlt] at e5
    unfold compL at e5
    obtain ⟨en6, e6, e5⟩ := Option.bind_eq_some_iff.mp e5
    obtain ⟨⟨k, en7⟩, e7, e5⟩ := Option.bind_eq_some_iff.mp e5
    refine ⟨ds[i], wipeE env2 vs, en6, fp2, [], s2.same sm, rx.ro, nfp, e6, fun σ4 H4 fp4 ev4 s4 n4 p4 => ?_⟩
    have ev4 : Evo fp2 H3 fp4 H4 := ev4
    have ev24 : Evo fp2 H2 fp4 H4 := (Evo.of_same (fr := []) sm fun a z => (nomatch z)).trans ev4
    have hlen : σ4.length = σ.length := p4.1.trans (wipe_length σ vs)
    have hw : L2.wipe σ4 vs = L2.wipe σ vs := by
      rw [wipe_ext (σ := L2.wipe σ vs) (by rw [wipe_length]; exact hlen) fun j hj => p4.2 j (by simp [ownP, hj])]
      exact wipe_ext (by rw [wipe_length]) fun j hj => wipe_out hj
    refine ⟨hw, ?_⟩
    -- what stands beside the frame stays
    have beside : ∀ {f5 : List Addr} {H5 : Hp}, Evo fp2 H2 f5 H5 → f5.Nodup → H5 Dl = some (.lst xs2) ∧ ROs X.K H5 acc2 xs2 fa ∧ ((Dl :: fa) ++ f5).Nodup ∧ Evo fp1 H1 ((Dl :: fa) ++ f5) H5 := fun {f5 H5} e n => by
      have nf : ∀ a ∈ Dl :: fa, a ∉ fp2 := fun a m m' => (List.nodup_append.mp n2).2.2 a m a m' rfl
      have lv : ∀ a ∈ Dl :: fa, Live H2 a := fun a m => by
        rcases List.mem_cons.mp m with rfl | m
        · exact ⟨_, hD2, trivial⟩
        · exact ROs.live _ _ _ ra a m
      have st := e.stay lv nf
      refine ⟨by rw [st Dl List.mem_cons_self]; exact hD2, ROs.mono e.imm _ _ _ (fun a m => st a (List.mem_cons_of_mem _ m)) ra, ?_, ev2.trans e.side⟩
      exact List.nodup_append.mpr ⟨(List.nodup_append.mp n2).1, n, fun a m b m' z => by subst z; exact e.apart lv nf a m m'⟩
    refine ⟨en6, en7, fp4, k, s4, n4, e7, fun H5 fp5 ev5 s5 n5 => ?_⟩
    have ev25 := ev24.trans ev5
    cases k with
    | false =>
      rw [if_neg Bool.false_ne_true] at e5
      refine iteF ?_
      obtain ⟨f6, s6, n6, m6⟩ := s5.wipe n5 vs
      obtain ⟨b1, b2, b3, b4⟩ := beside (ev25.sub m6) n6
      exact ⟨hlt, im.trans ev25.imm, en7, acc2, xs2, fa, f6, b1, b2, s6.relax (by rw [wipe_length, hlen]) fun j d' hj => by rw [← hw]; exact wipe_out (wipeE_some hj), b3, b4, e5⟩
    | true =>
      rw [if_pos rfl] at e5
      refine iteT ?_
      obtain ⟨⟨dv, en8⟩, e8, e5⟩ := Option.bind_eq_some_iff.mp e5
      simp only at e5
      split at e5
      case isFalse => cases e5
      rename_i hz
      refine ⟨en7, en8, fp5, dv, s5, n5, e8, fun y H6 fr fp6 ev6 s6 ry n6 => ?_⟩
      have n6' := (List.nodup_append.mp n6).2.1
      obtain ⟨f7, s7, n7, m7⟩ := s6.wipe n6' vs
      have nfr : (fr ++ f7).Nodup := List.nodup_append.mpr ⟨(List.nodup_append.mp n6).1, n7, fun a m b m' => (List.nodup_append.mp n6).2.2 a m b (m7 b m')⟩
      have ev7 : Evo fp5 H5 (fr ++ f7) H6 := ev6.sub fun a m => (List.mem_append.mp m).elim (List.mem_append_left _) fun z => List.mem_append_right _ (m7 a z)
      obtain ⟨b1, b2, b3, b4⟩ := beside (ev25.trans ev7) nfr
      refine ⟨xs2, b1, by rw [szL_eq, b2.length]; exact hz, hlt, ?_, en8, acc2 ++ [dv], xs2 ++ [y], fa ++ fr, f7, upd_same, ?_, ?_, ?_, ?_, e5⟩
      · refine (im.trans (ev25.imm.trans ev7.imm)).trans ?_
        exact ⟨fun a xs h => by rw [upd_ne (fun z => by rw [z, b1] at h; cases h)]; exact h, fun a o u h => by rw [upd_ne (fun z => by rw [z, b1] at h; cases h)]; exact h⟩
      all_goals
        have im8 : ImmExt H6 (upd H6 Dl (.lst (xs2 ++ [y]))) := ⟨fun a xs h => by rw [upd_ne (fun z => by rw [z, b1] at h; cases h)]; exact h, fun a o u h => by rw [upd_ne (fun z => by rw [z, b1] at h; cases h)]; exact h⟩
        have nD : ∀ a ∈ fa ++ (fr ++ f7), a ≠ Dl := fun a m z => by
          subst z
          exact (List.nodup_cons.mp b3).1 m
      · exact (ROs.mono im8 _ _ _ (fun a m => upd_ne (nD a (List.mem_append_left _ m))) b2).snoc (RO.mono im8 _ _ _ (fun a m => upd_ne (nD a (List.mem_append_right _ (List.mem_append_left _ m)))) ry)
      · exact (s7.mono im8 fun a m => upd_ne (nD a (List.mem_append_right _ (List.mem_append_right _ m)))).relax (by rw [wipe_length, hlen]) fun j d' hj => by rw [← hw]; exact wipe_out (wipeE_some hj)
      · rw [List.cons_append, List.append_assoc]
        exact b3
      · rw [List.cons_append, List.append_assoc]
        refine ⟨fun a o ha hn => ?_, b4.own, b4.imm.trans im8⟩
        have z := b4.keep a o ha hn
        rw [upd_ne (fun e => ?_)]
        · exact z
        · subst e
          rw [hD] at ha; cases ha
  · have e : i = ds.length := by omega
    subst e
    rw [List.drop_length] at e5
    cases e5
    refine .inl ⟨y2.2, q (.ref Dl) H2 (Dl :: fa) fp2 (ev1.trans ev2) ?_ (.inr ⟨rfl, Dl, xs2, fa, rfl, rfl, hD2, ra⟩) n2⟩
    refine s2.relax (by rw [wipe_length]) fun j d' hj => (wipe_out (wipeE_some hj)).symm
end
end DL

set_option maxHeartbeats 1000000
/-! DL, part i: comprehensions as rules; methods that change their list; stores by place; calls of defs -/
namespace DL
open PySem L2
section
variable {P : Nat → Bool} {X : Cx} {elt tg iter : Expr} {ifs : List Expr} {scope : Scope} {own : List (Str × Nat)} {pos : Pos} {it : ISm} {g : GSm} {c : TSm} {el : ESm}
theorem de_comp (hc : X.calm = true) (hN : X.N.Nodup) (hi : DI X tg iter it) (ok : BlkOk X.N X.env.scope scope own)
    (hg : ∀ (s : Shared) (H : Hp) (C : Addr) (cl : List (Str × Addr)) (fp : List Addr), DG (ownP (own.map (·.2))) (X.blk s H scope (compEnvC scope cl C X.env) fp) tg g)
    (ht : ∀ (s : Shared) (H : Hp) (C : Addr) (cl : List (Str × Addr)) (fp : List Addr), PTs (X.blk s H scope (compEnvC scope cl C X.env) fp) ifs (tT X.K c))
    (he : ∀ (s : Shared) (H : Hp) (C : Addr) (cl : List (Str × Addr)) (fp : List Addr), DE (X.blk s H scope (compEnvC scope cl C X.env) fp) elt el) (hs : ∀ x, foldedSetIterable iter X.env x = pure x := by intro _; rfl) :
    DE X (.ListComp elt [⟨tg, iter, ifs, 0⟩] scope pos) (eComp (own.map (·.2)) it g c el) :=
  ⟨_, pe_lc (g := tG X.K (ownP (own.map (fun x : Str × Nat => x.2))) g) (te := tE X.K el) hc hN hi ok (fun s H C cl fp => hg s H C cl fp) ht (fun s H C cl fp => (he s H C cl fp).pe) hs, fun σ H env env' fp d s nd hf Q q => comp_core ⟨env, env', fp, d, s, nd, hf, q⟩⟩
theorem ds_setComp {i : Nat} {y : Str} {py spos : Pos} (hc : X.calm = true) (hN : X.N.Nodup) (hy : X.N[i]? = some y) (hyl : X.env.scope.names.lookup y = some .local) (hP : P i = false)
    (hsw : swapsWith (.ListComp elt [⟨tg, iter, ifs, 0⟩] scope pos) (some (.Name y py)) spos.line X.env = pure true) (hi : DI X tg iter it) (ok : BlkOk X.N X.env.scope scope own)
    (hg : ∀ (s : Shared) (H : Hp) (C : Addr) (cl : List (Str × Addr)) (fp : List Addr), DG (ownP (own.map (·.2))) (X.blk s H scope (compEnvC scope cl C X.env) fp) tg g)
    (ht : ∀ (s : Shared) (H : Hp) (C : Addr) (cl : List (Str × Addr)) (fp : List Addr), PTs (X.blk s H scope (compEnvC scope cl C X.env) fp) ifs (tT X.K c))
    (he : ∀ (s : Shared) (H : Hp) (C : Addr) (cl : List (Str × Addr)) (fp : List Addr), DE (X.blk s H scope (compEnvC scope cl C X.env) fp) elt el) (hs : ∀ x, foldedSetIterable iter X.env x = pure x := by intro _; rfl) :
    DS P X (.Assign [.Name y py] (.ListComp elt [⟨tg, iter, ifs, 0⟩] scope pos) spos) (sAsg (eComp (own.map (·.2)) it g c el) (gNm i)) :=
  ps_of (ps_setLc (g := tG X.K (ownP (own.map (fun x : Str × Nat => x.2))) g) (te := tE X.K el) hc hN hy hyl hsw hi ok (fun s H C cl fp => hg s H C cl fp) ht (fun s H C cl fp => (he s H C cl fp).pe) hs) fun D σ H z => asg_core (fun _ _ _ z => comp_core z) (fun v σ H Q ⟨d, env, env', fp, fr, s, r, nd, hg, q⟩ => by
    unfold gNm at hg
    split at hg
    case isFalse => cases hg
    rename_i hl
    cases hg
    obtain ⟨fp', s', n', m'⟩ := put_slot s r nd hl
    exact q _ H fp' ((Evo.refl _ H).sub m') s' n' (Pin.set hP)) z
/-- freezing a slot ahead of a statement -/
def sFz (i : Nat) (f : SSm) : SSm := fun env => match env[i]? with
  | some (some d) => f (env.set i (some (fz d)))
  | _ => none
def tLkS (t : TS) : TS := fun D σ H => ∃ fp, (∀ a ∈ fp, Live H a) ∧ ∀ H', Locked fp H H' → t D σ H'
theorem ps_lk {st : Stmt} {t : TS} (h : PS X st t) : PS X st (tLkS t) := by
  refine ⟨fun pins s σ H D I ⟨fp, lv, q⟩ => ?_⟩
  obtain ⟨H', I', l⟩ := lock_all fp I lv
  exact h.run pins s σ H' D I' (q H' l)
theorem ds_fz {st : Stmt} {f : SSm} (i : Nat) (h : DS P X st f) : DS P X st (sFz i f) := ps_of (ps_lk h) fun D σ H ⟨env, env', fp, o, s, nd, hf, q⟩ => by
  unfold sFz at hf
  split at hf
  case h_2 => cases hf
  rename_i d hd
  obtain ⟨v, pre, f0, post, e1, e2, r, p, _⟩ := s.at hd
  have lv := RO.live d v f0 r
  refine ⟨f0, lv, fun H' l => ?_⟩
  have n1 := List.nodup_append.mp (e2 ▸ nd)
  have n2 := List.nodup_append.mp n1.2.1
  have off : ∀ a, a ∈ pre ∨ a ∈ post → H' a = H a := fun a m => l.off a fun m' => m.elim (fun m => n1.2.2 a m a (List.mem_append_left _ m') rfl) fun m => n2.2.2 a m' a m rfl
  have z := p H' (fz d) v [] (l.imm lv) off (RO.fz (fp := f0) l.at_ (l.imm lv) d v f0 r fun a m => m).ro
  have e3 : σ.set i (some v) = σ := by
    obtain ⟨h1, h2⟩ := List.getElem?_eq_some_iff.mp e1
    rw [← h2, List.set_getElem_self]
  rw [e3] at z
  have ev : Evo fp H (pre ++ ([] ++ post)) H' := by
    refine ⟨fun a o h n => ?_, fun a m => .inl ?_, l.imm lv⟩
    · rw [l.off a fun m => n (by rw [e2]; exact List.mem_append_right _ (List.mem_append_left _ m))]; exact h
    · rw [e2]
      rcases List.mem_append.mp m with m | m
      · exact List.mem_append_left _ m
      · exact List.mem_append_right _ (List.mem_append_right _ m)
  exact ⟨_, env', _, o, z, List.nodup_append.mpr ⟨n1.1, n2.2.1, fun a m b m' => n1.2.2 a m b (List.mem_append_right _ m')⟩, hf, q.via ev (Pin.refl σ)⟩
end

/-! ### methods that change what they are called on -/
def MO (X : Cx) (T id : String) (m : D → List D → Option (D × D)) : Prop := ∃ r, MtR X id r ∧
  (∀ (H : Hp) (x : V) (dx : D) (fx : List Addr), RO X.K H dx x fx → ∀ ds r, m dx ds = some r → tyV X.K T x H) ∧
  ∀ (H : Hp) (x : V) (dx : D) (fx : List Addr) (vs : List V) (ds : List D) (fv : List Addr) (ret dx' : D), RO X.K H dx x fx → ROs X.K H ds vs fv → (fx ++ fv).Nodup → m dx ds = some (ret, dx') → ∀ Q : VK,
    (∀ v H' fr f', Evo (fx ++ fv) H (fr ++ f') H' → RO X.K H' dx' x f' → RO X.K H' ret v fr → (fr ++ f').Nodup → Q v H') → r x vs H Q
/-- may this method be called on that at all -/
def okRecv (T : String) : D → Bool
  | .lst _ _ => T == "list"
  | .dcK false _ _ => T == "dict"
  | .dcT false _ _ => T == "dict"
  | _ => false
theorem ty_recv {K : PySem.W.Frag} {H : Hp} {T : String} {d : D} {v : V} {fp : List Addr} (r : RO K H d v fp) (h : okRecv T d = true) : tyV K T v H := by
  cases d with
  | lst fz ds =>
    have e : T = "list" := by simpa [okRecv] using h
    obtain ⟨a, xs, f, h1, h2, h3⟩ := r.rdl
    rw [h1]
    exact .inl ⟨e, xs, .inl h2⟩
  | dcK fz ks ds =>
    cases fz with
    | true => cases h
    | false =>
      have e : T = "dict" := by simpa [okRecv] using h
      rcases r with ⟨z, _⟩ | ⟨_, a, xs, f, h1, _, h2, _⟩
      · cases z
      · rw [h1]; exact .inr (.inr (.inl ⟨e, .inl ⟨_, h2⟩⟩))
  | dcT fz ks ds =>
    cases fz with
    | true => cases h
    | false =>
      have e : T = "dict" := by simpa [okRecv] using h
      rcases r with ⟨z, _⟩ | ⟨_, a, xs, f, h1, _, h2, _⟩
      · cases z
      · rw [h1]; exact .inr (.inr (.inl ⟨e, .inr ⟨_, h2⟩⟩))
  | _ => cases h
section
variable {P : Nat → Bool} {X : Cx} {o e : Expr} {es : List Expr} {name : Str} {apos cpos : Pos} {T id : String} {m : D → List D → Option (D × D)}
def eMeth (i : Nat) (T : String) (m : D → List D → Option (D × D)) (f : ASm) : ESm := fun env => match env[i]? with
  | some (some d0) => if okRecv T d0 = true then (f env).bind fun ds => match ds.2[i]? with
    | some (some d) => (m d ds.1).map fun r => (r.1, ds.2.set i (some r.2))
    | _ => none
    else none
  | _ => none
/-- the method's part, behind the arguments -/
theorem meth_core {i : Nat} {K : PySem.W.Frag} {r : V → List V → Hp → VK → Prop} {σ : L2.St} {H : Hp} {env : Env} {fp fr : List Addr} {d d' ret : D} {ds : List D} {vs : List V} {x : V} {Q : VK}
    (ho : ∀ (H : Hp) (x : V) (dx : D) (fx : List Addr) (vs : List V) (ds : List D) (fv : List Addr) (ret dx' : D), RO K H dx x fx → ROs K H ds vs fv → (fx ++ fv).Nodup → m dx ds = some (ret, dx') → ∀ Q : VK,
      (∀ v H' fr f', Evo (fx ++ fv) H (fr ++ f') H' → RO K H' dx' x f' → RO K H' ret v fr → (fr ++ f').Nodup → Q v H') → r x vs H Q)
    (s : SR K H env σ fp) (rs : ROs K H ds vs fr) (nd : (fr ++ fp).Nodup) (hd : env[i]? = some (some d)) (hx : σ[i]? = some (some x)) (hm : m d ds = some (ret, d'))
    (q : ∀ v H' f1 f2, Evo (fr ++ fp) H (f1 ++ f2) H' → SR K H' (env.set i (some d')) σ f2 → RO K H' ret v f1 → (f1 ++ f2).Nodup → Q v H') : r x vs H Q := by
  obtain ⟨v, pre, f, post, e1, e2, r0, p, _⟩ := s.at hd
  rw [hx] at e1; cases e1
  have n0 := List.nodup_append.mp nd
  have n1 := List.nodup_append.mp (e2 ▸ n0.2.1)
  have n2 := List.nodup_append.mp n1.2.1
  have inF : ∀ a ∈ f, a ∈ fp := fun a m => by rw [e2]; exact List.mem_append_right _ (List.mem_append_left _ m)
  have inP : ∀ a, a ∈ pre ∨ a ∈ post → a ∈ fp := fun a m => by
    rw [e2]
    exact m.elim (List.mem_append_left _) fun m => List.mem_append_right _ (List.mem_append_right _ m)
  have nP : ∀ a, a ∈ pre ∨ a ∈ post → a ∉ f ++ fr := fun a m m' => by
    rcases List.mem_append.mp m' with m' | m'
    · exact m.elim (fun m => n1.2.2 a m a (List.mem_append_left _ m') rfl) fun m => n2.2.2 a m' a m rfl
    · exact n0.2.2 a m' a (inP a m) rfl
  refine ho H x d f vs ds fr ret d' r0 rs (List.nodup_append.mpr ⟨n2.1, n0.1, fun a ma b mb z => n0.2.2 b mb a (inF a ma) z.symm⟩) hm Q fun v H' f1 f2 ev ro rr nn => ?_
  have lvP : ∀ a, a ∈ pre ∨ a ∈ post → Live H a := fun a m => s.live a (inP a m)
  have st : ∀ a, a ∈ pre ∨ a ∈ post → H' a = H a := fun a m => by
    obtain ⟨ob, h, _⟩ := lvP a m
    rw [h]; exact ev.keep a ob h (nP a m)
  have ap : ∀ a, a ∈ pre ∨ a ∈ post → a ∉ f1 ++ f2 := fun a m m' => by
    rcases ev.own a m' with z | z
    · exact nP a m z
    · obtain ⟨ob, h, _⟩ := lvP a m
      rw [h] at z; cases z
  have z := p H' d' x f2 ev.imm st ro
  have e3 : σ.set i (some x) = σ := by
    obtain ⟨h1, h2⟩ := List.getElem?_eq_some_iff.mp hx
    rw [← h2, List.set_getElem_self]
  rw [e3] at z
  have nn' := List.nodup_append.mp nn
  refine q v H' f1 (pre ++ (f2 ++ post)) ⟨fun a ob h n => ev.keep a ob h fun m => n ?_, fun a m => ?_, ev.imm⟩ z rr ?_
  · rcases List.mem_append.mp m with m | m
    · exact List.mem_append_right _ (inF a m)
    · exact List.mem_append_left _ m
  · have back : a ∈ f1 ++ f2 → a ∈ fr ++ fp ∨ H a = none := fun m => (ev.own a m).imp (fun m => (List.mem_append.mp m).elim (fun m => List.mem_append_right _ (inF a m)) (List.mem_append_left _)) id
    rcases List.mem_append.mp m with m | m
    · exact back (List.mem_append_left _ m)
    · rcases List.mem_append.mp m with m | m
      · exact .inl (List.mem_append_right _ (inP a (.inl m)))
      · rcases List.mem_append.mp m with m | m
        · exact back (List.mem_append_right _ m)
        · exact .inl (List.mem_append_right _ (inP a (.inr m)))
  · refine List.nodup_append.mpr ⟨nn'.1, List.nodup_append.mpr ⟨n1.1, List.nodup_append.mpr ⟨nn'.2.1, n2.2.1, fun a m b m' z => ap b (.inr m') (by rw [← z]; exact List.mem_append_right _ m)⟩, fun a m b m' z => ?_⟩, fun a m b m' z => ?_⟩
    · subst z
      rcases List.mem_append.mp m' with m' | m'
      · exact ap a (.inl m) (List.mem_append_right _ m')
      · exact n1.2.2 a m a (List.mem_append_right _ m') rfl
    · subst z
      rcases List.mem_append.mp m' with m' | m'
      · exact ap a (.inl m') (List.mem_append_left _ m)
      · rcases List.mem_append.mp m' with m' | m'
        · exact nn'.2.2 a m a m' rfl
        · exact ap a (.inr m') (List.mem_append_left _ m)
theorem de_meth {i : Nat} {f : ASm} (pa : PlainAttrs T) (slot : Slot T name id) (hty : typeOf (.builtin id) = pure (.type "method_descriptor")) (hm : MO X T id m) (ho : PE X o (tVar i)) (ha : DA X (e :: es) f)
    (hbase : attributeBase o name X.env (eval o X.env) = eval o X.env := by rfl)
    (hfew : ((backTo cpos (starEach (e :: es) X.env)).all (fun x => !x.1) && (backToKw cpos (keywordEach [] X.env)).all (fun x => x.1.isSome) && decide ((e :: es).length + ([] : List Keyword).length + (if ([] : List Keyword).isEmpty then 0 else 1) < 30)) = true := by rfl)
    (hline : (apos.endLine == cpos.line) = true := by rfl) (hs : starEach (e :: es) X.env = (false, eval e X.env) :: starEach es X.env := by rfl) (hplain : (backTo cpos (starEach es X.env)).any (·.1) = false := by rfl) :
    DE X (.Call (.Attribute o name apos) (e :: es) [] cpos) (eMeth i T m f) := by
  obtain ⟨r, hr, _, hm⟩ := hm
  refine ⟨_, pe_bm pa slot hty hr ho ha.pa hbase hfew hline hs hplain, fun σ H env env' fp d s nd hf Q q => ?_⟩
  unfold eMeth at hf
  split at hf
  case h_2 => cases hf
  rename_i d0 h0
  split at hf
  case isFalse => cases hf
  rename_i hok
  obtain ⟨⟨ds, en⟩, e1, hf⟩ := Option.bind_eq_some_iff.mp hf
  simp only at hf
  split at hf
  case h_2 => cases hf
  rename_i d1 h1
  obtain ⟨⟨ret, d2⟩, e2, e3⟩ := Option.map_eq_some_iff.mp hf
  cases e3
  obtain ⟨v, pre, f0, post, hv, _, r0, _⟩ := s.at h0
  refine ⟨v, hv, ty_recv r0 hok, env, en, fp, ds, s, nd, e1, fun vs H1 fr fp1 v1 s1 rs n1 => ?_⟩
  exact meth_core hm s1 rs n1 h1 hv e2 fun v H' f1 f2 ev sr rr nn => q v H' f1 f2 (v1.trans ev) sr rr nn
theorem de_meth0 {i : Nat} (pa : PlainAttrs T) (slot : Slot T name id) (hty : typeOf (.builtin id) = pure (.type "method_descriptor")) (hm : MO X T id m) (ho : PE X o (tVar i))
    (hbase : attributeBase o name X.env (eval o X.env) = eval o X.env := by rfl) (hline : (apos.endLine == cpos.line) = true := by rfl) : DE X (.Call (.Attribute o name apos) [] [] cpos) (eMeth i T m aNilE) := by
  obtain ⟨r, hr, _, hm⟩ := hm
  refine ⟨_, pe_bm0 pa slot hty hr ho hbase hline, fun σ H env env' fp d s nd hf Q q => ?_⟩
  unfold eMeth at hf
  split at hf
  case h_2 => cases hf
  rename_i d0 h0
  split at hf
  case isFalse => cases hf
  rename_i hok
  obtain ⟨⟨ds, en⟩, e1, hf⟩ := Option.bind_eq_some_iff.mp hf
  cases e1
  simp only at hf
  split at hf
  case h_2 => cases hf
  rename_i d1 h1
  obtain ⟨⟨ret, d2⟩, e2, e3⟩ := Option.map_eq_some_iff.mp hf
  cases e3
  obtain ⟨v, pre, f0, post, hv, _, r0, _⟩ := s.at h0
  refine ⟨v, hv, ty_recv r0 hok, ?_⟩
  exact meth_core (fr := []) hm s (show ROs X.K _ [] [] [] from ⟨rfl, rfl⟩) nd h1 hv e2 fun v H' f1 f2 ev sr rr nn => q v H' f1 f2 ev sr rr nn
end

/-! ### the methods -/
section
variable {X : Cx} {K : PySem.W.Frag} {H : Hp}
theorem RO.own {ds : List D} {v : V} {fp : List Addr} (h : RO K H (.lst false ds) v fp) : ∃ a xs f, v = .ref a ∧ fp = a :: f ∧ H a = some (.lst xs) ∧ ROs K H ds xs f := by
  rcases h with ⟨z, _⟩ | ⟨_, h⟩
  · cases z
  · exact h
/-- the list at a is rewritten -/
theorem upd_evo {a : Addr} {xs ys : List V} {fp fp' : List Addr} (h : H a = some (.lst xs)) (ha : a ∈ fp) (hs : ∀ b ∈ fp', b ∈ fp) : Evo fp H fp' (upd H a (.lst ys)) :=
  ⟨fun b o hb n => by rw [upd_ne (fun e => n (by rw [e]; exact ha))]; exact hb, fun b m => .inl (hs b m),
    fun b zs hb => by rw [upd_ne (fun e => by rw [e, h] at hb; cases hb)]; exact hb, fun b o u hb => by rw [upd_ne (fun e => by rw [e, h] at hb; cases hb)]; exact hb⟩
theorem upd_imm {a : Addr} {xs ys : List V} (h : H a = some (.lst xs)) : ImmExt H (upd H a (.lst ys)) := (upd_evo (fp := [a]) (fp' := []) h List.mem_cons_self fun _ m => (nomatch m)).imm
def mAppend : D → List D → Option (D × D)
  | .lst false ds, [d] => if ds.length < szL then some (.non, .lst false (ds ++ [d])) else none
  | _, _ => none
theorem ty_own {X : Cx} {H : Hp} {ds : List D} {v : V} {fp : List Addr} (h : RO X.K H (.lst false ds) v fp) : tyV X.K "list" v H := ty_recv h rfl
theorem m_append : MO X "list" "list.append" mAppend := by
  refine ⟨_, mt_append, fun H x dx fx r ds ret e => ?_, fun H x dx fx vs ds fv ret dx' r rs nd e Q q => ?_⟩
  · unfold mAppend at e
    split at e
    · exact ty_own r
    · cases e
  · unfold mAppend at e
    split at e
    case h_2 => cases e
    split at e
    case isFalse => cases e
    rename_i es d0 hz
    cases e
    obtain ⟨a, xs, f, h1, h2, h3, h4⟩ := r.own
    obtain ⟨y, rfl, ry⟩ := rs.one
    subst h2
    refine ⟨a, xs, y, h1, rfl, h3, by rw [szL_eq, h4.length]; exact hz, ?_⟩
    have na : ∀ b ∈ f ++ fv, b ≠ a := fun b m e => by subst e; exact (List.nodup_cons.mp nd).1 m
    refine q .non _ [] (a :: (f ++ fv)) (upd_evo h3 List.mem_cons_self fun b m => m) (.inr ⟨rfl, a, _, f ++ fv, h1, rfl, upd_same, ?_⟩) ⟨rfl, rfl⟩ nd
    exact (ROs.mono (upd_imm h3) _ _ _ (fun b m => upd_ne (na b (List.mem_append_left _ m))) h4).snoc (RO.mono (upd_imm h3) _ _ _ (fun b m => upd_ne (na b (List.mem_append_right _ m))) ry)
def mExtend : D → List D → Option (D × D)
  | .lst false ds, [.lst false es] => if ds.length + es.length ≤ szL ∧ es.all isImm = true then some (.non, .lst false (ds ++ es)) else none
  | _, _ => none
theorem ROs.apps : ∀ {ds es : List D} {xs ys : List V} {f g : List Addr}, ROs K H ds xs f → ROs K H es ys g → ROs K H (ds ++ es) (xs ++ ys) (f ++ g)
  | [], _, _, _, _, _, h, r => by rw [h.1, h.2]; exact r
  | d0 :: ds, _, _, _, _, _, ⟨y, ys, f1, f2, h1, h2, h3, h4⟩, r => by
    rw [h1, h2]
    exact ⟨y, ys ++ _, f1, f2 ++ _, rfl, by rw [List.append_assoc], h3, h4.apps r⟩
theorem m_extend : MO X "list" "list.extend" mExtend := by
  refine ⟨_, mt_extend, fun H x dx fx r ds ret e => ?_, fun H x dx fx vs ds fv ret dx' r rs nd e Q q => ?_⟩
  · unfold mExtend at e
    split at e
    · exact ty_own r
    · cases e
  · unfold mExtend at e
    split at e
    case h_2 => cases e
    split at e
    case isFalse => cases e
    rename_i ds0 es hz
    cases e
    obtain ⟨a, xs, f, h1, h2, h3, h4⟩ := r.own
    obtain ⟨y, rfl, ry⟩ := rs.one
    obtain ⟨b, ys, g, h5, h6, h7, h8⟩ := ry.own
    obtain ⟨eg, ri⟩ := h8.imms hz.2
    subst h2 h6 eg
    refine ⟨a, b, xs, ys, h1, by rw [h5], h3, h7, by rw [szL_eq, h4.length, h8.length]; exact hz.1, ?_⟩
    have na : ∀ c ∈ f ++ [b], c ≠ a := fun c m e => by subst e; exact (List.nodup_cons.mp nd).1 m
    refine q .non _ [] (a :: f) (upd_evo h3 List.mem_cons_self fun c m => ?_) (.inr ⟨rfl, a, _, f ++ [], h1, by rw [List.append_nil], upd_same, ?_⟩) ⟨rfl, rfl⟩ ?_
    · rcases List.mem_cons.mp m with rfl | m
      · exact List.mem_cons_self
      · exact List.mem_append_left _ (List.mem_cons_of_mem _ m)
    · exact (ROs.mono (upd_imm h3) _ _ _ (fun c m => upd_ne (na c (List.mem_append_left _ m))) h4).apps (RIs.mono (upd_imm h3) _ _ ri).ros
    · exact (List.nodup_append.mp nd).1
/-- a list's item taken out by place -/
theorem ROs.eraseIdx : ∀ {ds : List D} {xs : List V} {f : List Addr} {k : Nat} {d : D}, ROs K H ds xs f → ds[k]? = some d → ∃ x f1 f2, xs[k]? = some x ∧ RO K H d x f1 ∧ ROs K H (ds.eraseIdx k) (xs.eraseIdx k) f2 ∧ (f1 ++ f2).Perm f
  | [], _, _, _, _, _, e => by simp at e
  | d0 :: ds, _, _, 0, d, ⟨y, ys, f1, f2, h1, h2, h3, h4⟩, e => by
    have e' : d0 = d := by simpa using e
    subst e'
    refine ⟨y, f1, f2, by rw [h1]; rfl, h3, ?_, by rw [h2]⟩
    rw [h1]; exact h4
  | d0 :: ds, _, _, k + 1, d, ⟨y, ys, f1, f2, h1, h2, h3, h4⟩, e => by
    obtain ⟨x, g1, g2, e1, r1, r2, p⟩ := h4.eraseIdx (k := k) (d := d) (by simpa using e)
    refine ⟨x, g1, f1 ++ g2, by rw [h1]; simpa using e1, r1, ?_, ?_⟩
    · rw [h1]
      exact ⟨y, ys.eraseIdx k, f1, g2, rfl, rfl, h3, r2⟩
    · rw [h2]
      have p1 : (g1 ++ (f1 ++ g2)).Perm (f1 ++ (g1 ++ g2)) := by
        rw [← List.append_assoc, ← List.append_assoc]
        exact List.perm_append_comm.append_right g2
      exact p1.trans (p.append_left f1)
theorem pop_core {Q : VK} {H : Hp} {a : Addr} {xs : List V} {es : List D} {x : V} {f : List Addr} {k : Nat} {d : D} (h1 : x = .ref a) (h3 : H a = some (.lst xs)) (h4 : ROs K H es xs f) (nd : (a :: f).Nodup) (hd : es[k]? = some d)
    (q : ∀ v H' fr f', Evo (a :: f) H (fr ++ f') H' → RO K H' (.lst false (es.eraseIdx k)) x f' → RO K H' d v fr → (fr ++ f').Nodup → Q v H') : ∃ y, xs[k]? = some y ∧ Q y (upd H a (.lst (xs.eraseIdx k))) := by
  obtain ⟨y, f1, f2, e1, r1, r2, p⟩ := h4.eraseIdx hd
  refine ⟨y, e1, ?_⟩
  have na : ∀ b ∈ f1 ++ f2, b ≠ a := fun b m e => by subst e; exact (List.nodup_cons.mp nd).1 (p.mem_iff.mp m)
  have np : (f1 ++ (a :: f2)).Nodup := by
    have p2 : (f1 ++ (a :: f2)).Perm (a :: f) := List.perm_middle.trans (p.cons a)
    exact p2.nodup_iff.mpr nd
  refine q y _ f1 (a :: f2) (upd_evo h3 List.mem_cons_self fun b m => ?_) (.inr ⟨rfl, a, _, f2, h1, rfl, upd_same, ROs.mono (upd_imm h3) _ _ _ (fun b m => upd_ne (na b (List.mem_append_right _ m))) r2⟩) (RO.mono (upd_imm h3) _ _ _ (fun b m => upd_ne (na b (List.mem_append_left _ m))) r1) np
  have p2 : (f1 ++ (a :: f2)).Perm (a :: f) := List.perm_middle.trans (p.cons a)
  exact p2.mem_iff.mp m
def mPop : D → List D → Option (D × D)
  | .lst false ds, [] => (ds[ds.length - 1]?).map fun d => (d, .lst false ds.dropLast)
  | .lst false ds, [.int i] => if -9223372036854775808 ≤ i ∧ i < 9223372036854775808 then (seqIndex? i ds.length).bind fun k => (ds[k]?).map fun d => (d, .lst false (ds.eraseIdx k)) else none
  | _, _ => none
theorem dropLast_erase {α : Type} (l : List α) : l.dropLast = l.eraseIdx (l.length - 1) := by
  rw [List.eraseIdx_length_sub_one]
theorem m_pop : MO X "list" "list.pop" mPop := by
  refine ⟨_, MtR.or mt_pop mt_popAt, fun H x dx fx r ds ret e => ?_, fun H x dx fx vs ds fv ret dx' r rs nd e Q q => ?_⟩
  · unfold mPop at e
    split at e
    · exact ty_own r
    · exact ty_own r
    · cases e
  · unfold mPop at e
    split at e
    · obtain ⟨d, e1, e2⟩ := Option.map_eq_some_iff.mp e
      obtain ⟨rfl, rfl⟩ := Prod.mk.inj e2
      obtain ⟨a, xs, f, h1, h2, h3, h4⟩ := r.own
      obtain ⟨rfl, rfl⟩ := rs
      subst h2
      rw [List.append_nil] at nd q
      rw [dropLast_erase] at q
      obtain ⟨y, e3, e4⟩ := pop_core h1 h3 h4 nd e1 q
      refine .inl ⟨a, xs, y, h1, rfl, h3, by rw [h4.length]; exact e3, ?_⟩
      rw [dropLast_erase, h4.length]
      exact e4
    · split at e
      case isFalse => cases e
      rename_i hz
      obtain ⟨k, e0, e⟩ := Option.bind_eq_some_iff.mp e
      obtain ⟨d, e1, e2⟩ := Option.map_eq_some_iff.mp e
      obtain ⟨rfl, rfl⟩ := Prod.mk.inj e2
      obtain ⟨a, xs, f, h1, h2, h3, h4⟩ := r.own
      obtain ⟨v, rfl, ev, rfl⟩ := rs.one
      subst h2 ev
      rw [List.append_nil] at nd q
      obtain ⟨y, e3, e4⟩ := pop_core h1 h3 h4 nd e1 q
      exact .inr ⟨a, xs, _, k, y, h1, rfl, h3, hz.1, hz.2, by rw [h4.length]; exact e0, e3, e4⟩
    · cases e
end
end DL

set_option maxHeartbeats 1000000
/-! DL, part j: defs and their calls -/
namespace DL
open PySem PyProof.Rows L2 C8
/-- what a def means: by its arguments, the result and what its parameters hold behind -/
abbrev FSm := List D → Option (D × List (Option D))
def Prom (K : PySem.W.Frag) (F : FSm) : Sp := fun vs H Q _ => ∃ ds fp r outs, ROs K H ds vs fp ∧ fp.Nodup ∧ F ds = some (r, outs) ∧
  ∀ v H' fr fo, Evo fp H (fr ++ fo) H' → RO K H' r v fr → SR K H' outs (vs.map some) fo → (fr ++ fo).Nodup → Q v H'
/-- a call's arguments: values of our own, or slots lent -/
abbrev CSm := Env → Option (List (D ⊕ Nat) × Env)
def CArg (K : PySem.W.Frag) (H : Hp) (σ : L2.St) : List (D ⊕ Nat) → List V → List Addr → Prop
  | [], vs, fp => vs = [] ∧ fp = []
  | .inl d :: r, vs, fp => ∃ x xs f f', vs = x :: xs ∧ fp = f ++ f' ∧ RO K H d x f ∧ CArg K H σ r xs f'
  | .inr i :: r, vs, fp => ∃ x xs, vs = x :: xs ∧ σ[i]? = some (some x) ∧ CArg K H σ r xs fp
def DC (X : Cx) (es : List Expr) (f : CSm) : Prop := ∃ t : TA, PA X es t ∧ ∀ (σ : L2.St) (H : Hp) (env env' : Env) (fp : List Addr) (xs : List (D ⊕ Nat)), SR X.K H env σ fp → fp.Nodup → f env = some (xs, env') →
  ∀ Q : List V → Hp → Prop, (∀ vs H' fr fp', Evo fp H (fr ++ fp') H' → SR X.K H' env' σ fp' → CArg X.K H' σ xs vs fr → (fr ++ fp').Nodup → Q vs H') → t σ H Q
def cNil : CSm := fun env => some ([], env)
def cVal (f : ESm) (r : CSm) : CSm := fun env => (f env).bind fun d => (r d.2).map fun p => (.inl d.1 :: p.1, p.2)
def cBor (i : Nat) (r : CSm) : CSm := fun env => match env[i]? with
  | some (some _) => (r env).map fun p => (.inr i :: p.1, p.2)
  | _ => none
section
variable {X : Cx} {K : PySem.W.Frag} {H H' : Hp} {σ : L2.St} {e : Expr} {es : List Expr}
theorem CArg.live : ∀ {xs : List (D ⊕ Nat)} {vs : List V} {fp : List Addr}, CArg K H σ xs vs fp → ∀ a ∈ fp, Live H a
  | [], _, _, h, a, m => by rw [h.2] at m; cases m
  | .inl d :: r, _, _, ⟨x, xs, f, f', _, e, h1, h2⟩, a, m => by
    rw [e] at m
    rcases List.mem_append.mp m with m | m
    · exact RO.live d x f h1 a m
    · exact h2.live a m
  | .inr i :: r, _, _, ⟨x, xs, _, _, h2⟩, a, m => h2.live a m
theorem CArg.mono (im : ImmExt H H') : ∀ {xs : List (D ⊕ Nat)} {vs : List V} {fp : List Addr}, (∀ a ∈ fp, H' a = H a) → CArg K H σ xs vs fp → CArg K H' σ xs vs fp
  | [], _, _, _, h => h
  | .inl d :: r, _, _, hs, ⟨x, xs, f, f', h0, e, h1, h2⟩ =>
    ⟨x, xs, f, f', h0, e, RO.mono im d x f (fun a m => hs a (by rw [e]; exact List.mem_append_left _ m)) h1, h2.mono im fun a m => hs a (by rw [e]; exact List.mem_append_right _ m)⟩
  | .inr i :: r, _, _, hs, ⟨x, xs, h0, h1, h2⟩ => ⟨x, xs, h0, h1, h2.mono im hs⟩
theorem dc_nil : DC X [] cNil := ⟨_, pa_nil, fun σ H env env' fp xs s nd hf Q q => by
  cases hf
  exact q [] H [] fp (Evo.refl fp H) s ⟨rfl, rfl⟩ nd⟩
theorem dc_val {f : ESm} {r : CSm} (he : DE X e f) (hr : DC X es r) (hs : starEach (e :: es) X.env = (false, eval e X.env) :: starEach es X.env := by rfl) : DC X (e :: es) (cVal f r) := by
  obtain ⟨te, pe, he⟩ := he
  obtain ⟨ta, pa, hr⟩ := hr
  refine ⟨_, pa_cons pe pa hs, fun σ H env env' fp xs s nd hf Q q => ?_⟩
  obtain ⟨⟨d, en⟩, e1, hf⟩ := Option.bind_eq_some_iff.mp hf
  obtain ⟨⟨ys, en2⟩, e2, e3⟩ := Option.map_eq_some_iff.mp hf
  cases e3
  refine he σ H env en fp d s nd e1 _ fun v H1 f1 fp1 v1 s1 r1 n1 => ?_
  refine hr σ H1 en _ fp1 ys s1 (List.nodup_append.mp n1).2.1 e2 _ fun vs H2 f2 fp2 v2 s2 r2 n2 => ?_
  obtain ⟨r12, v12, n12⟩ := two (env := env) (σ := σ) v1 r1 n1 v2 n2
  exact q (v :: vs) H2 (f1 ++ f2) fp2 v12 s2 ⟨v, vs, f1, f2, rfl, rfl, r12, r2⟩ n12
theorem dc_bor {i : Nat} {r : CSm} (he : PE X e (tVar i)) (hr : DC X es r) (hs : starEach (e :: es) X.env = (false, eval e X.env) :: starEach es X.env := by rfl) : DC X (e :: es) (cBor i r) := by
  obtain ⟨ta, pa, hr⟩ := hr
  refine ⟨_, pa_cons he pa hs, fun σ H env env' fp xs s nd hf Q q => ?_⟩
  unfold cBor at hf
  split at hf
  case h_2 => cases hf
  rename_i d hd
  obtain ⟨⟨ys, en2⟩, e2, e3⟩ := Option.map_eq_some_iff.mp hf
  cases e3
  obtain ⟨v, pre, f, post, e1, _⟩ := s.at hd
  refine ⟨v, e1, ?_⟩
  exact hr σ H env _ fp ys s nd e2 _ fun vs H2 f2 fp2 v2 s2 r2 n2 => q (v :: vs) H2 f2 fp2 v2 s2 ⟨v, vs, rfl, e1, r2⟩ n2
def takeB : List (D ⊕ Nat) → Env → Option (List D × Env)
  | [], env => some ([], env)
  | .inl d :: r, env => (takeB r env).map fun p => (d :: p.1, p.2)
  | .inr i :: r, env => match env[i]? with
    | some (some d) => (takeB r (if isImm d = true then env else env.set i none)).map fun p => (d :: p.1, p.2)
    | _ => none
def giveB : List (D ⊕ Nat) → List D → List (Option D) → Env → Env
  | [], _, _, env => env
  | .inl _ :: r, ds, os, env => giveB r ds.tail os.tail env
  | .inr i :: r, ds, os, env => giveB r ds.tail os.tail (match ds.head?, os.head? with
    | some d, some (some o) => if isImm d = true then env else if i < env.length then env.set i (some o) else env
    | _, _ => env)
theorem take_ok : ∀ {xs : List (D ⊕ Nat)} {env env2 : Env} {ds : List D} {vs : List V} {fr fp : List Addr}, SR K H env σ fp → CArg K H σ xs vs fr → (fr ++ fp).Nodup → takeB xs env = some (ds, env2) →
    ∃ fr2 fp2, ROs K H ds vs fr2 ∧ SR K H env2 σ fp2 ∧ (fr2 ++ fp2).Nodup ∧ ∀ a ∈ fr2 ++ fp2, a ∈ fr ++ fp
  | [], env, _, _, vs, fr, fp, s, c, nd, h => by
    cases h
    exact ⟨fr, fp, ⟨c.1, c.2⟩, s, nd, fun _ m => m⟩
  | .inl d :: r, env, _, _, _, _, fp, s, ⟨x, xs, f, f', h0, h1, h2, h3⟩, nd, h => by
    subst h0 h1
    obtain ⟨⟨ds, en⟩, e1, e2⟩ := Option.map_eq_some_iff.mp h
    cases e2
    rw [List.append_assoc] at nd
    have n1 := List.nodup_append.mp nd
    obtain ⟨g, fp2, k1, k2, k3, k4⟩ := take_ok s h3 n1.2.1 e1
    refine ⟨f ++ g, fp2, ⟨x, xs, f, g, rfl, rfl, h2, k1⟩, k2, ?_, fun a m => ?_⟩
    · rw [List.append_assoc]
      exact List.nodup_append.mpr ⟨n1.1, k3, fun a m b m' => n1.2.2 a m b (k4 b m')⟩
    · rw [List.append_assoc] at m ⊢
      exact (List.mem_append.mp m).elim (List.mem_append_left _) fun m => List.mem_append_right _ (k4 a m)
  | .inr i :: r, env, _, _, _, fr, fp, s, ⟨x, xs, h0, h1, h2⟩, nd, h => by
    subst h0
    unfold takeB at h
    split at h
    case h_2 => cases h
    rename_i d hd
    obtain ⟨⟨ds, en⟩, e1, e2⟩ := Option.map_eq_some_iff.mp h
    cases e2
    obtain ⟨v, pre, f, post, z1, z2, r0, _, p⟩ := s.at hd
    rw [h1] at z1; cases z1
    by_cases hi : isImm d = true
    · obtain ⟨z, r'⟩ := r0.imm hi
      rw [if_pos hi] at e1
      obtain ⟨g, fp2, k1, k2, k3, k4⟩ := take_ok s h2 nd e1
      exact ⟨g, fp2, ⟨x, xs, [], g, rfl, rfl, r'.ro, k1⟩, k2, k3, k4⟩
    · rw [if_neg hi] at e1
      have s' : SR K H (env.set i none) σ (pre ++ post) := by
        have z := p H (some x) (ImmExt.refl H) fun _ _ => rfl
        have e3 : σ.set i (some x) = σ := by
          obtain ⟨q1, q2⟩ := List.getElem?_eq_some_iff.mp h1
          rw [← q2, List.set_getElem_self]
        rw [e3] at z
        exact z
      have pm : (fr ++ fp).Perm (f ++ (fr ++ (pre ++ post))) := by
        have p1 : (fr ++ (pre ++ (f ++ post))).Perm (fr ++ (f ++ (pre ++ post))) := by
          refine List.Perm.append_left fr ?_
          rw [← List.append_assoc, ← List.append_assoc]
          exact List.perm_append_comm.append_right post
        have p2 : (fr ++ (f ++ (pre ++ post))).Perm (f ++ (fr ++ (pre ++ post))) := by
          rw [← List.append_assoc fr, ← List.append_assoc f]
          exact List.perm_append_comm.append_right _
        rw [z2]
        exact p1.trans p2
      have nd' := pm.nodup_iff.mp nd
      have n1 := List.nodup_append.mp nd'
      obtain ⟨g, fp2, k1, k2, k3, k4⟩ := take_ok s' h2 n1.2.1 e1
      refine ⟨f ++ g, fp2, ⟨x, xs, f, g, rfl, rfl, r0, k1⟩, k2, ?_, fun a m => pm.mem_iff.mpr ?_⟩
      · rw [List.append_assoc]
        exact List.nodup_append.mpr ⟨n1.1, k3, fun a m b m' => n1.2.2 a m b (k4 b m')⟩
      · rw [List.append_assoc] at m
        exact (List.mem_append.mp m).elim (List.mem_append_left _) fun m => List.mem_append_right _ (k4 a m)
theorem set_back {i : Nat} {x : V} (h : σ[i]? = some (some x)) : σ.set i (some x) = σ := by
  obtain ⟨q1, q2⟩ := List.getElem?_eq_some_iff.mp h
  rw [← q2, List.set_getElem_self]
/-- where the lent slots' values stand -/
def CPos (σ : L2.St) : List (D ⊕ Nat) → List V → Prop
  | [], vs => vs = []
  | .inl _ :: r, vs => ∃ x xs, vs = x :: xs ∧ CPos σ r xs
  | .inr i :: r, vs => ∃ x xs, vs = x :: xs ∧ σ[i]? = some (some x) ∧ CPos σ r xs
theorem CArg.pos : ∀ {xs : List (D ⊕ Nat)} {vs : List V} {fp : List Addr}, CArg K H σ xs vs fp → CPos σ xs vs
  | [], _, _, h => h.1
  | .inl d :: r, _, _, ⟨x, xs, f, f', h0, e, h1, h2⟩ => ⟨x, xs, h0, h2.pos⟩
  | .inr i :: r, _, _, ⟨x, xs, h0, h1, h2⟩ => ⟨x, xs, h0, h1, h2.pos⟩
theorem SR.tail {o : Option D} {os : List (Option D)} {x : V} {vs : List V} {fo : List Addr} (h : SR K H (o :: os) ((x :: vs).map some) fo) :
    ∃ f f', fo = f ++ f' ∧ (∀ d, o = some d → RO K H d x f) ∧ SR K H os (vs.map some) f' := by
  cases o with
  | none =>
    obtain ⟨y, τ, h1, h2⟩ := h
    obtain ⟨rfl, rfl⟩ := List.cons.inj h1
    exact ⟨[], fo, rfl, fun _ z => (nomatch z), h2⟩
  | some d =>
    obtain ⟨v, τ, f, f', h1, h2, h3, h4⟩ := h
    obtain ⟨e, rfl⟩ := List.cons.inj h1
    cases e
    exact ⟨f, f', h2, fun d' z => by cases z; exact h3, h4⟩
theorem give_ok : ∀ {xs : List (D ⊕ Nat)} {ds : List D} {os : List (Option D)} {vs : List V} {env : Env} {fo fp : List Addr}, CPos σ xs vs → SR K H os (vs.map some) fo → SR K H env σ fp → (fo ++ fp).Nodup →
    ∃ fp', SR K H (giveB xs ds os env) σ fp' ∧ fp'.Nodup ∧ ∀ a ∈ fp', a ∈ fo ++ fp
  | [], _, _, _, env, fo, fp, _, _, s, nd => ⟨fp, s, (List.nodup_append.mp nd).2.1, fun a m => List.mem_append_right _ m⟩
  | .inl d0 :: r, ds, os, _, env, fo, fp, ⟨x, xs, h0, h1⟩, so, s, nd => by
    subst h0
    cases os with
    | nil => cases (so.1 : ((x :: xs).map some : L2.St) = [])
    | cons o os =>
      obtain ⟨f, f', e, _, s2⟩ := so.tail
      subst e
      rw [List.append_assoc] at nd
      obtain ⟨fp', k1, k2, k3⟩ := give_ok (ds := ds.tail) h1 s2 s (List.nodup_append.mp nd).2.1
      exact ⟨fp', k1, k2, fun a m => by rw [List.append_assoc]; exact List.mem_append_right _ (k3 a m)⟩
  | .inr i :: r, ds, os, _, env, fo, fp, ⟨x, xs, h0, hx, h1⟩, so, s, nd => by
    subst h0
    cases os with
    | nil => cases (so.1 : ((x :: xs).map some : L2.St) = [])
    | cons o os =>
      obtain ⟨f, f', e, ho, s2⟩ := so.tail
      subst e
      have nd0 := nd
      rw [List.append_assoc] at nd
      have n1 := List.nodup_append.mp nd
      have skip : ∃ fp', SR K H (giveB r ds.tail os env) σ fp' ∧ fp'.Nodup ∧ ∀ a ∈ fp', a ∈ (f ++ f') ++ fp := by
        obtain ⟨fp', k1, k2, k3⟩ := give_ok (ds := ds.tail) h1 s2 s n1.2.1
        exact ⟨fp', k1, k2, fun a m => by rw [List.append_assoc]; exact List.mem_append_right _ (k3 a m)⟩
      show ∃ fp', SR K H (giveB r ds.tail os (match ds.head?, some o with
        | some d, some (some o) => if isImm d = true then env else if i < env.length then env.set i (some o) else env
        | _, _ => env)) σ fp' ∧ _
      cases hd : ds.head? with
      | none => exact skip
      | some d =>
        cases o with
        | none => exact skip
        | some o =>
          show ∃ fp', SR K H (giveB r ds.tail os (if isImm d = true then env else if i < env.length then env.set i (some o) else env)) σ fp' ∧ _
          by_cases hi : isImm d = true
          · rw [if_pos hi]; exact skip
          · rw [if_neg hi]
            by_cases hl : i < env.length
            · rw [if_pos hl]
              have nf : (f ++ fp).Nodup := List.nodup_append.mpr ⟨n1.1, (List.nodup_append.mp n1.2.1).2.1, fun a m b m' => n1.2.2 a m b (List.mem_append_right _ m')⟩
              obtain ⟨fp1, q1, q2, q3⟩ := put_slot s (ho o rfl) nf hl
              rw [set_back hx] at q1
              have n2 : (f' ++ fp1).Nodup := by
                refine List.nodup_append.mpr ⟨(List.nodup_append.mp n1.2.1).1, q2, fun a m b m' z => ?_⟩
                subst z
                rcases List.mem_append.mp (q3 a m') with m2 | m2
                · exact n1.2.2 a m2 a (List.mem_append_left _ m) rfl
                · exact (List.nodup_append.mp n1.2.1).2.2 a m a m2 rfl
              obtain ⟨fp', k1, k2, k3⟩ := give_ok (ds := ds.tail) h1 s2 q1 n2
              refine ⟨fp', k1, k2, fun a m => ?_⟩
              rw [List.append_assoc]
              rcases List.mem_append.mp (k3 a m) with m | m
              · exact List.mem_append_right _ (List.mem_append_left _ m)
              · exact (List.mem_append.mp (q3 a m)).elim (List.mem_append_left _) fun m => List.mem_append_right _ (List.mem_append_right _ m)
            · rw [if_neg hl]; exact skip
/-- f(..) -/
def eDef (F : FSm) (c : CSm) : ESm := fun env => (c env).bind fun a => (takeB a.1 a.2).bind fun t => (F t.1).map fun r => (r.1, giveB a.1 t.1 r.2 t.2)
theorem takeB_len : ∀ {xs : List (D ⊕ Nat)} {env env2 : Env} {ds : List D}, takeB xs env = some (ds, env2) → ds.length = xs.length
  | [], _, _, _, h => by cases h; rfl
  | .inl d :: r, _, _, _, h => by
    obtain ⟨⟨ds, en⟩, e1, e2⟩ := Option.map_eq_some_iff.mp h
    cases e2
    simp [takeB_len e1]
  | .inr i :: r, _, _, _, h => by
    unfold takeB at h
    split at h
    case h_2 => cases h
    obtain ⟨⟨ds, en⟩, e1, e2⟩ := Option.map_eq_some_iff.mp h
    cases e2
    simp [takeB_len e1]
/-- the call's heart: from the promise -/
theorem call_core {F : FSm} {xs : List (D ⊕ Nat)} {env1 env2 : Env} {ds : List D} {r : D} {outs : List (Option D)} {vs : List V} {fp fr fp1 : List Addr} {H H1 : Hp} {Q : VK} {E : XK}
    (v1 : Evo fp H (fr ++ fp1) H1) (s1 : SR K H1 env1 σ fp1) (c1 : CArg K H1 σ xs vs fr) (n1 : (fr ++ fp1).Nodup) (ht : takeB xs env1 = some (ds, env2)) (hF : F ds = some (r, outs)) (q : EQ K σ H fp r (giveB xs ds outs env2) Q) : Prom K F vs H1 Q E := by
  obtain ⟨fr2, fp2, k1, k2, k3, k4⟩ := take_ok s1 c1 n1 ht
  have v2 : Evo fp H (fr2 ++ fp2) H1 := v1.sub k4
  have n2 := List.nodup_append.mp k3
  refine ⟨ds, fr2, r, outs, k1, n2.1, hF, fun v H2 fr3 fo v3 rr so n3 => ?_⟩
  have lv2 : ∀ a ∈ fp2, Live H1 a := k2.live
  have nf2 : ∀ a ∈ fp2, a ∉ fr2 := fun a m m' => n2.2.2 a m' a m rfl
  have s2 : SR K H2 env2 σ fp2 := k2.mono v3.imm (v3.stay lv2 nf2)
  have ap : ∀ a ∈ fp2, a ∉ fr3 ++ fo := v3.apart lv2 nf2
  have n4 := List.nodup_append.mp n3
  have nfo : (fo ++ fp2).Nodup := List.nodup_append.mpr ⟨n4.2.1, n2.2.1, fun a m b m' z => ap b m' (by rw [← z]; exact List.mem_append_right _ m)⟩
  obtain ⟨fp', g1, g2, g3⟩ := give_ok (ds := ds) c1.pos so s2 nfo
  have v4 : Evo (fp2 ++ fr2) H1 (fp2 ++ (fr3 ++ fo)) H2 := v3.side
  have v5 : Evo fp H (fp2 ++ (fr3 ++ fo)) H2 := (v2.sub fun a m => (List.mem_append.mp m).elim (List.mem_append_right _) (List.mem_append_left _)).trans v4
  refine q v H2 fr3 fp' (v5.sub fun a m => ?_) g1 rr ?_
  · rcases List.mem_append.mp m with m | m
    · exact List.mem_append_right _ (List.mem_append_left _ m)
    · exact (List.mem_append.mp (g3 a m)).elim (fun m => List.mem_append_right _ (List.mem_append_right _ m)) (List.mem_append_left _)
  · refine List.nodup_append.mpr ⟨n4.1, g2, fun a m b m' z => ?_⟩
    subst z
    rcases List.mem_append.mp (g3 a m') with m2 | m2
    · exact n4.2.2 a m a m2 rfl
    · exact ap a m2 (List.mem_append_left _ m)
theorem de_call {x : Str} {p pos : Pos} {k j : Nat} {F : FSm} {f : CSm} (c : Cal X.prog X.w X.K X.mg X.base k x (Prom X.K F) []) (hr : Room j X.A) (hk : k ≤ j) (hg : Gl X x) (ha : DC X (e :: es) f)
    (hdb : (x == ("__debug__" : Str)) = false := by decide) (he : starEach (e :: es) X.env = (false, eval e X.env) :: starEach es X.env := by rfl) (hpl : (backTo pos (starEach es X.env)).any (·.1) = false := by rfl) :
    DE X (.Call (.Name x p) (e :: es) [] pos) (eDef F f) := by
  obtain ⟨t, pa, ha⟩ := ha
  refine ⟨_, pe_c c hr hk hg pa hdb he hpl, fun σ H env env' fp d s nd hf Q q => ?_⟩
  obtain ⟨⟨xs, en1⟩, e1, hf⟩ := Option.bind_eq_some_iff.mp hf
  obtain ⟨⟨ds, en2⟩, e2, hf⟩ := Option.bind_eq_some_iff.mp hf
  obtain ⟨⟨r, outs⟩, e3, e4⟩ := Option.map_eq_some_iff.mp hf
  cases e4
  refine ha σ H env en1 fp xs s nd e1 _ fun vs H1 fr fp1 v1 s1 c1 n1 => ?_
  show Prom X.K F (vs ++ []) H1 Q C8.E0
  rw [List.append_nil]
  exact call_core v1 s1 c1 n1 e2 e3 q
end

/-! ### a def by its body -/
def outsOf : (Nat → Bool) → Nat → Env → List (Option D)
  | _, 0, _ => []
  | P, n + 1, [] => none :: outsOf (fun i => P (i + 1)) n []
  | P, n + 1, o :: r => (if P 0 = true then o else none) :: outsOf (fun i => P (i + 1)) n r
def fnF (P : Nat → Bool) (n m : Nat) (body : SSm) : FSm := fun ds => if ds.length = n then (body (ds.map some ++ List.replicate m none)).bind fun r => match r.1 with
    | .rt d => some (d, outsOf P n r.2)
    | .nx => some (.non, outsOf P n r.2)
    | _ => none
  else none
theorem fnF_len {P : Nat → Bool} {n m : Nat} {body : SSm} {ds : List D} {r : D × List (Option D)} (h : fnF P n m body ds = some r) : ds.length = n := by
  unfold fnF at h
  split at h
  · assumption
  · cases h
section
variable {K : PySem.W.Frag} {H : Hp}
theorem sr_nones : ∀ (m : Nat), SR K H (List.replicate m none) (List.replicate m none) []
  | 0 => ⟨rfl, rfl⟩
  | m + 1 => ⟨none, List.replicate m none, rfl, sr_nones m⟩
theorem sr_start {m : Nat} : ∀ {ds : List D} {vs : List V} {fp : List Addr}, ROs K H ds vs fp → SR K H (ds.map some ++ List.replicate m none) (vs.map some ++ List.replicate m none) fp
  | [], _, _, h => by rw [h.1, h.2]; exact sr_nones m
  | d :: ds, _, _, ⟨x, xs, f, f', h1, h2, h3, h4⟩ => by
    subst h1 h2
    exact ⟨x, _, f, f', rfl, rfl, h3, sr_start h4⟩
theorem outs_ok : ∀ {P : Nat → Bool} {vs : List V} {env : Env} {σ rest : L2.St} {fp : List Addr}, SR K H env σ fp → fp.Nodup → σ.length = (vs.map some ++ rest).length → (∀ i, P i = true → σ[i]? = (vs.map some ++ rest)[i]?) →
    ∃ fo, SR K H (outsOf P vs.length env) (vs.map some) fo ∧ fo.Nodup ∧ ∀ a ∈ fo, a ∈ fp
  | P, [], env, σ, rest, fp, s, nd, hl, hp => ⟨[], by unfold outsOf; exact ⟨rfl, rfl⟩, List.nodup_nil, fun _ m => (nomatch m)⟩
  | P, v :: vs, [], σ, rest, fp, s, nd, hl, hp => by rw [s.1] at hl; simp at hl
  | P, v :: vs, none :: env, _, rest, fp, ⟨y, τ, h1, h2⟩, nd, hl, hp => by
    subst h1
    obtain ⟨fo, k1, k2, k3⟩ := outs_ok (P := fun i => P (i + 1)) (vs := vs) (rest := rest) h2 nd (by simpa using hl) fun i hi => by simpa using hp (i + 1) hi
    refine ⟨fo, ?_, k2, k3⟩
    show SR K H ((if P 0 = true then none else none) :: outsOf (fun i => P (i + 1)) vs.length env) (some v :: vs.map some) fo
    rw [ite_self]
    exact ⟨some v, _, rfl, k1⟩
  | P, v :: vs, some d :: env, _, rest, _, ⟨y, τ, f, f', h1, h2, h3, h4⟩, nd, hl, hp => by
    subst h1 h2
    have n1 := List.nodup_append.mp nd
    obtain ⟨fo, k1, k2, k3⟩ := outs_ok (P := fun i => P (i + 1)) (vs := vs) (rest := rest) h4 n1.2.1 (by simpa using hl) fun i hi => by simpa using hp (i + 1) hi
    show ∃ fo, SR K H ((if P 0 = true then some d else none) :: outsOf (fun i => P (i + 1)) vs.length env) (some v :: vs.map some) fo ∧ _
    by_cases h0 : P 0 = true
    · rw [if_pos h0]
      have e := hp 0 h0
      simp at e
      subst e
      refine ⟨f ++ fo, ⟨y, _, f, fo, rfl, rfl, h3, k1⟩, List.nodup_append.mpr ⟨n1.1, k2, fun a m b m' => n1.2.2 a m b (k3 b m')⟩, fun a m => ?_⟩
      exact (List.mem_append.mp m).elim (List.mem_append_left _) fun m => List.mem_append_right _ (k3 a m)
    · rw [if_neg h0]
      exact ⟨fo, ⟨some v, _, rfl, k1⟩, k2, fun a m => List.mem_append_right _ (k3 a m)⟩
end
theorem fnok_of {Pr : Program} {w : World} {K : PySem.W.Frag} {mg : Str → Option Value} {base : Heap} {x : Str} {st : Stmt} {f : Addr} {fd : FuncData} {N ps : List Str} {k m : Nat} {P : Nat → Bool} {body : SSm}
    (F : C8.Fun K x x st f fd) (S : FnScope N ps (fnScope st)) (hm : N.length - ps.length = m)
    (hb : ∀ (cdv : Value) (A : Around) (outer : List PySem.Env) (s : Shared) (H : Hp) (E : XK), Room k (A.deeper (envOfC x (fnScope st) s.heap.objs.size f cdv)) →
      DSs P (cxOf C8.CX0 Pr w K mg base N x (fnScope st) f cdv A outer s H E).nox (fnBody st) body) : FnOk Pr w K mg base C8.CX0 (k + 1) f fd ps (Prom K (fnF P ps.length m body)) := by
  have hlen : ∀ (vs : List V) (H : Hp) (Q : VK) (E : XK), Prom K (fnF P ps.length m body) vs H Q E → vs.length = ps.length := fun vs H Q E ⟨ds, fp, r, outs, h1, _, h2, _⟩ => by
    rw [h1.length, fnF_len h2]
  refine fn0 F S hlen fun cdv A outer s H vs Q E hr hsp => ⟨_, hb cdv A outer s H E hr, ?_⟩
  have hl := hlen vs H Q E hsp
  obtain ⟨ds, fp, r, outs, h1, nd, h2, q⟩ := hsp
  unfold fnF at h2
  rw [if_pos (fnF_len (P := P) (m := m) (body := body) (r := (r, outs)) (by unfold fnF; exact h2))] at h2
  obtain ⟨⟨o, env'⟩, e1, e2⟩ := Option.bind_eq_some_iff.mp h2
  have sr : SR K H (ds.map some ++ List.replicate m none) (L2.start N vs) fp := by
    unfold L2.start
    rw [hl, hm]
    exact sr_start h1
  have fin : ∀ {σ' : L2.St} {H' : Hp} {fp' : List Addr}, SR K H' env' σ' fp' → fp'.Nodup → Pin P (L2.start N vs) σ' → ∃ fo, SR K H' (outsOf P ps.length env') (vs.map some) fo ∧ fo.Nodup ∧ ∀ a ∈ fo, a ∈ fp' := fun {σ' H' fp'} s n p => by
    have z := outs_ok (P := P) (vs := vs) (rest := List.replicate (N.length - vs.length) none) s n p.1 fun i hi => p.2 i hi
    rw [hl] at z
    exact z
  refine ⟨_, env', fp, o, sr, nd, e1, ?_⟩
  cases o with
  | bk => cases e2
  | ct => cases e2
  | nx =>
    cases e2
    intro σ' H' fp' ev s' n' p'
    obtain ⟨fo, k1, k2, k3⟩ := fin s' n' p'
    exact q .non H' [] fo (ev.sub k3) ⟨rfl, rfl⟩ k1 k2
  | rt d =>
    cases e2
    intro v σ' H' fr fp' ev s' rr n' p'
    have n1 := List.nodup_append.mp n'
    obtain ⟨fo, k1, k2, k3⟩ := fin s' n1.2.1 p'
    exact q v H' fr fo (ev.sub fun a m => (List.mem_append.mp m).elim (List.mem_append_left _) fun m => List.mem_append_right _ (k3 a m)) rr k1 (List.nodup_append.mpr ⟨n1.1, k2, fun a m b m' => n1.2.2 a m b (k3 b m')⟩)
theorem cal_of {Pr : Program} {w : World} {K : PySem.W.Frag} {mg : Str → Option Value} {base : Heap} {x : Str} {st : Stmt} {f : Addr} {fd : FuncData} {N ps : List Str} {k m : Nat} {P : Nat → Bool} {body : SSm}
    (F : Def K mg x st f fd) (b : Binds K fd ps []) (S : FnScope N ps (fnScope st)) (hm : N.length - ps.length = m)
    (hb : ∀ (cdv : Value) (A : Around) (outer : List PySem.Env) (s : Shared) (H : Hp) (E : XK), Room k (A.deeper (envOfC x (fnScope st) s.heap.objs.size f cdv)) →
      DSs P (cxOf C8.CX0 Pr w K mg base N x (fnScope st) f cdv A outer s H E).nox (fnBody st) body) : Cal Pr w K mg base (k + 1) x (Prom K (fnF P ps.length m body)) [] :=
  ⟨f, fd, ps, [], fnok_of F.fn S hm hb, F.mgf, F.kp, b, .nil⟩
end DL

set_option maxHeartbeats 1000000
/-! DL, part k: places within places; stores -/
namespace DL
open PySem L2

/-! ### more operations -/
def dMu : D → D → Option D
  | .int i, .int j => if bitsI i + bitsI j ≤ 134217728 then some (.int (i * j)) else none
  | .lst false ds, .int k => if (-9223372036854775808 ≤ k ∧ k < 9223372036854775808) ∧ ds.length * k.toNat ≤ szL ∧ ds.all isImm = true then some (.lst false (List.replicate k.toNat ds).flatten) else none
  | _, _ => none
section
variable {X : Cx}
theorem o_mul : O2 true X (binaryOp .Mult) dMu := by
  refine ⟨_, op_mulX.or op_rep, fun H x y dx dy d fx fy hx hy hg Q q => ?_⟩
  unfold dMu at hg
  split at hg
  · split at hg
    · rename_i h
      cases hg
      refine .inl ⟨_, _, hx.2, hy.2, ?_, q.int⟩
      show (bitsI _ : Int) + (bitsI _ : Int) ≤ 134217728
      omega
    · cases hg
  · split at hg
    · rename_i h
      cases hg
      obtain ⟨a, xs, f, h1, _, h3, h4⟩ := hx.own
      refine .inr ⟨a, _, xs, h1, hy.2, h3, h.1.1, h.1.2, by rw [szL_eq, h4.length]; exact h.2.1, fun p hp => q.lst ((h4.ris h.2.2).rep _) hp⟩
    · cases hg
  · cases hg
def dLtX : D → D → Option D
  | .tup ds, .tup es => (intsD ds).bind fun ns => (intsD es).map fun ms => .bl (HT.lexLt ns ms)
  | a, b => dLt a b
theorem RIs.ints {K : PySem.W.Frag} {H : Hp} {ns : List Int} {xs : List V} (h : RIs K H (ns.map D.int) xs) : xs = ns.map V.int := by
  induction ns generalizing xs with
  | nil => exact h
  | cons n r ih =>
    obtain ⟨x, ys, h1, h2, h3⟩ := h
    rw [h1, ih h3, show x = V.int n from h2]; rfl
theorem o_ltX (hu : X.A.units < cLine) : O2 true X (compareOp .Lt) dLtX := by
  obtain ⟨r, hr, ho⟩ := o_lt (X := X)
  refine ⟨_, hr.or (op_ltT hu), fun H x y dx dy d fx fy hx hy hg Q q => ?_⟩
  unfold dLtX at hg
  split at hg
  · obtain ⟨ns, e1, hg⟩ := Option.bind_eq_some_iff.mp hg
    obtain ⟨ms, e2, e3⟩ := Option.map_eq_some_iff.mp hg
    cases e3
    obtain ⟨_, a, xs, h1, h2, h3⟩ := hx
    obtain ⟨_, b, ys, h4, h5, h6⟩ := hy
    rw [intsD_all e1] at h3
    rw [intsD_all e2] at h6
    rw [h3.ints] at h2
    rw [h6.ints] at h5
    exact .inr ⟨a, b, ns, ms, h1, h4, SqT.of h2, SqT.of h5, q.bl⟩
  · exact .inl (ho H x y dx dy d fx fy hx hy hg Q q)
end

/-! ### a place: what stands there, and the environment if other data stood there -/
def Foc (K : PySem.W.Frag) (H : Hp) (σ : L2.St) (fp : List Addr) (d : D) (v : V) (put : D → Env) : Prop := ∃ pre f post, fp = pre ++ (f ++ post) ∧ RO K H d v f ∧
  ∀ (H' : Hp) (d' : D) (f' : List Addr), ImmExt H H' → (∀ a, a ∈ pre ∨ a ∈ post → H' a = H a) → RO K H' d' v f' → SR K H' (put d') σ (pre ++ (f' ++ post))
abbrev PlSm := Env → Option (D × (D → Env))
def DPl (X : Cx) (e : Expr) (f : PlSm) : Prop := ∃ t : TE, PE X e t ∧ ∀ (σ : L2.St) (H : Hp) (env : Env) (fp : List Addr) (d : D) (put : D → Env), SR X.K H env σ fp → fp.Nodup → f env = some (d, put) → ∀ Q : VK, (∀ v H', Same H H' → Foc X.K H' σ fp d v put → Q v H') → t σ H Q
section
variable {K : PySem.W.Frag} {H H1 : Hp} {σ : L2.St} {env : Env} {fp : List Addr} {d : D} {v : V} {put : D → Env}
theorem Foc.live_sides (s : SR K H env σ fp) {pre f post : List Addr} (e : fp = pre ++ (f ++ post)) : ∀ a, a ∈ pre ∨ a ∈ post → Live H a := fun a m => s.live a (by
  rw [e]
  exact m.elim (List.mem_append_left _) fun m => List.mem_append_right _ (List.mem_append_right _ m))
theorem Foc.same (h : Foc K H σ fp d v put) (s : SR K H env σ fp) (e : Same H H1) : Foc K H1 σ fp d v put := by
  obtain ⟨pre, f, post, h1, h2, h3⟩ := h
  have lv := Foc.live_sides s h1
  refine ⟨pre, f, post, h1, h2.same e, fun H' d' f' im st r => h3 H' d' f' ((ImmExt.of_same e).trans im) (fun a m => ?_) r⟩
  obtain ⟨o, ho, _⟩ := lv a m
  rw [st a m, e a o ho, ho]
theorem Foc.slot {i : Nat} (s : SR K H env σ fp) (h : env[i]? = some (some d)) : ∃ v, σ[i]? = some (some v) ∧ Foc K H σ fp d v fun d' => env.set i (some d') := by
  obtain ⟨v, pre, f, post, e1, e2, r, p, _⟩ := s.at h
  refine ⟨v, e1, pre, f, post, e2, r, fun H' d' f' im st r' => ?_⟩
  have z := p H' d' v f' im st r'
  rw [set_back e1] at z
  exact z
/-- one item of several, in focus -/
theorem ROs.focus : ∀ {ds : List D} {xs : List V} {f : List Addr} {j : Nat} {d : D}, ROs K H ds xs f → ds[j]? = some d → ∃ x f1 g f2, xs[j]? = some x ∧ f = f1 ++ (g ++ f2) ∧ RO K H d x g ∧
    ∀ (H' : Hp) (d' : D) (g' : List Addr), ImmExt H H' → (∀ a, a ∈ f1 ∨ a ∈ f2 → H' a = H a) → RO K H' d' x g' → ROs K H' (ds.set j d') xs (f1 ++ (g' ++ f2))
  | [], _, _, _, _, _, e => by simp at e
  | d0 :: ds, _, _, 0, d, ⟨y, ys, f1, f2, h1, h2, h3, h4⟩, e => by
    have e' : d0 = d := by simpa using e
    subst e'
    refine ⟨y, [], f1, f2, by rw [h1]; rfl, h2, h3, fun H' d' g' im st r => ?_⟩
    rw [h1]
    exact ⟨y, ys, g', f2, rfl, rfl, r, ROs.mono im _ _ _ (fun a m => st a (.inr m)) h4⟩
  | d0 :: ds, _, _, j + 1, d, ⟨y, ys, f1, f2, h1, h2, h3, h4⟩, e => by
    obtain ⟨x, k1, g, k2, e1, e2, r, p⟩ := h4.focus (j := j) (d := d) (by simpa using e)
    refine ⟨x, f1 ++ k1, g, k2, by rw [h1]; simpa using e1, by rw [h2, e2, List.append_assoc], r, fun H' d' g' im st r' => ?_⟩
    rw [h1]
    exact ⟨y, ys, f1, k1 ++ (g' ++ k2), rfl, by rw [List.append_assoc], RO.mono im _ _ _ (fun a m => st a (.inl (List.mem_append_left _ m))) h3, p H' d' g' im (fun a m => st a (m.imp (List.mem_append_right _) id)) r'⟩
theorem Foc.lst {ds : List D} {j : Nat} {d : D} (h : Foc K H σ fp (.lst false ds) v put) (s : SR K H env σ fp) (e : ds[j]? = some d) : ∃ a xs x, v = .ref a ∧ H a = some (.lst xs) ∧ xs.length = ds.length ∧ xs[j]? = some x ∧
    Foc K H σ fp d x fun d' => put (.lst false (ds.set j d')) := by
  obtain ⟨pre, f, post, h1, h2, h3⟩ := h
  obtain ⟨a, xs, g, k1, k2, k3, k4⟩ := h2.own
  obtain ⟨x, g1, g0, g2, e1, e2, r, p⟩ := k4.focus e
  refine ⟨a, xs, x, k1, k3, k4.length, e1, pre ++ (a :: g1), g0, g2 ++ post, ?_, r, fun H' d' f' im st r' => ?_⟩
  · rw [h1, k2, e2]; simp
  · have ha : H' a = some (.lst xs) := by rw [st a (.inl (List.mem_append_right _ List.mem_cons_self)), k3]
    have z := h3 H' (.lst false (ds.set j d')) (a :: (g1 ++ (f' ++ g2))) im (fun b m => st b (m.imp (List.mem_append_left _) (List.mem_append_right _)))
      (.inr ⟨rfl, a, xs, _, k1, rfl, ha, p H' d' f' im (fun b m => st b (m.imp (fun m => List.mem_append_right _ (List.mem_cons_of_mem _ m)) (List.mem_append_left _))) r'⟩)
    have e9 : pre ++ (a :: g1) ++ (f' ++ (g2 ++ post)) = pre ++ (a :: (g1 ++ (f' ++ g2)) ++ post) := by simp
    rw [e9]; exact z
end
def plVar (i : Nat) : PlSm := fun env => match env[i]? with
  | some (some d) => some (d, fun d' => env.set i (some d'))
  | _ => none
def subP (d k : D) (put : D → Env) : Option (D × (D → Env)) := match d, k with
  | .lst false ds, .int i => (ixN ds.length i).bind fun j => (ds[j]?).map fun x => (x, fun d' => put (.lst false (ds.set j d')))
  | _, _ => none
theorem subP_inv {d k x : D} {put put' : D → Env} (h : subP d k put = some (x, put')) : ∃ ds i j, d = .lst false ds ∧ k = .int i ∧ ixN ds.length i = some j ∧ ds[j]? = some x ∧ put' = fun d' => put (.lst false (ds.set j d')) := by
  unfold subP at h
  split at h
  case h_2 => cases h
  obtain ⟨j, e3, h⟩ := Option.bind_eq_some_iff.mp h
  obtain ⟨x, e4, e5⟩ := Option.map_eq_some_iff.mp h
  cases e5
  exact ⟨_, _, j, rfl, rfl, e3, e4, rfl⟩
def plIx (p : PlSm) (idx : PSm) : PlSm := fun env => (p env).bind fun q => (idx env).bind fun k => subP q.1 k q.2
section
variable {X : Cx} {o e : Expr} {pos : Pos}
theorem dpl_var {i : Nat} (h : PE X e (tVar i)) : DPl X e (plVar i) := by
  refine ⟨_, h, fun σ H env fp d put s nd hf Q q => ?_⟩
  unfold plVar at hf
  split at hf
  case h_2 => cases hf
  rename_i d0 hd
  obtain ⟨v, e1, f⟩ := Foc.slot s hd
  cases hf
  exact ⟨v, e1, q v H (Same.refl H) f⟩
theorem dpl_ix {p : PlSm} {idx : PSm} (ho : DPl X o p) (hi : DB false X e idx) (hs : PlainIx e) : DPl X (.Subscript o e pos) (plIx p idx) := by
  obtain ⟨to, po, ho⟩ := ho
  obtain ⟨ti, pi, hi⟩ := hi
  refine ⟨_, pe_ix ix_list po pi hs, fun σ H env fp d put s nd hf Q q => ?_⟩
  obtain ⟨⟨d0, put0⟩, e1, hf⟩ := Option.bind_eq_some_iff.mp hf
  obtain ⟨k, e2, hf⟩ := Option.bind_eq_some_iff.mp hf
  obtain ⟨ds, i, j, z1, z2, e3, e4, z3⟩ := subP_inv hf
  simp only at z1
  subst z1 z2 z3
  refine ho σ H env fp _ put0 s nd e1 _ fun v H1 sm1 fc => ?_
  refine hi σ H1 env fp _ (s.same sm1) nd e2 _ fun w H2 fw sm2 rw _ => ?_
  obtain ⟨a, xs, y, k1, k2, k3, k4, k5⟩ := (fc.same (s.same sm1) sm2).lst ((s.same sm1).same sm2) e4
  refine ⟨a, xs, i, y, k1, rw.2, .inl (.inl k2), ?_, q y H2 (sm1.trans sm2) k5⟩
  unfold L2.atI
  rw [k3, e3]
  exact k4
end

/-! ### a method on a place -/
section
variable {P : Nat → Bool} {X : Cx} {o e : Expr} {es : List Expr} {name : Str} {apos cpos : Pos} {T id : String} {m : D → List D → Option (D × D)}
def eMetP (p : PlSm) (T : String) (m : D → List D → Option (D × D)) (f : APm) : ESm := fun env => (p env).bind fun q => if okRecv T q.1 = true then (f env).bind fun ds => (m q.1 ds).map fun r => (r.1, q.2 r.2) else none
theorem foc_meth {K : PySem.W.Frag} {r : V → List V → Hp → VK → Prop} {σ : L2.St} {H : Hp} {env : Env} {put : D → Env} {fp fr : List Addr} {d d' ret : D} {ds : List D} {vs : List V} {x : V} {Q : VK}
    (ho : ∀ (H : Hp) (x : V) (dx : D) (fx : List Addr) (vs : List V) (ds : List D) (fv : List Addr) (ret dx' : D), RO K H dx x fx → ROs K H ds vs fv → (fx ++ fv).Nodup → m dx ds = some (ret, dx') → ∀ Q : VK,
      (∀ v H' fr f', Evo (fx ++ fv) H (fr ++ f') H' → RO K H' dx' x f' → RO K H' ret v fr → (fr ++ f').Nodup → Q v H') → r x vs H Q)
    (fc : Foc K H σ fp d x put) (s : SR K H env σ fp) (rs : ROs K H ds vs fr) (nd : (fr ++ fp).Nodup) (hm : m d ds = some (ret, d'))
    (q : ∀ v H' f1 f2, Evo (fr ++ fp) H (f1 ++ f2) H' → SR K H' (put d') σ f2 → RO K H' ret v f1 → (f1 ++ f2).Nodup → Q v H') : r x vs H Q := by
  obtain ⟨pre, f, post, e2, r0, p⟩ := fc
  have n0 := List.nodup_append.mp nd
  have n1 := List.nodup_append.mp (e2 ▸ n0.2.1)
  have n2 := List.nodup_append.mp n1.2.1
  have inF : ∀ a ∈ f, a ∈ fp := fun a m => by rw [e2]; exact List.mem_append_right _ (List.mem_append_left _ m)
  have inP : ∀ a, a ∈ pre ∨ a ∈ post → a ∈ fp := fun a m => by
    rw [e2]
    exact m.elim (List.mem_append_left _) fun m => List.mem_append_right _ (List.mem_append_right _ m)
  have nP : ∀ a, a ∈ pre ∨ a ∈ post → a ∉ f ++ fr := fun a m m' => by
    rcases List.mem_append.mp m' with m' | m'
    · exact m.elim (fun m => n1.2.2 a m a (List.mem_append_left _ m') rfl) fun m => n2.2.2 a m' a m rfl
    · exact n0.2.2 a m' a (inP a m) rfl
  refine ho H x d f vs ds fr ret d' r0 rs (List.nodup_append.mpr ⟨n2.1, n0.1, fun a ma b mb z => n0.2.2 b mb a (inF a ma) z.symm⟩) hm Q fun v H' f1 f2 ev ro rr nn => ?_
  have lvP : ∀ a, a ∈ pre ∨ a ∈ post → Live H a := fun a m => s.live a (inP a m)
  have st : ∀ a, a ∈ pre ∨ a ∈ post → H' a = H a := fun a m => by
    obtain ⟨ob, h, _⟩ := lvP a m
    rw [h]; exact ev.keep a ob h (nP a m)
  have ap : ∀ a, a ∈ pre ∨ a ∈ post → a ∉ f1 ++ f2 := fun a m m' => by
    rcases ev.own a m' with z | z
    · exact nP a m z
    · obtain ⟨ob, h, _⟩ := lvP a m
      rw [h] at z; cases z
  have z := p H' d' f2 ev.imm st ro
  have nn' := List.nodup_append.mp nn
  refine q v H' f1 (pre ++ (f2 ++ post)) ⟨fun a ob h n => ev.keep a ob h fun m => n ?_, fun a m => ?_, ev.imm⟩ z rr ?_
  · rcases List.mem_append.mp m with m | m
    · exact List.mem_append_right _ (inF a m)
    · exact List.mem_append_left _ m
  · have back : a ∈ f1 ++ f2 → a ∈ fr ++ fp ∨ H a = none := fun m => (ev.own a m).imp (fun m => (List.mem_append.mp m).elim (fun m => List.mem_append_right _ (inF a m)) (List.mem_append_left _)) id
    rcases List.mem_append.mp m with m | m
    · exact back (List.mem_append_left _ m)
    · rcases List.mem_append.mp m with m | m
      · exact .inl (List.mem_append_right _ (inP a (.inl m)))
      · rcases List.mem_append.mp m with m | m
        · exact back (List.mem_append_right _ m)
        · exact .inl (List.mem_append_right _ (inP a (.inr m)))
  · refine List.nodup_append.mpr ⟨nn'.1, List.nodup_append.mpr ⟨n1.1, List.nodup_append.mpr ⟨nn'.2.1, n2.2.1, fun a m b m' z => ap b (.inr m') (by rw [← z]; exact List.mem_append_right _ m)⟩, fun a m b m' z => ?_⟩, fun a m b m' z => ?_⟩
    · subst z
      rcases List.mem_append.mp m' with m' | m'
      · exact ap a (.inl m) (List.mem_append_right _ m')
      · exact n1.2.2 a m a (List.mem_append_right _ m') rfl
    · subst z
      rcases List.mem_append.mp m' with m' | m'
      · exact ap a (.inl m') (List.mem_append_left _ m)
      · rcases List.mem_append.mp m' with m' | m'
        · exact nn'.2.2 a m a m' rfl
        · exact ap a (.inr m') (List.mem_append_left _ m)
theorem de_metP {p : PlSm} {f : APm} (pa : PlainAttrs T) (slot : Slot T name id) (hty : typeOf (.builtin id) = pure (.type "method_descriptor")) (hm : MO X T id m) (ho : DPl X o p) (ha : DAP true X (e :: es) f)
    (hbase : attributeBase o name X.env (eval o X.env) = eval o X.env := by rfl)
    (hfew : ((backTo cpos (starEach (e :: es) X.env)).all (fun x => !x.1) && (backToKw cpos (keywordEach [] X.env)).all (fun x => x.1.isSome) && decide ((e :: es).length + ([] : List Keyword).length + (if ([] : List Keyword).isEmpty then 0 else 1) < 30)) = true := by rfl)
    (hline : (apos.endLine == cpos.line) = true := by rfl) (hs : starEach (e :: es) X.env = (false, eval e X.env) :: starEach es X.env := by rfl) (hplain : (backTo cpos (starEach es X.env)).any (·.1) = false := by rfl) :
    DE X (.Call (.Attribute o name apos) (e :: es) [] cpos) (eMetP p T m f) := by
  obtain ⟨r, hr, _, hm⟩ := hm
  obtain ⟨to, po, ho⟩ := ho
  obtain ⟨ta, pa', ha⟩ := ha
  refine ⟨_, pe_bm pa slot hty hr po pa' hbase hfew hline hs hplain, fun σ H env env' fp d s nd hf Q q => ?_⟩
  obtain ⟨⟨d0, put⟩, e1, hf⟩ := Option.bind_eq_some_iff.mp hf
  simp only at hf
  split at hf
  case isFalse => cases hf
  rename_i hok
  obtain ⟨ds, e2, hf⟩ := Option.bind_eq_some_iff.mp hf
  obtain ⟨⟨ret, d2⟩, e3, e4⟩ := Option.map_eq_some_iff.mp hf
  cases e4
  refine ho σ H env fp d0 put s nd e1 _ fun v H1 sm1 fc => ?_
  have s1 := s.same sm1
  have fc' := fc
  obtain ⟨pre, f0, post, _, r0, _⟩ := fc'
  refine ⟨ty_recv r0 hok, ?_⟩
  refine ha σ H1 env fp ds s1 nd e2 _ fun vs H2 fr sm2 rs fo => ?_
  have fo := fo rfl
  refine foc_meth hm (fc.same s1 sm2) (s1.same sm2) rs (fresh_app s1 nd fo) e3 fun v' H' f1 f2 ev sr rr nn => ?_
  exact q v' H' f1 f2 (((Evo.of_same (fp := fp) (fr := []) sm1 fun a m => (nomatch m)).trans (.of_same sm2 fo.2)).trans ev) sr rr nn
theorem de_metP0 {p : PlSm} (pa : PlainAttrs T) (slot : Slot T name id) (hty : typeOf (.builtin id) = pure (.type "method_descriptor")) (hm : MO X T id m) (ho : DPl X o p)
    (hbase : attributeBase o name X.env (eval o X.env) = eval o X.env := by rfl) (hline : (apos.endLine == cpos.line) = true := by rfl) : DE X (.Call (.Attribute o name apos) [] [] cpos) (eMetP p T m fun _ => some []) := by
  obtain ⟨r, hr, _, hm⟩ := hm
  obtain ⟨to, po, ho⟩ := ho
  refine ⟨_, pe_bm0 pa slot hty hr po hbase hline, fun σ H env env' fp d s nd hf Q q => ?_⟩
  obtain ⟨⟨d0, put⟩, e1, hf⟩ := Option.bind_eq_some_iff.mp hf
  simp only at hf
  split at hf
  case isFalse => cases hf
  rename_i hok
  obtain ⟨ds, e2, hf⟩ := Option.bind_eq_some_iff.mp hf
  obtain ⟨⟨ret, d2⟩, e3, e4⟩ := Option.map_eq_some_iff.mp hf
  cases e4
  cases e2
  refine ho σ H env fp d0 put s nd e1 _ fun v H1 sm1 fc => ?_
  have s1 := s.same sm1
  have fc' := fc
  obtain ⟨pre, f0, post, _, r0, _⟩ := fc'
  refine ⟨ty_recv r0 hok, ?_⟩
  refine foc_meth (fr := []) hm fc s1 (show ROs X.K _ [] [] [] from ⟨rfl, rfl⟩) nd e3 fun v' H' f1 f2 ev sr rr nn => ?_
  exact q v' H' f1 f2 ((Evo.of_same (fp := fp) (fr := []) sm1 fun a m => (nomatch m)).trans ev) sr rr nn
end
end DL

set_option maxHeartbeats 1000000
/-! DL, part l: stores by place, methods of texts, sorted, op=, tables -/
namespace DL
open PySem L2

/-! ### a store -/
section
variable {κ α : Type} [DecidableEq κ]
def setZ : List κ → List α → κ → α → List α
  | k :: ks, d :: ds, j, v => (if k = j then v else d) :: setZ ks ds j v
  | _, ds, _, _ => ds
theorem setZ_len : ∀ (ks : List κ) (ds : List α) (j : κ) (v : α), (setZ ks ds j v).length = ds.length
  | [], ds, _, _ => by cases ds <;> rfl
  | k :: ks, [], _, _ => rfl
  | k :: ks, d :: ds, j, v => by simp [setZ, setZ_len ks ds j v]
theorem putK_some : ∀ (ks : List κ) (xs : List V) (j : κ) (v : V), (ks.zip xs).map (fun kv => if kv.1 = j then (kv.1, v) else kv) = ks.zip (setZ ks xs j v)
  | [], xs, _, _ => by simp
  | k :: ks, [], _, _ => by simp [setZ]
  | k :: ks, x :: xs, j, v => by
    have ih := putK_some ks xs j v
    by_cases e : k = j
    · simp [setZ, e, ih]
    · simp [setZ, e, ih]
theorem putK_old {ks : List κ} {xs : List V} {j : κ} {v : V} (h : (getZ ks xs j).isSome = true) : putK (ks.zip xs) j v = ks.zip (setZ ks xs j v) := by
  unfold putK
  rw [valV_any, getZ_val, if_pos h]
  exact putK_some ks xs j v
theorem putK_fresh {ks : List κ} {xs : List V} {j : κ} {v : V} (hl : ks.length = xs.length) (h : getZ ks xs j = none) : putK (ks.zip xs) j v = (ks ++ [j]).zip (xs ++ [v]) := by
  rw [putK_new v (by rw [getZ_val]; exact h), List.zip_append hl]; rfl
end
def dPut (a k d : D) : Option D := match a with
  | .lst false ds => match k with | .int i => (ixN ds.length i).map fun j => .lst false (ds.set j d) | _ => none
  | .dcK false ks ds => (kD k).bind fun j => if ks.length < szL then match getZ ks ds j with
    | none => some (.dcK false (ks ++ [j]) (ds ++ [d]))
    | some _ => if isImm d = true then some (.dcK false ks (setZ ks ds j d)) else none
    else none
  | .dcT false ks ds => (tD k).bind fun j => if ks.length < szL then match getZ ks ds j with
    | none => some (.dcT false (ks ++ [j]) (ds ++ [d]))
    | some _ => if isImm d = true then some (.dcT false ks (setZ ks ds j d)) else none
    else none
  | _ => none
section
variable {K : PySem.W.Frag} {H : Hp}
theorem ROs.setZ {κ : Type} [DecidableEq κ] {j : κ} {d : D} {x : V} (r : RI K H d x) : ∀ {ks : List κ} {ds : List D} {xs : List V} {f : List Addr}, ROs K H ds xs f → f.Nodup → ∃ f', ROs K H (DL.setZ ks ds j d) (DL.setZ ks xs j x) f' ∧ f'.Nodup ∧ ∀ a ∈ f', a ∈ f
  | [], ds, xs, f, h, nd => ⟨f, by cases ds <;> cases xs <;> exact h, nd, fun _ m => m⟩
  | k :: ks, [], xs, f, h, nd => by rw [h.1, h.2]; exact ⟨[], ⟨rfl, rfl⟩, List.nodup_nil, fun _ m => m⟩
  | k :: ks, d0 :: ds, _, _, ⟨y, ys, f1, f2, h1, h2, h3, h4⟩, nd => by
    subst h1 h2
    have n1 := List.nodup_append.mp nd
    obtain ⟨g, k1, k2, k3⟩ := h4.setZ r (ks := ks) (j := j) (d := d) (x := x) n1.2.1
    by_cases e : k = j
    · refine ⟨g, ?_, k2, fun a m => List.mem_append_right _ (k3 a m)⟩
      simp only [DL.setZ, if_pos e]
      exact ⟨x, _, [], g, rfl, rfl, r.ro, k1⟩
    · refine ⟨f1 ++ g, ?_, List.nodup_append.mpr ⟨n1.1, k2, fun a m b m' => n1.2.2 a m b (k3 b m')⟩, fun a m => (List.mem_append.mp m).elim (List.mem_append_left _) fun m => List.mem_append_right _ (k3 a m)⟩
      simp only [DL.setZ, if_neg e]
      exact ⟨y, _, f1, g, rfl, rfl, h3, k1⟩
theorem ROs.put : ∀ {ds : List D} {xs : List V} {f g : List Addr} {j : Nat} {d : D} {x : V}, ROs K H ds xs f → RO K H d x g → (f ++ g).Nodup → j < ds.length → ∃ f', ROs K H (ds.set j d) (xs.set j x) f' ∧ f'.Nodup ∧ ∀ a ∈ f', a ∈ f ++ g
  | [], _, _, _, _, _, _, _, _, _, e => absurd e (Nat.not_lt_zero _)
  | d0 :: ds, _, _, g, 0, d, x, ⟨y, ys, f1, f2, h1, h2, h3, h4⟩, r, nd, _ => by
    subst h1 h2
    have n1 := List.nodup_append.mp nd
    have n2 := List.nodup_append.mp n1.1
    refine ⟨g ++ f2, ⟨x, ys, g, f2, rfl, rfl, r, h4⟩, List.nodup_append.mpr ⟨n1.2.1, n2.2.1, fun a m b m' z => n1.2.2 b (List.mem_append_right _ m') a m z.symm⟩, fun a m => ?_⟩
    rcases List.mem_append.mp m with m | m
    · exact List.mem_append_right _ m
    · exact List.mem_append_left _ (List.mem_append_right _ m)
  | d0 :: ds, _, _, g, j + 1, d, x, ⟨y, ys, f1, f2, h1, h2, h3, h4⟩, r, nd, e => by
    subst h1 h2
    rw [List.append_assoc] at nd
    have n1 := List.nodup_append.mp nd
    obtain ⟨f', k1, k2, k3⟩ := h4.put r n1.2.1 (j := j) (by simpa using e)
    refine ⟨f1 ++ f', ⟨y, _, f1, f', rfl, rfl, h3, k1⟩, List.nodup_append.mpr ⟨n1.1, k2, fun a m b m' => n1.2.2 a m b (k3 b m')⟩, fun a m => ?_⟩
    rw [List.append_assoc]
    exact (List.mem_append.mp m).elim (List.mem_append_left _) fun m => List.mem_append_right _ (k3 a m)
/-- what is written over: the rest stays -/
theorem upd_im {a : Addr} {o o' : HO} (h : H a = some o) (hm : Mut (some o)) : ImmExt H (upd H a o') :=
  ⟨fun b xs hb => by rw [upd_ne (fun e => by rw [e, h] at hb; cases hb; exact hm)]; exact hb, fun b u w hb => by rw [upd_ne (fun e => by rw [e, h] at hb; cases hb; exact hm)]; exact hb⟩
theorem upd_ev {a : Addr} {o o' : HO} {fp fp' : List Addr} (h : H a = some o) (hm : Mut (some o)) (ha : a ∈ fp) (hs : ∀ b ∈ fp', b ∈ fp) : Evo fp H fp' (upd H a o') :=
  ⟨fun b u hb n => by rw [upd_ne (fun e => n (by rw [e]; exact ha))]; exact hb, fun b m => .inl (hs b m), upd_im h hm⟩
theorem put_core {da dk d da' : D} {v w x : V} {fa fk fx : List Addr} (ra : RO K H da v fa) (rk : RO K H dk w fk) (rd : RO K H d x fx) (nd : (fa ++ fx).Nodup) (h : dPut da dk d = some da') (Q : Hp → Prop)
    (q : ∀ H' fa', Evo (fa ++ fx) H fa' H' → RO K H' da' v fa' → fa'.Nodup → Q H') : rSetL v w x H Q ∨ rSetD v w x H Q := by
  unfold dPut at h
  split at h
  · split at h
    case h_2 => cases h
    obtain ⟨j, e1, e2⟩ := Option.map_eq_some_iff.mp h
    cases e2
    obtain ⟨a, xs, f, h1, h2, h3, h4⟩ := ra.own
    subst h2
    have hj := (ixN_seq e1).2.1
    obtain ⟨f', k1, k2, k3⟩ := h4.put rd (List.nodup_cons.mp nd).2 hj
    have na : a ∉ f' := fun m => (List.nodup_cons.mp nd).1 (k3 a m)
    refine .inl ⟨a, xs, _, j, h1, rk.2, h3, by rw [h4.length]; exact e1, ?_⟩
    refine q _ (a :: f') (upd_ev h3 trivial List.mem_cons_self fun b m => ?_) (.inr ⟨rfl, a, _, f', h1, rfl, upd_same, ROs.mono (upd_im h3 trivial) _ _ _ (fun b m => upd_ne (fun e => na (by rw [← e]; exact m))) k1⟩) (List.nodup_cons.mpr ⟨na, k2⟩)
    rcases List.mem_cons.mp m with rfl | m
    · exact List.mem_cons_self
    · exact List.mem_cons_of_mem _ (k3 b m)
  · obtain ⟨j, e1, h⟩ := Option.bind_eq_some_iff.mp h
    split at h
    case isFalse => cases h
    rename_i ks ds _ hz
    rcases ra with ⟨z, _⟩ | ⟨_, a, xs, f, h1, h2, h3, h5, h4⟩
    · cases z
    subst h2
    have hw := rk.kD e1
    have n1 := List.nodup_append.mp nd
    have l1 : (ks.zip xs).length < sizeLine := by rw [szL_eq, List.length_zip, ← h5, Nat.min_self]; exact hz
    split at h
    · rename_i eg
      cases h
      have eg' := h4.getZ_none eg
      have na : ∀ b ∈ f ++ fx, b ≠ a := fun b m e => by subst e; exact (List.nodup_cons.mp nd).1 m
      refine .inr ⟨a, _, h1, .inl ⟨_, j, h3, hw, l1, rfl⟩, ?_⟩
      rw [putK_fresh h5 eg']
      refine q _ (a :: (f ++ fx)) (upd_ev h3 trivial List.mem_cons_self fun b m => m) (.inr ⟨rfl, a, xs ++ [x], f ++ fx, h1, rfl, upd_same, by simp [h5], ?_⟩) nd
      exact (ROs.mono (upd_im h3 trivial) _ _ _ (fun b m => upd_ne (na b (List.mem_append_left _ m))) h4).snoc (RO.mono (upd_im h3 trivial) _ _ _ (fun b m => upd_ne (na b (List.mem_append_right _ m))) rd)
    · rename_i o eg
      split at h
      case isFalse => cases h
      rename_i hi
      cases h
      obtain ⟨y, g, ey, _⟩ := h4.getZ eg
      obtain ⟨zx, rx⟩ := rd.imm hi
      subst zx
      obtain ⟨f', k1, k2, k3⟩ := h4.setZ rx (ks := ks) (j := j) (List.nodup_cons.mp n1.1).2
      have na : ∀ b ∈ f', b ≠ a := fun b m e => by subst e; exact (List.nodup_cons.mp n1.1).1 (k3 b m)
      refine .inr ⟨a, _, h1, .inl ⟨_, j, h3, hw, l1, rfl⟩, ?_⟩
      rw [putK_old (by rw [ey]; rfl)]
      refine q _ (a :: f') (upd_ev h3 trivial List.mem_cons_self fun b m => ?_) (.inr ⟨rfl, a, _, f', h1, rfl, upd_same, by rw [setZ_len]; exact h5, ROs.mono (upd_im h3 trivial) _ _ _ (fun b m => upd_ne (na b m)) k1⟩) (List.nodup_cons.mpr ⟨fun m => na a m rfl, k2⟩)
      rcases List.mem_cons.mp m with rfl | m
      · exact List.mem_cons_self
      · exact List.mem_cons_of_mem _ (List.mem_append_left _ (k3 b m))
  · obtain ⟨j, e1, h⟩ := Option.bind_eq_some_iff.mp h
    split at h
    case isFalse => cases h
    rename_i ks ds _ hz
    rcases ra with ⟨z, _⟩ | ⟨_, a, xs, f, h1, h2, h3, h5, h4⟩
    · cases z
    subst h2
    obtain ⟨b0, hw, hb0⟩ := rk.tD e1
    have n1 := List.nodup_append.mp nd
    have l1 : (ks.zip xs).length < sizeLine := by rw [szL_eq, List.length_zip, ← h5, Nat.min_self]; exact hz
    split at h
    · rename_i eg
      cases h
      have eg' := h4.getZ_none eg
      have na : ∀ b ∈ f ++ fx, b ≠ a := fun b m e => by subst e; exact (List.nodup_cons.mp nd).1 m
      refine .inr ⟨a, _, h1, .inr ⟨_, j, b0, h3, hw, hb0, l1, rfl⟩, ?_⟩
      rw [putK_fresh h5 eg']
      refine q _ (a :: (f ++ fx)) (upd_ev h3 trivial List.mem_cons_self fun b m => m) (.inr ⟨rfl, a, xs ++ [x], f ++ fx, h1, rfl, upd_same, by simp [h5], ?_⟩) nd
      exact (ROs.mono (upd_im h3 trivial) _ _ _ (fun b m => upd_ne (na b (List.mem_append_left _ m))) h4).snoc (RO.mono (upd_im h3 trivial) _ _ _ (fun b m => upd_ne (na b (List.mem_append_right _ m))) rd)
    · rename_i o eg
      split at h
      case isFalse => cases h
      rename_i hi
      cases h
      obtain ⟨y, g, ey, _⟩ := h4.getZ eg
      obtain ⟨zx, rx⟩ := rd.imm hi
      subst zx
      obtain ⟨f', k1, k2, k3⟩ := h4.setZ rx (ks := ks) (j := j) (List.nodup_cons.mp n1.1).2
      have na : ∀ b ∈ f', b ≠ a := fun b m e => by subst e; exact (List.nodup_cons.mp n1.1).1 (k3 b m)
      refine .inr ⟨a, _, h1, .inr ⟨_, j, b0, h3, hw, hb0, l1, rfl⟩, ?_⟩
      rw [putK_old (by rw [ey]; rfl)]
      refine q _ (a :: f') (upd_ev h3 trivial List.mem_cons_self fun b m => ?_) (.inr ⟨rfl, a, _, f', h1, rfl, upd_same, by rw [setZ_len]; exact h5, ROs.mono (upd_im h3 trivial) _ _ _ (fun b m => upd_ne (na b m)) k1⟩) (List.nodup_cons.mpr ⟨fun m => na a m rfl, k2⟩)
      rcases List.mem_cons.mp m with rfl | m
      · exact List.mem_cons_self
      · exact List.mem_cons_of_mem _ (List.mem_append_left _ (k3 b m))
  · cases h
end
theorem PSet.or {X : Cx} {t t' : TSet} (h : PSet X t) (h' : PSet X t') : PSet X (fun o i v H Q => t o i v H Q ∨ t' o i v H Q) := fun pins s σ H o i v ov iv u Q I r1 r2 r3 z =>
  z.elim (h pins s σ H o i v ov iv u Q I r1 r2 r3) (h' pins s σ H o i v ov iv u Q I r1 r2 r3)
def gPut (p : PlSm) (idx : PSm) : GSm := fun d env => (p env).bind fun q => (idx env).bind fun k => (dPut q.1 k d).map q.2
section
variable {P : Nat → Bool} {X : Cx} {o e : Expr} {pos : Pos}
theorem dg_sub {p : PlSm} {idx : PSm} (hu : X.A.units + 1 < cLine) (ho : DPl X o p) (hi : DB false X e idx)
    (ha : ∀ v, assign (.Subscript o e pos) X.env v = (do
      let ov ← holding [v] (eval o X.env)
      let iv ← holding [v, ov] (eval e X.env)
      standAt pos
      holding [v, ov, iv] (setItem ov iv v)
      release [v, ov, iv] []) := by intro _; rfl) : DG P X (.Subscript o e pos) (gPut p idx) := by
  obtain ⟨to, po, ho⟩ := ho
  obtain ⟨ti, pi, hi⟩ := hi
  refine pg_of (pg_sub po pi (PSet.or set_list (set_dict hu)) ha) fun v σ H Q ⟨d, env, env', fp, fr, s, r, nd, hg, q⟩ => ?_
  obtain ⟨⟨d0, put⟩, e1, hg⟩ := Option.bind_eq_some_iff.mp hg
  obtain ⟨k, e2, hg⟩ := Option.bind_eq_some_iff.mp hg
  obtain ⟨d1, e3, e4⟩ := Option.map_eq_some_iff.mp hg
  subst e4
  have n0 := List.nodup_append.mp nd
  refine ho σ H env fp d0 put s n0.2.1 e1 _ fun va H1 sm1 fc => ?_
  refine hi σ H1 env fp k (s.same sm1) n0.2.1 e2 _ fun vk H2 fk sm2 rk _ => ?_
  have sm := sm1.trans sm2
  have s2 := s.same sm
  obtain ⟨pre, f, post, e5, r0, p⟩ := fc.same (s.same sm1) sm2
  have n1 := List.nodup_append.mp (e5 ▸ n0.2.1)
  have n2 := List.nodup_append.mp n1.2.1
  have inF : ∀ a ∈ f, a ∈ fp := fun a m => by rw [e5]; exact List.mem_append_right _ (List.mem_append_left _ m)
  have inP : ∀ a, a ∈ pre ∨ a ∈ post → a ∈ fp := fun a m => by
    rw [e5]
    exact m.elim (List.mem_append_left _) fun m => List.mem_append_right _ (List.mem_append_right _ m)
  refine put_core r0 rk (r.same sm) (List.nodup_append.mpr ⟨n2.1, n0.1, fun a ma b mb z => n0.2.2 b mb a (inF a ma) z.symm⟩) e3 _ fun H' fa ev ra nn => ?_
  have nP : ∀ a, a ∈ pre ∨ a ∈ post → a ∉ f ++ fr := fun a m m' => by
    rcases List.mem_append.mp m' with m' | m'
    · exact m.elim (fun m => n1.2.2 a m a (List.mem_append_left _ m') rfl) fun m => n2.2.2 a m' a m rfl
    · exact n0.2.2 a m' a (inP a m) rfl
  have lvP : ∀ a, a ∈ pre ∨ a ∈ post → Live H2 a := fun a m => s2.live a (inP a m)
  have st : ∀ a, a ∈ pre ∨ a ∈ post → H' a = H2 a := fun a m => by
    obtain ⟨ob, h, _⟩ := lvP a m
    rw [h]; exact ev.keep a ob h (nP a m)
  have ap : ∀ a, a ∈ pre ∨ a ∈ post → a ∉ fa := fun a m m' => by
    rcases ev.own a m' with z | z
    · exact nP a m z
    · obtain ⟨ob, h, _⟩ := lvP a m
      rw [h] at z; cases z
  have ev' : Evo (fr ++ fp) H2 (pre ++ (fa ++ post)) H' := ⟨fun a ob h n => ev.keep a ob h fun m => n ((List.mem_append.mp m).elim (fun m => List.mem_append_right _ (inF a m)) (List.mem_append_left _)), fun a m => by
    rcases List.mem_append.mp m with m | m
    · exact .inl (List.mem_append_right _ (inP a (.inl m)))
    · rcases List.mem_append.mp m with m | m
      · exact (ev.own a m).imp (fun m => (List.mem_append.mp m).elim (fun m => List.mem_append_right _ (inF a m)) (List.mem_append_left _)) id
      · exact .inl (List.mem_append_right _ (inP a (.inr m))), ev.imm⟩
  refine q σ H' _ ((Evo.of_same (fp := fr ++ fp) (fr := []) sm fun a m => (nomatch m)).trans ev') (p H' d1 fa ev.imm st ra) ?_ (Pin.refl σ)
  refine List.nodup_append.mpr ⟨n1.1, List.nodup_append.mpr ⟨nn, n2.2.1, fun a m b m' z => ap b (.inr m') (by rw [← z]; exact m)⟩, fun a m b m' z => ?_⟩
  subst z
  rcases List.mem_append.mp m' with m' | m'
  · exact ap a (.inl m) m'
  · exact n1.2.2 a m a (List.mem_append_right _ m') rfl
end
/-! ### name op= e -/
def sAug (i : Nat) (h : Int → Int → Int) (f : ESm) : SSm := fun env => (f env).bind fun r => match env[i]?, r.1 with
  | some (some (.int a)), .int b => if i < r.2.length then some (.nx, r.2.set i (some (.int (h a b)))) else none
  | _, _ => none
theorem ds_aug {P : Nat → Bool} {X : Cx} {e : Expr} {i : Nat} {x : Str} {op : Operator} {h : Int → Int → Int} {f : ESm} {pos pos' : Pos} (hN : X.N.Nodup) (hi : X.N[i]? = some x) (hx : Loc X.env.scope x) (hP : P i = false) (ho : PIp X op (ipI h)) (he : DE X e f)
    (hf : X.fn x = true ∨ X.env.scope.names.lookup x = some .local := by first | exact .inl rfl | exact .inr rfl | assumption) : DS P X (.AugAssign (.Name x pos') op e pos) (sAug i h f) := by
  obtain ⟨t, p, he⟩ := he
  refine ps_of (ps_aug hN hi hx p ho hf) fun D σ H ⟨env, env', fp, o, s, nd, hf, q⟩ => ?_
  obtain ⟨⟨d, en⟩, e1, hf⟩ := Option.bind_eq_some_iff.mp hf
  simp only at hf
  split at hf
  case h_2 => cases hf
  rename_i a b ha
  split at hf
  case isFalse => cases hf
  rename_i hl
  cases hf
  obtain ⟨v, _, _, _, hv, _, r, _⟩ := s.at ha
  refine ⟨v, hv, he σ H env en fp _ s nd e1 _ fun w H1 fr fp1 ev s1 r1 n1 => ⟨a, b, r.2, r1.2, ?_⟩⟩
  have nn := List.nodup_append.mp n1
  obtain ⟨fp2, s2, n2, m2⟩ := put_slot (fr := []) (d := .int (h a b)) (v := .int (h a b)) s1 ⟨rfl, rfl⟩ nn.2.1 hl
  exact q _ H1 fp2 (ev.sub fun c m => List.mem_append_right _ (m2 c m)) s2 n2 (Pin.set hP)
/-! ### methods of texts -/
def strsD : List D → Option (List Str)
  | [] => some []
  | .str s :: r => (strsD r).map fun l => s :: l
  | _ => none
theorem strsD_all : ∀ {ds : List D} {ss : List Str}, strsD ds = some ss → ds = ss.map D.str
  | [], _, h => by cases h; rfl
  | d :: r, _, h => by
    cases d with
    | str s =>
      obtain ⟨l, e1, e2⟩ := Option.map_eq_some_iff.mp h
      subst e2
      rw [strsD_all e1]; rfl
    | _ => cases h
theorem strsD_map : ∀ ss : List Str, strsD (ss.map D.str) = some ss
  | [] => rfl
  | s :: ss => by show (strsD (ss.map D.str)).map _ = _; rw [strsD_map ss]; rfl
/-- a text's method: what comes, by the text and the arguments -/
def OS (X : Cx) (id : String) (m : Str → List D → Option D) : Prop := ∃ r, MtR X id r ∧ ∀ (H : Hp) (s : Str) (vs : List V) (ds : List D) (fv : List Addr) (d : D), ROs X.K H ds vs fv → m s ds = some d → ∀ Q : VK, Res true X.K H d Q → r (.str s) vs H Q
def eSMet (o : PSm) (m : Str → List D → Option D) (f : ASm) : ESm := fun env => match o env with
  | some (.str s) => (f env).bind fun ds => (m s ds.1).map fun d => (d, ds.2)
  | _ => none
section
variable {X : Cx} {o e : Expr} {es : List Expr} {name : Str} {apos cpos : Pos} {id : String} {m : Str → List D → Option D}
theorem de_smet {f0 : PSm} {f : ASm} (slot : Slot "str" name id) (hty : typeOf (.builtin id) = pure (.type "method_descriptor")) (hm : OS X id m) (ho : DB false X o f0) (ha : DA X (e :: es) f)
    (hbase : attributeBase o name X.env (eval o X.env) = eval o X.env := by rfl)
    (hfew : ((backTo cpos (starEach (e :: es) X.env)).all (fun x => !x.1) && (backToKw cpos (keywordEach [] X.env)).all (fun x => x.1.isSome) && decide ((e :: es).length + ([] : List Keyword).length + (if ([] : List Keyword).isEmpty then 0 else 1) < 30)) = true := by rfl)
    (hline : (apos.endLine == cpos.line) = true := by rfl) (hs : starEach (e :: es) X.env = (false, eval e X.env) :: starEach es X.env := by rfl) (hplain : (backTo cpos (starEach es X.env)).any (·.1) = false := by rfl) :
    DE X (.Call (.Attribute o name apos) (e :: es) [] cpos) (eSMet f0 m f) := by
  obtain ⟨r, hr, hm⟩ := hm
  obtain ⟨to, po, ho⟩ := ho
  obtain ⟨ta, pa, ha⟩ := ha
  refine ⟨_, pe_bm F.plainAttrs_str slot hty hr po pa hbase hfew hline hs hplain, fun σ H env env' fp d s nd hf Q q => ?_⟩
  unfold eSMet at hf
  split at hf
  case h_2 => cases hf
  rename_i st e0
  obtain ⟨⟨ds, en⟩, e1, hf⟩ := Option.bind_eq_some_iff.mp hf
  obtain ⟨d', e2, e3⟩ := Option.map_eq_some_iff.mp hf
  cases e3
  refine ho σ H env fp _ s nd e0 _ fun v H1 fx sm1 rx _ => ?_
  obtain ⟨_, rfl⟩ := rx
  refine ⟨rfl, ?_⟩
  refine ha σ H1 env _ fp ds (s.same sm1) nd e1 _ fun vs H2 fr fp1 v1 s1 rs n1 => ?_
  refine hm H2 st vs ds fr d rs e2 Q fun v H' fr' sm r fo => ?_
  exact let_go q ((Evo.of_same (fp := fp) (fr := []) sm1 fun a m => (nomatch m)).trans v1) s1 (List.nodup_append.mp n1).2.1 sm r (fo rfl)
theorem de_smet0 {f0 : PSm} (slot : Slot "str" name id) (hty : typeOf (.builtin id) = pure (.type "method_descriptor")) (hm : OS X id m) (ho : DB false X o f0)
    (hbase : attributeBase o name X.env (eval o X.env) = eval o X.env := by rfl) (hline : (apos.endLine == cpos.line) = true := by rfl) : DE X (.Call (.Attribute o name apos) [] [] cpos) (eSMet f0 m aNilE) := by
  obtain ⟨r, hr, hm⟩ := hm
  obtain ⟨to, po, ho⟩ := ho
  refine ⟨_, pe_bm0 F.plainAttrs_str slot hty hr po hbase hline, fun σ H env env' fp d s nd hf Q q => ?_⟩
  unfold eSMet at hf
  split at hf
  case h_2 => cases hf
  rename_i st e0
  obtain ⟨⟨ds, en⟩, e1, hf⟩ := Option.bind_eq_some_iff.mp hf
  obtain ⟨d', e2, e3⟩ := Option.map_eq_some_iff.mp hf
  cases e3
  cases e1
  refine ho σ H env fp _ s nd e0 _ fun v H1 fx sm1 rx _ => ?_
  obtain ⟨_, rfl⟩ := rx
  refine ⟨rfl, hm H1 st [] [] [] d ⟨rfl, rfl⟩ e2 Q fun v H' fr' sm r fo => ?_⟩
  exact let_go q (Evo.of_same (fp := fp) (fr := []) sm1 fun a m => (nomatch m)) (s.same sm1) nd sm r (fo rfl)
theorem ROs.strs {K : PySem.W.Frag} {H : Hp} : ∀ {ss : List Str} {xs : List V} {f : List Addr}, ROs K H (ss.map D.str) xs f → xs = ss.map V.str
  | [], _, _, h => h.1
  | s :: ss, _, _, ⟨y, ys, f1, f2, h1, h2, h3, h4⟩ => by rw [h1, h4.strs, h3.2]; rfl
def mJoin (s : Str) : List D → Option D
  | [d] => (seqD d).bind fun ds => (strsD ds).bind fun ys => if (ys.map (·.length)).sum + ys.length * s.length ≤ 16777216 then some (.str (Txt.join s ys)) else none
  | _ => none
theorem m_join : OS X "str.join" mJoin := by
  refine ⟨_, mt_join, fun H s vs ds fv d rs hm Q q => ?_⟩
  unfold mJoin at hm
  split at hm
  case h_2 => cases hm
  obtain ⟨ds, e1, hm⟩ := Option.bind_eq_some_iff.mp hm
  obtain ⟨ys, e2, hm⟩ := Option.bind_eq_some_iff.mp hm
  split at hm
  case isFalse => cases hm
  rename_i hz
  cases hm
  obtain ⟨y, rfl, ry⟩ := rs.one
  obtain ⟨a, xs, f, h1, h2, _, h4, _⟩ := ry.seq e1
  rw [strsD_all e2] at h2
  rw [h2.strs] at h4
  exact ⟨s, a, ys, rfl, by rw [h1], h4, hz, q.str⟩
end
/-! ### tables -/
theorem db_dnewK {X : Cx} {pos : Pos} : DB true X (.Dict [] [] pos) (pC (.dcK false [] [])) := ⟨_, pe_dnewK, fun σ H env fp d s nd hf Q q => by
  cases hf
  exact fun p hp => q (.ref p) _ [p] (same_new hp) (.inr ⟨rfl, p, [], [], rfl, rfl, upd_same, rfl, rfl, rfl⟩) fun _ => .one hp⟩
theorem db_dnewT {X : Cx} {pos : Pos} : DB true X (.Dict [] [] pos) (pC (.dcT false [] [])) := ⟨_, pe_dnewT, fun σ H env fp d s nd hf Q q => by
  cases hf
  exact fun p hp => q (.ref p) _ [p] (same_new hp) (.inr ⟨rfl, p, [], [], rfl, rfl, upd_same, rfl, rfl, rfl⟩) fun _ => .one hp⟩
end DL

set_option maxHeartbeats 1000000
/-! DL, part m: sorted, any, all, get, table comprehensions -/
namespace DL
open PySem L2

/-! ### sorted -/
def leD : D → D → Bool := PySem.W.dataLe false py
def alikeB (ds : List D) : Bool := ds.all fun a => ds.all fun b => PySem.W.alike (py a) (py b)
def tupNe : D → Bool
  | .tup (_ :: _) => true
  | _ => false
def notTup : D → Bool
  | .non => false
  | .tup _ => false
  | _ => true
def gSorted : List D → Option D
  | [d] => (seqD d).bind fun ds => match d with
    | .tup _ => none
    | _ => if (ds.all isImm = true ∧ nodics ds = true) ∧ alikeB ds = true ∧ (ds.all tupNe = true ∨ ds.all notTup = true) ∧ ds.length ≤ szL ∧ (ds.all fun z => decide ((py z).depth ≤ 20)) = true then some (.lst false (ds.mergeSort leD)) else none
  | _ => none
def rSrtD (K : PySem.W.Frag) : List V → Hp → VK → Prop := fun vs H Q => ∃ (a : Addr) (zs : List (D × V)), vs = [V.ref a] ∧ SqL K H a (zs.map (·.2)) ∧ (∀ z ∈ zs, Dp K H z.2 (py z.1)) ∧
  PySem.W.AllAlike (zs.map fun z => py z.1) ∧ PySem.W.Sortable (zs.map fun z => py z.1) ∧ zs.length ≤ sizeLine ∧ (∀ z ∈ zs, (py z.1).depth ≤ 20) ∧ ∀ p, H p = none → Q (.ref p) (upd H p (.lst ((zs.mergeSort (PySem.W.dataLe false fun z => py z.1)).map (·.2))))
theorem each_of {R : Value → D × V → Prop} : ∀ {zs : List (D × V)} {its : List Value}, Vals (zs.map (·.2)) its → (∀ z ∈ zs, ∀ u, RelV z.2 u → R u z) → PySem.W.EachIs R its zs
  | [], _, .nil, _ => .nil
  | z :: zs, _, .cons r t, h => .cons (h z List.mem_cons_self _ r) (each_of t fun y m => h y (List.mem_cons_of_mem _ m))
theorem each_vals : ∀ {zs : List (D × V)} {its : List Value}, PySem.W.EachIs (fun u (z : D × V) => RelV z.2 u) its zs → Vals (zs.map (·.2)) its
  | [], _, .nil => .nil
  | z :: zs, _, .cons r t => .cons r (each_vals t)
section
variable {X : Cx}
theorem cr_srtD (hu : X.A.units + 65 < cLine) : CallR X (.builtin "sorted") (rSrtD X.K) := by
  intro pins s σ H vs us Q I r h
  obtain ⟨a, zs, rfl, hs, hd, hal, hso, hz, hdep, q⟩ := h
  obtain ⟨its, rv, hl, _⟩ := I.list hs
  rw [Vals.ref1 r]
  refine PySem.W.sorted_data (enc := fun z : D × V => py z.1) (R := fun u z => RelV z.2 u) hl.isList (each_of rv fun z _ u h => h) (each_of rv fun z m u h => Dp.reads I _ _ _ (hd z m) h) hal hso hz (fun z m => by have := hdep z m; omega) fun out ho eo => ?_
  obtain ⟨ep, he⟩ := PyProof.Rows.sortedAll_at s.heap its out.toArray
  have hv := each_vals eo
  have hlen : ((zs.mergeSort (PySem.W.dataLe false fun z : D × V => py z.1)).map (·.2)).length ≤ sizeLine := by rw [List.length_map, List.length_mergeSort]; exact hz
  exact ⟨.ref _, upd H (s.heap.objs.size + 1) (.lst ((zs.mergeSort (PySem.W.dataLe false fun z : D × V => py z.1)).map (·.2))), I.laid (t' := s.toks) (fun _ _ => PyProof.Rows.sortedAll_old) (Nat.le_succ _) ⟨hlen, out, ep, hv, he⟩, rfl, q _ (I.hok.fresh (Nat.le_succ _))⟩
theorem zip_split : ∀ {ds : List D} {xs : List V}, xs.length = ds.length → (ds.zip xs).map (·.1) = ds ∧ (ds.zip xs).map (·.2) = xs
  | [], [], _ => ⟨rfl, rfl⟩
  | [], _ :: _, h => by cases h
  | _ :: _, [], h => by cases h
  | d :: ds, x :: xs, h => by
    obtain ⟨a, b⟩ := zip_split (ds := ds) (xs := xs) (by simpa using h)
    rw [List.zip_cons_cons, List.map_cons, List.map_cons, a, b]
    exact ⟨rfl, rfl⟩
theorem RIs.zip {K : PySem.W.Frag} {H : Hp} : ∀ {ds : List D} {xs : List V}, RIs K H ds xs → ∀ z ∈ ds.zip xs, RI K H z.1 z.2
  | [], _, _, z, m => by simp at m
  | d :: ds, _, ⟨x, xs, h1, h2, h3⟩, z, m => by
    subst h1
    rw [List.zip_cons_cons] at m
    rcases List.mem_cons.mp m with rfl | m
    · exact h2
    · exact h3.zip z m
theorem RIs.of_pairs {K : PySem.W.Frag} {H : Hp} : ∀ {zs : List (D × V)}, (∀ z ∈ zs, RI K H z.1 z.2) → RIs K H (zs.map (·.1)) (zs.map (·.2))
  | [], _ => rfl
  | z :: zs, h => ⟨_, _, rfl, h z List.mem_cons_self, RIs.of_pairs fun y m => h y (List.mem_cons_of_mem _ m)⟩
theorem nodics_mem : ∀ {ds : List D}, nodics ds = true → ∀ d ∈ ds, nodic d = true
  | [], _, _, m => (nomatch m)
  | d :: ds, h, e, m => by
    unfold nodics at h
    rw [Bool.and_eq_true] at h
    rcases List.mem_cons.mp m with rfl | m
    · exact h.1
    · exact nodics_mem h.2 e m
theorem py_tup {d : D} (h : tupNe d = true) : ∃ x r, py d = .tuple (x :: r) := by
  cases d with
  | tup ds =>
    cases ds with
    | nil => cases h
    | cons d ds => exact ⟨py d, pys ds, by simp only [py, pys]⟩
  | _ => cases h
theorem py_not {d : D} (h : notTup d = true) (hn : nodic d = true) : py d ≠ .none ∧ ∀ xs, py d ≠ .tuple xs := by
  cases d <;> first | (simp [notTup] at h; done) | (simp [nodic] at hn; done) | exact ⟨by simp [py], by simp [py]⟩
theorem c_sorted (hu : X.A.units + 65 < cLine) : OC true X (.builtin "sorted") gSorted := by
  refine ⟨_, cr_srtD hu, fun H vs ds fp d hv hg Q q => ?_⟩
  unfold gSorted at hg
  split at hg
  case h_2 => cases hg
  rename_i d0
  obtain ⟨es, e1, hg⟩ := Option.bind_eq_some_iff.mp hg
  split at hg
  · cases hg
  rename_i hnt
  split at hg
  case isFalse => cases hg
  rename_i hc
  cases hg
  obtain ⟨⟨h1, h2⟩, h3, h4, h5, h6⟩ := hc
  obtain ⟨v, rfl, rr⟩ := hv.one
  obtain ⟨a, xs, f, k1, k2, _, _, _, k3⟩ := rr.seq e1
  have ri := k2.ris h1
  obtain ⟨z1, z2⟩ := zip_split ri.length
  have hm : (es.zip xs).map (fun z => py z.1) = es.map py := by
    have z := congrArg (List.map py) z1
    rw [List.map_map] at z
    exact z
  have hp : ∀ z ∈ es.zip xs, z.1 ∈ es := fun z m => by rw [← z1]; exact List.mem_map_of_mem m
  have nod := nodics_mem h2
  refine ⟨a, es.zip xs, by rw [k1], by rw [z2]; exact k3 fun o z => hnt o z, fun z m => RI.dp _ _ (ri.zip z m) (nod _ (hp z m)), ?_, ?_, ?_, fun z m => ?_, fun p hpn => ?_⟩
  · rw [hm]
    intro x hx y hy
    obtain ⟨x', mx, rfl⟩ := List.mem_map.mp hx
    obtain ⟨y', my, rfl⟩ := List.mem_map.mp hy
    exact List.all_eq_true.mp (List.all_eq_true.mp h3 x' mx) y' my
  · rw [hm]
    rcases h4 with h4 | h4
    · exact .inl fun x hx => by
        obtain ⟨x', mx, rfl⟩ := List.mem_map.mp hx
        exact py_tup (List.all_eq_true.mp h4 x' mx)
    · exact .inr fun x hx => by
        obtain ⟨x', mx, rfl⟩ := List.mem_map.mp hx
        exact py_not (List.all_eq_true.mp h4 x' mx) (nod x' mx)
  · rw [List.length_zip, szL_eq, ri.length, Nat.min_self]; exact h5
  · exact of_decide_eq_true (List.all_eq_true.mp h6 _ (hp z m))
  · have e2 : ((es.zip xs).mergeSort (PySem.W.dataLe false fun z => py z.1)).map (·.1) = es.mergeSort leD := by
      have z := List.map_mergeSort (r := PySem.W.dataLe false fun z : D × V => py z.1) (s := leD) (f := fun z : D × V => z.1) (l := es.zip xs) (fun x _ y _ => rfl)
      rw [z, z1]
    have hr : RIs X.K H (es.mergeSort leD) (((es.zip xs).mergeSort (PySem.W.dataLe false fun z => py z.1)).map (·.2)) := by
      rw [← e2]
      exact RIs.of_pairs fun z m => ri.zip z (List.mem_mergeSort.mp m)
    exact q.lst hr hpn
/-! ### any, all -/
def blsD : List D → Option (List Bool)
  | [] => some []
  | .bl b :: r => (blsD r).map fun l => b :: l
  | _ => none
theorem blsD_all : ∀ {ds : List D} {bs : List Bool}, blsD ds = some bs → ds = bs.map D.bl
  | [], _, h => by cases h; rfl
  | d :: r, _, h => by
    cases d with
    | bl s =>
      obtain ⟨l, e1, e2⟩ := Option.map_eq_some_iff.mp h
      subst e2
      rw [blsD_all e1]; rfl
    | _ => cases h
theorem blsD_map : ∀ bs : List Bool, blsD (bs.map D.bl) = some bs
  | [] => rfl
  | s :: ss => by show (blsD (ss.map D.bl)).map _ = _; rw [blsD_map ss]; rfl
theorem ROs.bls {K : PySem.W.Frag} {H : Hp} : ∀ {ss : List Bool} {xs : List V} {f : List Addr}, ROs K H (ss.map D.bl) xs f → xs = ss.map V.bl
  | [], _, _, h => h.1
  | s :: ss, _, _, ⟨y, ys, f1, f2, h1, h2, h3, h4⟩ => by rw [h1, h4.bls, h3.2]; rfl
def gAny : List D → Option D
  | [.lst _ ds] => (blsD ds).map fun bs => .bl (bs.any id)
  | _ => none
def gAll : List D → Option D
  | [.lst _ ds] => (blsD ds).map fun bs => .bl (bs.all id)
  | _ => none
theorem c_any (hc : X.calm = true) : OC true X (.builtin "any") gAny := by
  refine ⟨_, cr_any hc, fun H vs ds fp d hv hg Q q => ?_⟩
  unfold gAny at hg
  split at hg
  · obtain ⟨ns, e1, e2⟩ := Option.map_eq_some_iff.mp hg
    subst e2
    obtain ⟨v, rfl, rr⟩ := hv.one
    obtain ⟨a, xs, f, h1, h2, h3⟩ := rr.rdl
    rw [blsD_all e1] at h3
    exact ⟨a, ns, by rw [h1], by rw [← h3.bls]; exact .inl h2, q.bl⟩
  · cases hg
theorem c_all (hc : X.calm = true) : OC true X (.builtin "all") gAll := by
  refine ⟨_, cr_all hc, fun H vs ds fp d hv hg Q q => ?_⟩
  unfold gAll at hg
  split at hg
  · obtain ⟨ns, e1, e2⟩ := Option.map_eq_some_iff.mp hg
    subst e2
    obtain ⟨v, rfl, rr⟩ := hv.one
    obtain ⟨a, xs, f, h1, h2, h3⟩ := rr.rdl
    rw [blsD_all e1] at h3
    exact ⟨a, ns, by rw [h1], by rw [← h3.bls]; exact .inl h2, q.bl⟩
  · cases hg
end
/-! ### d.get -/
def pGet1 (o k : PSm) : PSm := fun env => (o env).bind fun d => (k env).bind fun y => (dGet d y).map fun r => r.getD .non
def pGet2 (o k z : PSm) : PSm := fun env => (o env).bind fun d => (k env).bind fun y => (z env).bind fun w => (dGet d y).map fun r => r.getD w
theorem isD_of {K : PySem.W.Frag} {H : Hp} {d y : D} {v : V} {fp : List Addr} {o : Option D} (h : RO K H d v fp) (e : dGet d y = some o) : ∃ a, v = .ref a ∧ IsD H a := by
  cases d with
  | dcK fz ks ds =>
    rcases h with ⟨_, _, _, a, o, xs, h1, h2, _⟩ | ⟨_, a, xs, f, h1, _, h2, _⟩
    · exact ⟨a, h1, .inl ⟨_, .inr ⟨o, h2⟩⟩⟩
    · exact ⟨a, h1, .inl ⟨_, .inl h2⟩⟩
  | dcT fz ks ds =>
    rcases h with ⟨_, _, _, a, o, xs, h1, h2, _⟩ | ⟨_, a, xs, f, h1, _, h2, _⟩
    · exact ⟨a, h1, .inr ⟨_, .inr ⟨o, h2⟩⟩⟩
    · exact ⟨a, h1, .inr ⟨_, .inl h2⟩⟩
  | _ => cases e
section
variable {X : Cx} {o e f : Expr} {apos cpos : Pos}
theorem db_get1 {fo fe : PSm} (hu : X.A.units + 1 < cLine) (ho : DB false X o fo) (he : DB false X e fe) (m : M1 X o "get" apos e cpos) : DB false X (.Call (.Attribute o "get" apos) [e] [] cpos) (pGet1 fo fe) := by
  obtain ⟨to, po, ho⟩ := ho
  obtain ⟨te, pe, he⟩ := he
  refine ⟨_, pe_dget1 hu po pe m, fun σ H env fp d s nd hf Q q => ?_⟩
  obtain ⟨d0, e1, hf⟩ := Option.bind_eq_some_iff.mp hf
  obtain ⟨y, e2, hf⟩ := Option.bind_eq_some_iff.mp hf
  obtain ⟨r, e3, e4⟩ := Option.map_eq_some_iff.mp hf
  refine ho σ H env fp d0 s nd e1 _ fun v H1 fv s1 rv _ => ?_
  obtain ⟨a0, z0, ia⟩ := isD_of rv e3
  refine ⟨a0, z0, ia, he σ H1 env fp y (s.same s1) nd e2 _ fun w H2 fw s2 rw' _ => ?_⟩
  obtain ⟨a, o', h1, h2, h3⟩ := (rv.same s2).dget rw' e3
  rw [z0] at h1; cases h1
  refine ⟨o', h2, ?_⟩
  subst e4
  cases r with
  | none => rw [show o' = none from h3]; exact q .non H2 [] (s1.trans s2) ⟨rfl, rfl⟩ fun z => (nomatch z)
  | some d' =>
    obtain ⟨x, g, h4, h5⟩ := h3
    rw [h4]; exact q x H2 g (s1.trans s2) h5 fun z => (nomatch z)
theorem db_get2 {fo fe ff : PSm} (hu : X.A.units + 1 < cLine) (ho : DB false X o fo) (he : DB false X e fe) (hff : DB false X f ff) (m : M2 X o "get" apos e f cpos) : DB false X (.Call (.Attribute o "get" apos) [e, f] [] cpos) (pGet2 fo fe ff) := by
  obtain ⟨to, po, ho⟩ := ho
  obtain ⟨te, pe, he⟩ := he
  obtain ⟨tf, pf, hff⟩ := hff
  refine ⟨_, pe_dget2 hu po pe pf m, fun σ H env fp d s nd hf Q q => ?_⟩
  obtain ⟨d0, e1, hf⟩ := Option.bind_eq_some_iff.mp hf
  obtain ⟨y, e2, hf⟩ := Option.bind_eq_some_iff.mp hf
  obtain ⟨z, e5, hf⟩ := Option.bind_eq_some_iff.mp hf
  obtain ⟨r, e3, e4⟩ := Option.map_eq_some_iff.mp hf
  refine ho σ H env fp d0 s nd e1 _ fun v H1 fv s1 rv _ => ?_
  obtain ⟨a0, z0, ia⟩ := isD_of rv e3
  refine ⟨a0, z0, ia, he σ H1 env fp y (s.same s1) nd e2 _ fun w H2 fw s2 rw' _ => ?_⟩
  refine hff σ H2 env fp z ((s.same s1).same s2) nd e5 _ fun wz H3 fz s3 rz _ => ?_
  obtain ⟨a, o', h1, h2, h3⟩ := ((rv.same s2).same s3).dget (rw'.same s3) e3
  rw [z0] at h1; cases h1
  refine ⟨o', h2, ?_⟩
  subst e4
  have sm := (s1.trans s2).trans s3
  cases r with
  | none => rw [show o' = none from h3]; exact q wz H3 fz sm rz fun z => (nomatch z)
  | some d' =>
    obtain ⟨x, g, h4, h5⟩ := h3
    rw [h4]; exact q x H3 g sm h5 fun z => (nomatch z)
end
end DL

set_option maxHeartbeats 1000000
/-! DL, part n: comprehensions that make a table, keys of either kind -/
namespace DL
open PySem PySem.Spec PyProof.Rows L2
/-- a table's item written by a comprehension -/
theorem dict_put {X : Cx} {pins : List (Addr × Obj)} {σ : L2.St} {H H' : Hp} {s : Shared} {E : Value → Shared → Prop} {a : Addr} {y v : V} {u r : Value} {Q : Unit → Shared → Prop} (hu : X.A.units + 1 < cLine) (I : Inv X pins σ H s)
    (g : DPut H a y v H') (ry : RelV y u) (rv : RelV v r) (h : ∀ s', Inv X pins σ H' s' → Q () s') : wpAny (model X.prog X.w) X.A (dictSet a u r) Q E s := by
  rcases g with ⟨kvs, k, e, rfl, l, rfl⟩ | ⟨kvs, k, b, e, rfl, eb, l, rfl⟩
  · exact d_dictSet I e l ry rv h
  · obtain rfl : u = Value.ref b := ry
    obtain ⟨z, hd, xs, rel, dd⟩ := dt_of I.hok e
    have hl := length_putK kvs k v
    refine wpAny_dictSet_heap (hsz := by rw [← Paired.length rel]; exact z) (show (tupleKind (mixKind X.prog X.w)).room X.A from Nat.lt_of_succ_lt hu) (key_of I.hok eb) dd fun h' dd' hs => h _ ?_
    obtain ⟨q, es, ep, hq, k2, k3, k4, _, k5⟩ := dd'
    refine d_write I (by rw [e]; trivial) hs ⟨q, hq⟩ ⟨by omega, hd, _, (rel.put k eb rv).keeps fun c ys ec => ?_, q, es, ep, hq, k2, k3, k4, k5⟩
    rwa [upd_ne (ne_of ec e fun z => nomatch z)]
def tMk (o0 : HO) (wi : TI) (g : TG) (tt : TT) (tk tv : TE) (vs : List Nat) : TE := fun σ H Q => wi σ H fun J H1 => ∀ D, H1 D = none → ∃ W : Nat → Nat → Hp → Prop, (∃ m, W 0 m (upd H1 D o0)) ∧
  ∀ i m H, W i m H → (J.stop i H ∧ Q (.ref D) H) ∨ (J.go i H ∧ ∃ Nx : Hp → Prop, (∀ H', Nx H' → ∃ m', m' < m ∧ W (i + 1) m' H') ∧
    ∀ x H', J.yld i H x H' → g x (L2.wipe σ vs) H' fun σ2 H2 => L2.wipe σ2 vs = L2.wipe σ vs ∧ tt σ2 H2 fun b H3 => if b = true then tk σ2 H3 fun y H4 => tv σ2 H4 fun z H5 => ∃ H6, DPut H5 D y z H6 ∧ Nx H6 else Nx H3)
section
variable {X : Cx} {kx vx tg iter : Expr} {ifs : List Expr} {scope : Scope} {own : List (Str × Nat)} {pos : Pos} {wi : TI} {g : TG} {tt : TT} {tk tv : TE} {o0 : HO}
theorem pe_mk_table (hu : X.A.units + 1 < cLine) (hc : X.calm = true) (hN : X.N.Nodup) (hi : PI X tg iter wi) (ok : BlkOk X.N X.env.scope scope own) (hnew : ∀ (H : Hp) (h : Heap), sysModules < h.objs.size → ObjOk X.prog X.w H (h.push { cls := .type "dict", data := .dict #[] }) h.objs.size o0)
    (hg : ∀ (s : Shared) (H : Hp) (C : Addr) (cl : List (Str × Addr)) (fp : List Addr), PG (X.blk s H scope (compEnvC scope cl C X.env) fp) tg g)
    (ht : ∀ (s : Shared) (H : Hp) (C : Addr) (cl : List (Str × Addr)) (fp : List Addr), PTs (X.blk s H scope (compEnvC scope cl C X.env) fp) ifs tt)
    (hk : ∀ (s : Shared) (H : Hp) (C : Addr) (cl : List (Str × Addr)) (fp : List Addr), PE (X.blk s H scope (compEnvC scope cl C X.env) fp) kx tk)
    (hv : ∀ (s : Shared) (H : Hp) (C : Addr) (cl : List (Str × Addr)) (fp : List Addr), PE (X.blk s H scope (compEnvC scope cl C X.env) fp) vx tv)
    (hs : ∀ x, foldedSetIterable iter X.env x = pure x := by intro _; rfl) : PE X (.DictComp kx vx [⟨tg, iter, ifs, 0⟩] scope pos) (tMk o0 wi g tt tk tv (own.map (·.2))) := by
  refine ⟨fun pins s σ H Q I h => ?_⟩
  rw [arm_eval_DictComp]
  have cells : ∀ y ∈ scope.names, y.2 = .free → ∃ c, X.env.cells.lookup y.1 = some c := fun y hy e => I.ok.has _ ((ok.free y hy e).elim .inl .inr)
  refine wpAny_comprehension_free rfl hs (closure_ok cells) ok.kind (fun y hy e => by rw [ok.uniq y hy, e]) (thn (hi.run pins s σ H _ I h) fun _ s1 hx => thn hx fun _ s2 ⟨it, fp, tn, J, H2, e, I2, T, st2, f2, q⟩ => ?_)
  subst e
  refine wpAny_newObj_type (newEnv_comp ?_)
  generalize eD : s2.heap.objs.size = D
  have nD : H2 D = none := I2.hok.fresh (Nat.le_of_eq eD)
  obtain ⟨W, ⟨m0, w0⟩, turn⟩ := q D nD
  generalize e3 : ({ s2 with heap := s2.heap.push { cls := .type "dict", data := .dict #[] } } : Shared) = s3
  have I3 : Inv X pins σ (upd H2 D o0) s3 := by
    rw [← e3]
    refine I2.laid (t' := s2.toks) (fun b o z => Heap.get?_push_of_some _ z) (Nat.le_of_eq eD) ?_
    rw [← eD]
    exact hnew _ s2.heap I2.big
  have e3h : s3.heap = s2.heap.push { cls := .type "dict", data := .dict #[] } := by rw [← e3]
  have lt2 : ∀ b ∈ fp, b < s2.heap.objs.size := fun b m => let ⟨_, z, _⟩ := T.obj _ _ st2 b m; Heap.lt_size z
  have f3 : ∀ b ∈ fp, FpOk X pins (upd H2 D o0) b ∧ b < s3.heap.objs.size := fun b m => by
    refine ⟨⟨?_, (f2 b m).2⟩, by rw [e3h, Heap.size_push]; exact Nat.lt_succ_of_lt (lt2 b m)⟩
    rw [upd_ne (by rw [← eD]; exact Nat.ne_of_lt (lt2 b m))]
    exact (f2 b m).1
  have st3 : tn 0 s3.heap := T.keep _ _ _ st2 fun b _ o z => by rw [e3h]; exact Heap.get?_push_of_some _ z
  have I4 := block_start I3 ok hN f3
  generalize eH : upd H2 D o0 = H3 at I3 I4 w0 f3
  have nfp : ∀ b ∈ fp, H3 b = none := fun b m => (f3 b m).1.1
  let cl := cellsFrom (s3.heap.objs.size + 1) scope.names (cloFrom X.env.cells scope.names [])
  have pg := hg s3 H3 s3.heap.objs.size cl fp
  have pt := ht s3 H3 s3.heap.objs.size cl fp
  have pk := hk s3 H3 s3.heap.objs.size cl fp
  have pv := hv s3 H3 s3.heap.objs.size cl fp
  show codeAny _ _ (.compStart (.DictComp kx vx [⟨tg, iter, ifs, 0⟩] scope pos) 0 (.ref it) (.ref D) (compEnvC scope cl s3.heap.objs.size X.env)) (compPost (model X.prog X.w) X.A X.xe none (EP X pins σ Q) (.ref D) s3.heap.objs.size) { s3 with heap := pushCells (s3.heap.push { cls := .type "dict", data := .dict #[] }) scope.names }
  have eL : (compEnvC scope cl s3.heap.objs.size X.env).locals = s3.heap.objs.size := rfl
  generalize ece : compEnvC scope cl s3.heap.objs.size X.env = ce at I4 pg pt pk pv eL ⊢
  generalize e4 : ({ s3 with heap := pushCells (s3.heap.push { cls := .type "dict", data := .dict #[] }) scope.names } : Shared) = s4 at I4 ⊢
  have st4 : tn 0 s4.heap := T.keep _ _ _ st3 fun b _ o z => by rw [← e4]; exact pushCells_keeps _ _ _ _ (Heap.get?_push_of_some _ z)
  let B := X.blk s3 H3 scope ce fp
  have still : ∀ {σ' : L2.St} {H' : Hp} {s' : Shared}, Inv B [] σ' H' s' → (∀ b ∈ fp, H' b = none) → ∀ b ∈ fp, FpOk B [] H' b := fun {σ' H' s'} I' hn b m =>
    ⟨hn b m, (I'.ok.exf b m).1, I'.ok.exfs b m, .inl m, fun x c z => (I'.ok.exf b m).2 x c z, fun p hp => (nomatch hp)⟩
  have turns : codeAny (model X.prog X.w) X.A (.compLoop (.DictComp kx vx [⟨tg, iter, ifs, 0⟩] scope pos) 0 (.ref it) (.ref D) ce) (compPost (model X.prog X.w) X.A X.xe none (EP X pins σ Q) (.ref D) s3.heap.objs.size) s4 := by
    refine compLoop_anyD (fun n s' => ∃ i H', Inv B [] (L2.wipe σ (own.map (·.2))) H' s' ∧ tn i s'.heap ∧ (∀ b ∈ fp, H' b = none) ∧ W i n H') ?_ m0 ⟨0, H3, I4, st4, nfp, w0⟩
    rintro n s5 ⟨i, H5, I5, st5, n5, w5⟩
    rcases turn i n H5 w5 with ⟨stop, fin⟩ | ⟨go, Nx, back, step⟩
    · refine thnF (T.done B rfl rfl rfl hc i [] s5 _ H5 (fun _ _ => False) I5 (still I5 n5) st5 stop) fun r s6 ⟨z, I6⟩ => ?_
      subst z
      have I7 : Inv X pins σ H5 s6 := I3.call' (ch := fp) I6.os I6.base I6.hok I6.bare fun b m => let f := (f3 b m).1.2; ⟨f.2.2.1, f.1, f.2.2.2.1, f.2.2.2.2⟩
      have nC : H5 s3.heap.objs.size = none := by rw [← eL]; exact I6.free
      obtain ⟨m, hn, _⟩ := I6.loc
      have hn : s6.heap.Ns ce.locals m := hn
      rw [eL] at hn
      obtain ⟨g0, g1, g2, g3, g4, g5⟩ := I3.fpOk (Nat.le_refl _) nC
      exact ⟨m, hn, fun h'' sb => ⟨.ref D, H5, I7.turned (t' := s6.toks) (fun b o hb z => (sb.2 b hb).trans z) g0 g1 g3 g4 g5, rfl, fin⟩⟩
    · refine thnF (T.item B rfl rfl rfl hc i [] s5 _ H5 (fun _ _ => False) I5 (still I5 n5) st5 go) fun r s6 ⟨u, z, h6⟩ => ?_
      subst z
      refine thnF h6 fun _ s7 ⟨x, H7, I7, r7, y7, st7, n7⟩ => ?_
      refine thnF (pg.run _ s7 _ H7 x u _ (I7.pinned (still I7 n7) (T.obj _ _ st7)) r7 (step x H7 y7)) fun _ s8 ⟨σ8, H8, I8, hw, q8⟩ => ?_
      refine thnF (pt.run _ s8 σ8 H8 _ I8 q8) fun b s9 ⟨H9, I9, q9⟩ => ?_
      have next : ∀ {s' : Shared} {H' : Hp}, Inv B ([] ++ pinsAt fp s7.heap) σ8 H' s' → Nx H' → ∃ m, m < n ∧ ∃ i H', Inv B [] (L2.wipe σ (own.map (·.2))) H' s' ∧ tn i s'.heap ∧ (∀ b ∈ fp, H' b = none) ∧ W i m H' := fun {s' H'} I' nx => by
        obtain ⟨m', lt, w'⟩ := back H' nx
        have held : ∀ b ∈ fp, ∀ o, s7.heap.get? b = some o → s'.heap.get? b = some o ∧ H' b = none := fun b m o z =>
          let w := I'.pin (b, o) (List.mem_append_right _ (List.mem_append_right _ (mem_pinsAt m z)))
          ⟨w.1, w.2.1⟩
        refine ⟨m', lt, i + 1, H', (I'.unpinned (pins := [])).weak (by rw [← hw, wipe_length]) (fun j v z => (wipe_some (by rw [← hw] at z; exact z)).1), T.keep _ _ _ st7 fun b m o z => (held b m o z).1, fun b m => ?_, w'⟩
        obtain ⟨o, z, _⟩ := T.obj _ _ st7 b m
        exact (held b m o z).2
      cases b with
      | false => exact next I9 (by simpa using q9)
      | true =>
        have q9 : tk σ8 H9 fun y H4 => tv σ8 H4 fun z H5 => ∃ H6, DPut H5 D y z H6 ∧ Nx H6 := by simpa using q9
        simp only [if_true]
        refine thnF (pk.run _ s9 σ8 H9 _ I9 q9) fun ku s10 ⟨yk, H10, I10, r10, q10⟩ => ?_
        refine thnF (pv.run _ s10 σ8 H10 _ I10 q10) fun vu s11 ⟨yv, H11, I11, r11, H12, pd, nx⟩ => ?_
        exact dict_put (X := B) hu I11 pd r10 r11 fun s12 I12 => next I12 nx
  exact codeAny_compStart_dict turns (T.self X.A 0 _ _ _ st4 turns)
end
/-- the same as data -/
def isDc : D → Bool
  | .dcK false _ _ => true
  | .dcT false _ _ => true
  | _ => false
theorem put_dict {K : PySem.W.Frag} {H : Hp} {da dk d da' : D} {v w x : V} {fa fk fx : List Addr} (hd : isDc da = true) (ra : RO K H da v fa) (rk : RO K H dk w fk) (rd : RO K H d x fx) (nd : (fa ++ fx).Nodup) (h : dPut da dk d = some da') :
    ∃ a H' fa', v = .ref a ∧ DPut H a w x H' ∧ Evo (fa ++ fx) H fa' H' ∧ RO K H' da' v fa' ∧ fa'.Nodup := by
  have at_ : ∃ a o, v = .ref a ∧ H a = some o ∧ ∀ xs, o ≠ .lst xs := by
    cases da with
    | dcK fz ks ds =>
      cases fz with
      | true => cases hd
      | false =>
        rcases ra with ⟨z, _⟩ | ⟨_, a, xs, f, h1, _, h3, _⟩
        · cases z
        · exact ⟨a, _, h1, h3, fun _ z => nomatch z⟩
    | dcT fz ks ds =>
      cases fz with
      | true => cases hd
      | false =>
        rcases ra with ⟨z, _⟩ | ⟨_, a, xs, f, h1, _, h3, _⟩
        · cases z
        · exact ⟨a, _, h1, h3, fun _ z => nomatch z⟩
    | _ => cases hd
  obtain ⟨a0, o, h1, h2, h3⟩ := at_
  rcases put_core ra rk rd nd h (fun H' => ∃ fa', Evo (fa ++ fx) H fa' H' ∧ RO K H' da' v fa' ∧ fa'.Nodup) fun H' fa' e r n => ⟨fa', e, r, n⟩ with ⟨p, xs, k, j, z, _, hp, _⟩ | ⟨a, H', z, g, fa', e, r, n⟩
  · rw [h1] at z; cases z
    rw [h2] at hp; cases hp
    exact absurd rfl (h3 xs)
  · exact ⟨a, H', fa', z, g, e, r, n⟩
theorem isDc_put {da dk d da' : D} (hd : isDc da = true) (h : dPut da dk d = some da') : isDc da' = true := by
  cases da with
  | dcK fz ks ds =>
    cases fz with
    | true => cases hd
    | false =>
      simp only [dPut] at h
      obtain ⟨j, _, h⟩ := Option.bind_eq_some_iff.mp h
      split at h
      case isFalse => cases h
      split at h
      · cases h; rfl
      · split at h
        · cases h; rfl
        · cases h
  | dcT fz ks ds =>
    cases fz with
    | true => cases hd
    | false =>
      simp only [dPut] at h
      obtain ⟨j, _, h⟩ := Option.bind_eq_some_iff.mp h
      split at h
      case isFalse => cases h
      split at h
      · cases h; rfl
      · split at h
        · cases h; rfl
        · cases h
  | _ => cases hd
def dcL (vs : List Nat) (g : GSm) (c : TSm) (kx vx : ESm) : List D → Env → D → Option (D × Env)
  | [], env, acc => some (acc, wipeE env vs)
  | d :: ds, env, acc => (g d (wipeE env vs)).bind fun e1 => (c e1).bind fun b => if b.1 = true then (kx b.2).bind fun k => (vx k.2).bind fun v => (dPut acc k.1 v.1).bind fun acc' => dcL vs g c kx vx ds v.2 acc'
    else dcL vs g c kx vx ds b.2 acc
def eDc (d0 : D) (vs : List Nat) (it : ISm) (g : GSm) (c : TSm) (kx vx : ESm) : ESm := fun env => (it env).bind fun ds => dcL vs g c kx vx ds.1 ds.2 d0
theorem table_core {K : PySem.W.Frag} {it : ISm} {g : GSm} {c : TSm} {kx vx : ESm} {vs : List Nat} {σ : L2.St} {H : Hp} {Q : VK} {d0 : D} {o0 : HO} (hd0 : isDc d0 = true) (hm0 : Mut (some o0)) (h0 : ∀ (H : Hp) (p : Addr), H p = some o0 → RO K H d0 (.ref p) [p])
    (h : tE K (eDc d0 vs it g c kx vx) σ H Q) : tMk o0 (tI K it) (tG K (ownP vs) g) (tT K c) (tE K kx) (tE K vx) vs σ H Q := by
  obtain ⟨env, env', fp, d, s, nd, hf, q⟩ := h
  obtain ⟨⟨ds, en⟩, e1, e3⟩ := Option.bind_eq_some_iff.mp hf
  refine ⟨env, en, fp, ds, s, nd, e1, fun J H1 fp1 ev1 s1 n1 yl => ?_⟩
  intro Dl hD
  refine ⟨fun i m H2 => m = ds.length - i ∧ i ≤ ds.length ∧ ImmExt H1 H2 ∧ ∃ env2 acc2 fa fp2, isDc acc2 = true ∧ RO K H2 acc2 (.ref Dl) fa ∧ SR K H2 (wipeE env2 vs) (L2.wipe σ vs) fp2 ∧ (fa ++ fp2).Nodup ∧ Evo fp1 H1 (fa ++ fp2) H2 ∧
    dcL vs g c kx vx (ds.drop i) env2 acc2 = some (d, env'), ?_, ?_⟩
  · obtain ⟨fp2, s2, n2, m2⟩ := s1.wipe n1 vs
    have sm := same_new (o := o0) hD
    refine ⟨ds.length, by omega, Nat.zero_le _, .of_same sm, en, d0, [Dl], fp2, hd0, h0 _ _ upd_same, (s2.same sm).relax (by rw [wipe_length]) fun i d' hi => wipe_out (wipeE_some hi), List.nodup_cons.mpr ⟨fun m => ?_, n2⟩, ⟨fun a o ha _ => sm a o ha, fun a m => ?_, .of_same sm⟩, by rw [List.drop_zero]; exact e3⟩
    · obtain ⟨o, z, _⟩ := s1.live Dl (m2 Dl m)
      rw [hD] at z; cases z
    · rcases List.mem_cons.mp m with rfl | m
      · exact .inr hD
      · exact .inl (m2 a m)
  rintro i m H2 ⟨rfl, hi, im, env2, acc2, fa, fp2, hdc, ra, s2, n2, ev2, e5⟩
  have y2 := yl H2 im
  have nfp : fp2.Nodup := (List.nodup_append.mp n2).2.1
  by_cases hlt : i < ds.length
  · refine .inr ?_
    have ed : ds[i]? = some ds[i] := List.getElem?_eq_getElem hlt
    obtain ⟨go, yi⟩ := y2.1 i _ ed
    refine ⟨go, fun H2 => i + 1 ≤ ds.length ∧ ImmExt H1 H2 ∧ ∃ env2 acc2 fa fp2, isDc acc2 = true ∧ RO K H2 acc2 (.ref Dl) fa ∧ SR K H2 (wipeE env2 vs) (L2.wipe σ vs) fp2 ∧ (fa ++ fp2).Nodup ∧ Evo fp1 H1 (fa ++ fp2) H2 ∧
      dcL vs g c kx vx (ds.drop (i + 1)) env2 acc2 = some (d, env'), fun H' z => ⟨ds.length - (i + 1), by omega, rfl, z⟩, fun x H3 hy => ?_⟩
    obtain ⟨sm, rx⟩ := yi x H3 hy
    rw [List.drop_eq_getElem_cons hlt] at e5
    unfold dcL at e5
    obtain ⟨en6, e6, e5⟩ := Option.bind_eq_some_iff.mp e5
    obtain ⟨⟨k, en7⟩, e7, e5⟩ := Option.bind_eq_some_iff.mp e5
    refine ⟨ds[i], wipeE env2 vs, en6, fp2, [], s2.same sm, rx.ro, nfp, e6, fun σ4 H4 fp4 ev4 s4 n4 p4 => ?_⟩
    have ev4 : Evo fp2 H3 fp4 H4 := ev4
    have ev24 : Evo fp2 H2 fp4 H4 := (Evo.of_same (fr := []) sm fun a z => (nomatch z)).trans ev4
    have hlen : σ4.length = σ.length := p4.1.trans (wipe_length σ vs)
    have hw : L2.wipe σ4 vs = L2.wipe σ vs := by
      rw [wipe_ext (σ := L2.wipe σ vs) (by rw [wipe_length]; exact hlen) fun j hj => p4.2 j (by simp [ownP, hj])]
      exact wipe_ext (by rw [wipe_length]) fun j hj => wipe_out hj
    refine ⟨hw, ?_⟩
    have beside : ∀ {f5 : List Addr} {H5 : Hp}, Evo fp2 H2 f5 H5 → f5.Nodup → RO K H5 acc2 (.ref Dl) fa ∧ (fa ++ f5).Nodup ∧ Evo fp1 H1 (fa ++ f5) H5 := fun {f5 H5} e n => by
      have nf : ∀ a ∈ fa, a ∉ fp2 := fun a m m' => (List.nodup_append.mp n2).2.2 a m a m' rfl
      have lv : ∀ a ∈ fa, Live H2 a := RO.live _ _ _ ra
      refine ⟨RO.mono e.imm _ _ _ (e.stay lv nf) ra, List.nodup_append.mpr ⟨(List.nodup_append.mp n2).1, n, fun a m b m' z => by subst z; exact e.apart lv nf a m m'⟩, ev2.trans e.side⟩
    refine ⟨en6, en7, fp4, k, s4, n4, e7, fun H5 fp5 ev5 s5 n5 => ?_⟩
    have ev25 := ev24.trans ev5
    cases k with
    | false =>
      rw [if_neg Bool.false_ne_true] at e5
      refine iteF ?_
      obtain ⟨f6, s6, n6, m6⟩ := s5.wipe n5 vs
      obtain ⟨b2, b3, b4⟩ := beside (ev25.sub m6) n6
      exact ⟨hlt, im.trans ev25.imm, en7, acc2, fa, f6, hdc, b2, s6.relax (by rw [wipe_length, hlen]) fun j d' hj => by rw [← hw]; exact wipe_out (wipeE_some hj), b3, b4, e5⟩
    | true =>
      rw [if_pos rfl] at e5
      refine iteT ?_
      obtain ⟨⟨dk, en8⟩, e8, e5⟩ := Option.bind_eq_some_iff.mp e5
      obtain ⟨⟨dv, en9⟩, e9, e5⟩ := Option.bind_eq_some_iff.mp e5
      obtain ⟨acc3, e10, e5⟩ := Option.bind_eq_some_iff.mp e5
      refine ⟨en7, en8, fp5, dk, s5, n5, e8, fun y H6 fk fp6 ev6 s6 ry n6 => ?_⟩
      refine ⟨en8, en9, fp6, dv, s6, (List.nodup_append.mp n6).2.1, e9, fun z H7 fv fp7 ev7 s7 rz n7 => ?_⟩
      obtain ⟨ry7, ev57, n57⟩ := two (env := en) (σ := σ) ev6 ry n6 ev7 n7
      have ev57' : Evo fp5 H5 (fv ++ fp7) H7 := ev57.sub fun a m => by
        rw [List.append_assoc]; exact List.mem_append_right _ m
      obtain ⟨f8, s8, n8, m8⟩ := s7.wipe (List.nodup_append.mp n7).2.1 vs
      have nv : (fv ++ f8).Nodup := List.nodup_append.mpr ⟨(List.nodup_append.mp n7).1, n8, fun a m b m' => (List.nodup_append.mp n7).2.2 a m b (m8 b m')⟩
      have ev8 : Evo fp5 H5 (fv ++ f8) H7 := ev57'.sub fun a m => (List.mem_append.mp m).elim (List.mem_append_left _) fun z => List.mem_append_right _ (m8 a z)
      obtain ⟨b2, b3, b4⟩ := beside (ev25.trans ev8) nv
      have b3' : ((fa ++ fv) ++ f8).Nodup := by rw [List.append_assoc]; exact b3
      have nn := List.nodup_append.mp b3'
      obtain ⟨a0, H8, fa3, z0, pd, evp, rap, np⟩ := put_dict hdc b2 ry7 rz nn.1 e10
      cases z0
      have lv8 : ∀ a ∈ f8, Live H7 a := s8.live
      have nf8 : ∀ a ∈ f8, a ∉ fa ++ fv := fun a m m' => nn.2.2 a m' a m rfl
      refine ⟨H8, pd, hlt, (im.trans (ev25.imm.trans ev8.imm)).trans evp.imm, en9, acc3, fa3, f8, isDc_put hdc e10, rap, ?_, ?_, ?_, e5⟩
      · exact (s8.mono evp.imm (evp.stay lv8 nf8)).relax (by rw [wipe_length, hlen]) fun j d' hj => by rw [← hw]; exact wipe_out (wipeE_some hj)
      · exact List.nodup_append.mpr ⟨np, nn.2.1, fun a m b m' z => by subst z; exact evp.apart lv8 nf8 a m' m⟩
      · have e1' : Evo (f8 ++ (fa ++ fv)) H7 (f8 ++ fa3) H8 := evp.side
        refine ((b4.sub fun a m => ?_).trans e1').sub fun a m => (List.mem_append.mp m).elim (List.mem_append_right _) (List.mem_append_left _)
        rcases List.mem_append.mp m with m | m
        · exact List.mem_append_right _ (List.mem_append_right _ m)
        · exact (List.mem_append.mp m).elim (List.mem_append_left _) fun m => List.mem_append_right _ (List.mem_append_left _ m)
  · have e : i = ds.length := by omega
    subst e
    rw [List.drop_length] at e5
    cases e5
    refine .inl ⟨y2.2, q (.ref Dl) H2 fa fp2 (ev1.trans ev2) ?_ ra n2⟩
    exact s2.relax (by rw [wipe_length]) fun j d' hj => (wipe_out (wipeE_some hj)).symm
section
variable {X : Cx} {kx vx tg iter : Expr} {ifs : List Expr} {scope : Scope} {own : List (Str × Nat)} {pos : Pos} {it : ISm} {g : GSm} {c : TSm} {ek ev : ESm}
theorem de_dcT (hu : X.A.units + 1 < cLine) (hc : X.calm = true) (hN : X.N.Nodup) (hi : DI X tg iter it) (ok : BlkOk X.N X.env.scope scope own)
    (hg : ∀ (s : Shared) (H : Hp) (C : Addr) (cl : List (Str × Addr)) (fp : List Addr), DG (ownP (own.map (·.2))) (X.blk s H scope (compEnvC scope cl C X.env) fp) tg g)
    (ht : ∀ (s : Shared) (H : Hp) (C : Addr) (cl : List (Str × Addr)) (fp : List Addr), PTs (X.blk s H scope (compEnvC scope cl C X.env) fp) ifs (tT X.K c))
    (hk : ∀ (s : Shared) (H : Hp) (C : Addr) (cl : List (Str × Addr)) (fp : List Addr), DE (X.blk s H scope (compEnvC scope cl C X.env) fp) kx ek)
    (hv : ∀ (s : Shared) (H : Hp) (C : Addr) (cl : List (Str × Addr)) (fp : List Addr), DE (X.blk s H scope (compEnvC scope cl C X.env) fp) vx ev) (hs : ∀ x, foldedSetIterable iter X.env x = pure x := by intro _; rfl) :
    DE X (.DictComp kx vx [⟨tg, iter, ifs, 0⟩] scope pos) (eDc (.dcT false [] []) (own.map (·.2)) it g c ek ev) :=
  ⟨_, pe_mk_table (o0 := .dT []) (g := tG X.K (ownP (own.map (fun x : Str × Nat => x.2))) g) (tk := tE X.K ek) (tv := tE X.K ev) hu hc hN hi ok (fun H h z => dt_empty h z) (fun s H C cl fp => hg s H C cl fp) ht (fun s H C cl fp => (hk s H C cl fp).pe) (fun s H C cl fp => (hv s H C cl fp).pe) hs,
    fun σ H env env' fp d s nd hf Q q => table_core (d0 := .dcT false [] []) rfl trivial (fun H p z => .inr ⟨rfl, p, [], [], rfl, rfl, z, rfl, rfl, rfl⟩) ⟨env, env', fp, d, s, nd, hf, q⟩⟩
theorem de_dcK (hu : X.A.units + 1 < cLine) (hc : X.calm = true) (hN : X.N.Nodup) (hi : DI X tg iter it) (ok : BlkOk X.N X.env.scope scope own)
    (hg : ∀ (s : Shared) (H : Hp) (C : Addr) (cl : List (Str × Addr)) (fp : List Addr), DG (ownP (own.map (·.2))) (X.blk s H scope (compEnvC scope cl C X.env) fp) tg g)
    (ht : ∀ (s : Shared) (H : Hp) (C : Addr) (cl : List (Str × Addr)) (fp : List Addr), PTs (X.blk s H scope (compEnvC scope cl C X.env) fp) ifs (tT X.K c))
    (hk : ∀ (s : Shared) (H : Hp) (C : Addr) (cl : List (Str × Addr)) (fp : List Addr), DE (X.blk s H scope (compEnvC scope cl C X.env) fp) kx ek)
    (hv : ∀ (s : Shared) (H : Hp) (C : Addr) (cl : List (Str × Addr)) (fp : List Addr), DE (X.blk s H scope (compEnvC scope cl C X.env) fp) vx ev) (hs : ∀ x, foldedSetIterable iter X.env x = pure x := by intro _; rfl) :
    DE X (.DictComp kx vx [⟨tg, iter, ifs, 0⟩] scope pos) (eDc (.dcK false [] []) (own.map (·.2)) it g c ek ev) :=
  ⟨_, pe_mk_table (o0 := .dK []) (g := tG X.K (ownP (own.map (fun x : Str × Nat => x.2))) g) (tk := tE X.K ek) (tv := tE X.K ev) hu hc hN hi ok (fun H h z => dk_empty h z) (fun s H C cl fp => hg s H C cl fp) ht (fun s H C cl fp => (hk s H C cl fp).pe) (fun s H C cl fp => (hv s H C cl fp).pe) hs,
    fun σ H env env' fp d s nd hf Q q => table_core (d0 := .dcK false [] []) rfl trivial (fun H p z => .inr ⟨rfl, p, [], [], rfl, rfl, z, rfl, rfl, rfl⟩) ⟨env, env', fp, d, s, nd, hf, q⟩⟩
end
end DL

set_option maxHeartbeats 1000000
/-! DL, part o: what a printed derivation leans on; the law's end -/
namespace DL
open PySem PySem.Spec PyProof.Rows L2 C8
def pinP (l : List Nat) : Nat → Bool := fun i => l.contains i
def fuelN : Nat := 1000000000
theorem units_of {k : Nat} {A : Around} (hr : Room k A) : A.units < cLine ∧ A.units + 1 < cLine ∧ A.units + 64 < cLine ∧ A.units + 65 < cLine := by
  have := hr.un
  refine ⟨?_, ?_, ?_, ?_⟩ <;> omega
section
variable {X : Cx} {e : Expr} {es : List Expr}
theorem dapo_nil : DAP true X [] aNil := ⟨_, pa_nil, fun σ H env fp ds s nd hf Q q => by cases hf; exact q [] H [] (Same.refl H) ⟨rfl, rfl⟩ fun _ => .nil⟩
theorem dapo_cons {f : PSm} {g : APm} (h : DB true X e f) (h' : DAP true X es g) (hs : starEach (e :: es) X.env = (false, eval e X.env) :: starEach es X.env := by rfl) : DAP true X (e :: es) (aCons f g) := by
  obtain ⟨t, p, h⟩ := h
  obtain ⟨t', p', h'⟩ := h'
  refine ⟨_, pa_cons p p' hs, fun σ H env fp ds s nd hf Q q => ?_⟩
  obtain ⟨d, e1, hf⟩ := Option.bind_eq_some_iff.mp hf
  obtain ⟨dr, e2, e3⟩ := Option.map_eq_some_iff.mp hf
  cases e3
  refine h σ H env fp d s nd e1 _ fun v H1 fr s1 r fo => ?_
  refine h' σ H1 env fp dr (s.same s1) nd e2 _ fun vs H2 fr2 s2 rs fo2 => ?_
  have lv : ∀ a ∈ fr, Live H1 a := RO.live d v fr r
  refine q (v :: vs) H2 (fr ++ fr2) (s1.trans s2) ⟨v, vs, fr, fr2, rfl, rfl, r.same s2, rs⟩ fun _ => ?_
  have f1 := fo rfl
  have f2 := fo2 rfl
  refine ⟨List.nodup_append.mpr ⟨f1.1, f2.1, fun a m b m' z => ?_⟩, fun a m => (List.mem_append.mp m).elim (f1.2 a) fun m => s1.free (f2.2 a m)⟩
  subst z
  obtain ⟨o, ho, _⟩ := lv a m
  rw [f2.2 a m'] at ho; cases ho
end
theorem ints_ri {K : PySem.W.Frag} {H : Hp} : ∀ ns : List Int, RIs K H (ns.map D.int) (ns.map V.int)
  | [] => rfl
  | n :: r => ⟨.int n, r.map V.int, rfl, rfl, ints_ri r⟩
/-- the law's script, as its def gets it -/
theorem script_ri {K : PySem.W.Frag} {H : Hp} {a : Addr} {ns : List Int} (hO : Only H) (hS : SqL K H a (ns.map V.int)) : RO K H (.scr (ns.map D.int)) (.ref a) [] := by
  refine ⟨rfl, a, ns.map V.int, rfl, ?_, ?_⟩
  · rcases hS with h | h
    · rcases h with h | h
      · rcases hO a with z | ⟨o, xs, z⟩
        · rw [z] at h; cases h
        · rw [z] at h; cases h
      · exact .inl h
    · exact .inr h
  · exact ints_ri ns
/-- a def of the top, from what the top's heap says of it -/
theorem def_at {K : PySem.W.Frag} {h : Heap} {mg : Str → Option Value} {x : Str} {st : Stmt} {f : Addr} {oc : Value} {od an : Option Addr} {sl : Array (Option Value)} {kV dc pm cd ct : Value} (X : K.In h) (G : h.Ns mainGlobals mg)
    (a : PySem.W.nsIn K mainGlobals x = some (some (.ref f))) (l : K.lookup f = some ⟨oc, od, .func (PySem.W.fnOf x x (fnArgs st) (fnBody st) (fnScope st) .none kV dc pm an cd ct), sl⟩)
    (c : PySem.W.codeIn K cd x = true) (k : PySem.W.keepIn K (.ref f) = true) : Def K mg x st f (PySem.W.fnOf x x (fnArgs st) (fnBody st) (fnScope st) .none kV dc pm an cd ct) :=
  ⟨⟨⟨oc, od, .none, kV, dc, pm, an, cd, ct, sl, rfl, l, c⟩⟩, PySem.W.mg_of X G a, k⟩
theorem prom_law {K : PySem.W.Frag} {F : FSm} {H : Hp} {a : Addr} {ns : List Int} {outs : List (Option D)} {E : XK} (hO : Only H) (hS : SqL K H a (ns.map V.int)) (h : F [.scr (ns.map D.int)] = some (.bl true, outs)) :
    Prom K F [.ref a] H (fun v _ => v = .bl true) E :=
  ⟨[.scr (ns.map D.int)], [], .bl true, outs, ⟨.ref a, [], [], [], rfl, rfl, script_ri hO hS, rfl, rfl⟩, List.nodup_nil, h, fun _ _ _ _ _ r _ _ => r.2⟩
end DL

set_option maxHeartbeats 1000000
/-! DL, part p: plain laws of the meanings: while without a count, loops by invariants -/
namespace DL
open PySem PySem.Spec PyProof.Rows L2
/-! ### while, as many turns as it takes -/
noncomputable def sWhl (c : TSm) (body : SSm) : SSm := open Classical in fun env => if h : ∃ n, (whL c body n env).isSome = true then whL c body h.choose env else none
theorem whL_succ {c : TSm} {body : SSm} : ∀ {n : Nat} {env : Env} {r : Out × Env}, whL c body n env = some r → whL c body (n + 1) env = some r
  | 0, _, _, h => by cases h
  | n + 1, env, r, h => by
    unfold whL at h ⊢
    obtain ⟨⟨k, e1⟩, h1, h⟩ := Option.bind_eq_some_iff.mp h
    rw [h1]
    show (if k = true then _ else _) = _
    cases k with
    | false => exact h
    | true =>
      rw [if_pos rfl] at h ⊢
      obtain ⟨⟨o, e2⟩, h2, h⟩ := Option.bind_eq_some_iff.mp h
      show (body e1).bind _ = _
      rw [h2]
      cases o with
      | nx => exact whL_succ (show whL c body n e2 = some r from h)
      | ct => exact whL_succ (show whL c body n e2 = some r from h)
      | bk => exact h
      | rt d => exact h
theorem whL_le {c : TSm} {body : SSm} {n m : Nat} {env : Env} {r : Out × Env} (h : whL c body n env = some r) (l : n ≤ m) : whL c body m env = some r := by
  induction l with
  | refl => exact h
  | step _ ih => exact whL_succ ih
theorem sWhl_of {c : TSm} {body : SSm} {n : Nat} {env : Env} {r : Out × Env} (h : whL c body n env = some r) : sWhl c body env = some r := by
  have hx : ∃ n, (whL c body n env).isSome = true := ⟨n, by rw [h]; rfl⟩
  unfold sWhl
  rw [dif_pos hx]
  obtain ⟨r', h'⟩ := Option.isSome_iff_exists.mp hx.choose_spec
  have a := whL_le h' (Nat.le_max_left hx.choose n)
  have b := whL_le h (Nat.le_max_right hx.choose n)
  rw [a] at b
  rw [h', b]
theorem sWhl_inv {c : TSm} {body : SSm} {env : Env} {r : Out × Env} (h : sWhl c body env = some r) : ∃ n, whL c body n env = some r := by
  unfold sWhl at h
  split at h
  · exact ⟨_, h⟩
  · cases h
theorem ds_whl {P : Nat → Bool} {X : Cx} {pos : Pos} {c : Expr} {body : List Stmt} {t : TSm} {f : SSm} (hp : PassesOwn (model X.prog X.w) X.A X.env X.xe) (hc : DT X c t) (hb : DSs P X body f) : DS P X (.While c body [] pos) (sWhl t f) :=
  ⟨fun pins s σ H D I ⟨env, env', fp, o, sr, nd, hf, q⟩ => by
    obtain ⟨n, hn⟩ := sWhl_inv hf
    exact (ds_while n hp hc hb).run pins s σ H D I ⟨env, env', fp, o, sr, nd, hn, q⟩⟩
section
variable {c : TSm} {body : SSm} {env e1 e2 : Env} {r : Out × Env} {d : D}
theorem whl_stop (h : c env = some (false, e1)) : sWhl c body env = some (.nx, e1) := sWhl_of (n := 1) (by unfold whL; rw [h]; rfl)
theorem whl_nx (h : c env = some (true, e1)) (hb : body e1 = some (.nx, e2)) (hr : sWhl c body e2 = some r) : sWhl c body env = some r := by
  obtain ⟨n, hn⟩ := sWhl_inv hr
  refine sWhl_of (n := n + 1) ?_
  unfold whL
  rw [h]
  show (body e1).bind _ = _
  rw [hb]
  exact hn
theorem whl_ct (h : c env = some (true, e1)) (hb : body e1 = some (.ct, e2)) (hr : sWhl c body e2 = some r) : sWhl c body env = some r := by
  obtain ⟨n, hn⟩ := sWhl_inv hr
  refine sWhl_of (n := n + 1) ?_
  unfold whL
  rw [h]
  show (body e1).bind _ = _
  rw [hb]
  exact hn
theorem whl_bk (h : c env = some (true, e1)) (hb : body e1 = some (.bk, e2)) : sWhl c body env = some (.nx, e2) := by
  refine sWhl_of (n := 1) ?_
  unfold whL
  rw [h]
  show (body e1).bind _ = _
  rw [hb]; rfl
theorem whl_rt (h : c env = some (true, e1)) (hb : body e1 = some (.rt d, e2)) : sWhl c body env = some (.rt d, e2) := by
  refine sWhl_of (n := 1) ?_
  unfold whL
  rw [h]
  show (body e1).bind _ = _
  rw [hb]; rfl
end
/-! ### for, comprehensions: by invariants -/
theorem forL_inv {g : GSm} {body : SSm} (I : Nat → Env → Prop) : ∀ {ds : List D} {env : Env}, I 0 env → (∀ i d e, ds[i]? = some d → I i e → ∃ e1 e2, g d e = some e1 ∧ (body e1 = some (.nx, e2) ∨ body e1 = some (.ct, e2)) ∧ I (i + 1) e2) →
    ∃ e', forL g body ds env = some (.nx, e') ∧ I ds.length e'
  | [], env, h0, _ => ⟨env, rfl, h0⟩
  | d :: ds, env, h0, hs => by
    obtain ⟨e1, e2, k1, k2, k3⟩ := hs 0 d env rfl h0
    obtain ⟨e', k4, k5⟩ := forL_inv (fun i e => I (i + 1) e) (ds := ds) (env := e2) k3 fun i x e hx hi => hs (i + 1) x e (by simpa using hx) hi
    refine ⟨e', ?_, k5⟩
    unfold forL
    rw [k1]
    show (body e1).bind _ = _
    rcases k2 with k2 | k2 <;> rw [k2] <;> exact k4
theorem compL_inv {vs : List Nat} {g : GSm} {c : TSm} {el : ESm} (I : Nat → Env → List D → Prop) : ∀ {ds : List D} {env : Env} {acc : List D}, I 0 env acc →
    (∀ i d e acc, ds[i]? = some d → I i e acc → ∃ e1 b, g d (wipeE e vs) = some e1 ∧ c e1 = some b ∧ ((b.1 = false ∧ I (i + 1) b.2 acc) ∨ (b.1 = true ∧ ∃ r, el b.2 = some r ∧ acc.length < szL ∧ I (i + 1) r.2 (acc ++ [r.1])))) →
    ∃ acc' e', compL vs g c el ds env acc = some (acc', wipeE e' vs) ∧ I ds.length e' acc'
  | [], env, acc, h0, _ => ⟨acc, env, rfl, h0⟩
  | d :: ds, env, acc, h0, hs => by
    obtain ⟨e1, ⟨b, e2⟩, k1, k2, k3⟩ := hs 0 d env acc rfl h0
    have go : ∀ e3 acc3, I 1 e3 acc3 → ∃ acc' e', compL vs g c el ds e3 acc3 = some (acc', wipeE e' vs) ∧ I (ds.length + 1) e' acc' := fun e3 acc3 h3 =>
      compL_inv (fun i e a => I (i + 1) e a) (ds := ds) h3 fun i x e a hx hi => hs (i + 1) x e a (by simpa using hx) hi
    rcases k3 with ⟨z, k3⟩ | ⟨z, ⟨r, e3⟩, k4, k5, k6⟩
    · obtain ⟨acc', e', k7, k8⟩ := go _ _ k3
      refine ⟨acc', e', ?_, k8⟩
      unfold compL
      rw [k1]
      show (c e1).bind _ = _
      rw [k2]
      show (if b = true then _ else _) = _
      rw [if_neg (by simp at z; simp [z])]
      exact k7
    · obtain ⟨acc', e', k7, k8⟩ := go _ _ k6
      refine ⟨acc', e', ?_, k8⟩
      unfold compL
      rw [k1]
      show (c e1).bind _ = _
      rw [k2]
      show (if b = true then _ else _) = _
      rw [if_pos z]
      show (el e2).bind _ = _
      rw [k4]
      show (if acc.length < szL then _ else _) = _
      rw [if_pos k5]
      exact k7
/-- a comprehension that reads its frame and leaves it: each item by itself -/
theorem compL_map {vs : List Nat} {g : GSm} {c : TSm} {el : ESm} {w : Env} (f : D → Option D) : ∀ {ds : List D} {env : Env} {acc : List D}, wipeE env vs = w →
    (∀ d ∈ ds, ∃ e1 b, g d w = some e1 ∧ c e1 = some b ∧ ((b.1 = false ∧ f d = none ∧ wipeE b.2 vs = w) ∨ (b.1 = true ∧ ∃ r, el b.2 = some r ∧ f d = some r.1 ∧ wipeE r.2 vs = w))) → acc.length + ds.length ≤ szL →
    compL vs g c el ds env acc = some (acc ++ ds.filterMap f, w)
  | [], env, acc, h0, _, _ => by rw [List.filterMap_nil, List.append_nil]; exact congrArg (fun z => some (acc, z)) h0
  | d :: ds, env, acc, h0, hs, hz => by
    obtain ⟨e1, ⟨b, e2⟩, k1, k2, k3⟩ := hs d List.mem_cons_self
    have hz' : acc.length + (ds.length + 1) ≤ szL := hz
    unfold compL
    rw [h0, k1]
    show (c e1).bind _ = _
    rw [k2]
    show (if b = true then _ else _) = _
    rcases k3 with ⟨z, z1, z2⟩ | ⟨z, ⟨r, e3⟩, k4, k5, k6⟩
    · rw [if_neg (by simp at z; simp [z]), List.filterMap_cons_none z1]
      exact compL_map f z2 (fun x m => hs x (List.mem_cons_of_mem _ m)) (by omega)
    · rw [if_pos z]
      show (el e2).bind _ = _
      rw [k4]
      show (if acc.length < szL then _ else _) = _
      rw [if_pos (by omega), List.filterMap_cons_some k5]
      have e : acc ++ r :: ds.filterMap f = (acc ++ [r]) ++ ds.filterMap f := by simp
      rw [e]
      exact compL_map f k6 (fun x m => hs x (List.mem_cons_of_mem _ m)) (by rw [List.length_append]; show acc.length + 1 + ds.length ≤ szL; omega)
end DL

set_option maxHeartbeats 1000000
/-! DL, part q: what comes of a meaning, forward: Ok x Q = x comes to something of which Q holds -/
namespace DL
open PySem PySem.Spec PyProof.Rows L2
def Ok {α : Type} (x : Option α) (Q : α → Prop) : Prop := ∃ a, x = some a ∧ Q a
section
variable {α β : Type} {x : Option α} {Q : α → Prop}
theorem ok_some {a : α} : Ok (some a) Q = Q a := propext ⟨fun ⟨_, e, q⟩ => by cases e; exact q, fun q => ⟨a, rfl, q⟩⟩
theorem ok_bind {y : Option β} {f : β → Option α} : Ok (y.bind f) Q = Ok y fun b => Ok (f b) Q := propext ⟨fun ⟨a, e, q⟩ => by
  obtain ⟨b, h1, h2⟩ := Option.bind_eq_some_iff.mp e
  exact ⟨b, h1, a, h2, q⟩, fun ⟨b, h1, a, h2, q⟩ => ⟨a, Option.bind_eq_some_iff.mpr ⟨b, h1, h2⟩, q⟩⟩
theorem ok_map {y : Option β} {f : β → α} : Ok (y.map f) Q = Ok y fun b => Q (f b) := propext ⟨fun ⟨a, e, q⟩ => by
  obtain ⟨b, h1, h2⟩ := Option.map_eq_some_iff.mp e
  exact ⟨b, h1, by show Q (f b); rw [h2]; exact q⟩, fun ⟨b, h1, q⟩ => ⟨f b, Option.map_eq_some_iff.mpr ⟨b, h1, rfl⟩, q⟩⟩
theorem ok_of {a : α} (e : x = some a) (q : Q a) : Ok x Q := ⟨a, e, q⟩
theorem ok_mono {Q' : α → Prop} (h : Ok x Q) (i : ∀ a, Q a → Q' a) : Ok x Q' := let ⟨a, e, q⟩ := h; ⟨a, e, i a q⟩
theorem ok_ite {c : Prop} [Decidable c] {y : Option α} : Ok (if c then x else y) Q = if c then Ok x Q else Ok y Q := by split <;> rfl
end
section
variable {env : Env} {d : D} {i : Nat}
-- without effects
theorem w_pC {Q : D → Prop} : Ok (pC d env) Q = Q d := ok_some
theorem w_pVar {Q : D → Prop} : Ok (pVar i env) Q = Ok (env[i]?).join Q := rfl
theorem w_pOwn {f : PSm} {Q : D → Prop} : Ok (pOwn f env) Q = Ok (f env) fun d => isImm d = true ∧ Q d := by
  unfold pOwn
  rw [ok_bind]
  congr 1
  funext d
  rw [ok_ite, ok_some]
  by_cases h : isImm d = true
  · rw [if_pos h]; simp [h]
  · rw [if_neg h]; exact propext ⟨fun ⟨_, e, _⟩ => (nomatch e), fun z => absurd z.1 h⟩
theorem w_p1 {g : D → Option D} {f : PSm} {Q : D → Prop} : Ok (p1 g f env) Q = Ok (f env) fun d => Ok (g d) Q := ok_bind
theorem w_p2 {g : D → D → Option D} {fa fb : PSm} {Q : D → Prop} : Ok (p2 g fa fb env) Q = Ok (fa env) fun x => Ok (fb env) fun y => Ok (g x y) Q := by unfold p2; rw [ok_bind]; congr 1; funext x; rw [ok_bind]
theorem w_pSl {f : PSm} {l h : Env → Option (Option Int)} {Q : D → Prop} : Ok (pSl f l h env) Q = Ok (f env) fun d => Ok (l env) fun i => Ok (h env) fun j => Ok (dSl d i j) Q := by
  unfold pSl; rw [ok_bind]; congr 1; funext x; rw [ok_bind]; congr 1; funext y; rw [ok_bind]
theorem w_oNo {Q : Option Int → Prop} : Ok (oNo env) Q = Q none := ok_some
theorem w_oSome {f : PSm} {Q : Option Int → Prop} : Ok (oSome f env) Q = Ok (f env) fun d => ∃ i, d = .int i ∧ Q (some i) := by
  unfold oSome Ok
  refine propext ⟨?_, ?_⟩
  · rintro ⟨a, e, q⟩
    split at e
    · rename_i i h; cases e; exact ⟨_, h, i, rfl, q⟩
    · cases e
  · rintro ⟨_, h, i, rfl, q⟩
    exact ⟨some i, by rw [h], q⟩
theorem w_pTup {f : APm} {Q : D → Prop} : Ok (pTup f env) Q = Ok (f env) fun ds => (ds.all isImm = true ∧ ds.length ≤ szL) ∧ Q (.tup ds) := by
  unfold pTup
  rw [ok_bind]
  congr 1
  funext ds
  rw [ok_ite, ok_some]
  by_cases h : ds.all isImm = true ∧ ds.length ≤ szL
  · rw [if_pos h]; exact propext ⟨fun q => ⟨h, q⟩, fun q => q.2⟩
  · rw [if_neg h]; exact propext ⟨fun ⟨_, e, _⟩ => (nomatch e), fun z => absurd z.1 h⟩
theorem w_pCall {g : List D → Option D} {f : APm} {Q : D → Prop} : Ok (pCall g f env) Q = Ok (f env) fun ds => Ok (g ds) Q := ok_bind
theorem w_aNil {Q : List D → Prop} : Ok (aNil env) Q = Q [] := ok_some
theorem w_aCons {f : PSm} {g : APm} {Q : List D → Prop} : Ok (aCons f g env) Q = Ok (f env) fun d => Ok (g env) fun ds => Q (d :: ds) := by unfold aCons; rw [ok_bind]; congr 1; funext x; rw [ok_map]
theorem w_pIsi {T : String} {f : PSm} {Q : D → Prop} : Ok (pIsi T f env) Q = Ok (f env) fun d => notFT d = true ∧ Q (.bl (isD T d)) := by
  unfold pIsi
  rw [ok_bind]; congr 1; funext d; rw [ok_ite, ok_some]
  by_cases h : notFT d = true
  · rw [if_pos h]; simp [h]
  · rw [if_neg h]; exact propext ⟨fun ⟨_, e, _⟩ => (nomatch e), fun z => absurd z.1 h⟩
theorem w_pIsi2 {T U : String} {f : PSm} {Q : D → Prop} : Ok (pIsi2 T U f env) Q = Ok (f env) fun d => notFT d = true ∧ Q (.bl (isD T d || isD U d)) := by
  unfold pIsi2
  rw [ok_bind]; congr 1; funext d; rw [ok_ite, ok_some]
  by_cases h : notFT d = true
  · rw [if_pos h]; simp [h]
  · rw [if_neg h]; exact propext ⟨fun ⟨_, e, _⟩ => (nomatch e), fun z => absurd z.1 h⟩
-- expressions
theorem w_eP {f : PSm} {Q : D × Env → Prop} : Ok (eP f env) Q = Ok (f env) fun d => Q (d, env) := ok_map
theorem w_eMove {Q : D × Env → Prop} : Ok (eMove i env) Q = Ok (env[i]?).join fun d => Q (d, if isImm d = true then env else env.set i none) := by
  unfold eMove Ok
  refine propext ⟨?_, ?_⟩
  · rintro ⟨a, e, q⟩
    split at e
    · rename_i d h; cases e; exact ⟨d, by rw [h]; rfl, q⟩
    · cases e
  · rintro ⟨d, h, q⟩
    have h' : env[i]? = some (some d) := by
      cases e1 : env[i]? with
      | none => rw [e1] at h; cases h
      | some o => rw [e1] at h; cases o with
        | none => cases h
        | some d' => cases h; rfl
    exact ⟨_, by rw [h'], q⟩
theorem w_e1 {g : D → Option D} {f : ESm} {Q : D × Env → Prop} : Ok (e1 g f env) Q = Ok (f env) fun d => Ok (g d.1) fun r => Q (r, d.2) := by unfold e1; rw [ok_bind]; congr 1; funext x; rw [ok_map]
theorem w_e2 {g : D → D → Option D} {fa fb : ESm} {Q : D × Env → Prop} : Ok (e2 g fa fb env) Q = Ok (fa env) fun x => Ok (fb x.2) fun y => Ok (g x.1 y.1) fun d => Q (d, y.2) := by
  unfold e2; rw [ok_bind]; congr 1; funext x; rw [ok_bind]; congr 1; funext y; rw [ok_map]
theorem w_eTup {f : ASm} {Q : D × Env → Prop} : Ok (eTup f env) Q = Ok (f env) fun ds => (ds.1.all isImm = true ∧ ds.1.length ≤ szL) ∧ Q (.tup ds.1, ds.2) := by
  unfold eTup
  rw [ok_bind]
  congr 1
  funext ds
  rw [ok_ite, ok_some]
  by_cases h : ds.1.all isImm = true ∧ ds.1.length ≤ szL
  · rw [if_pos h]; exact propext ⟨fun q => ⟨h, q⟩, fun q => q.2⟩
  · rw [if_neg h]; exact propext ⟨fun ⟨_, e, _⟩ => (nomatch e), fun z => absurd z.1 h⟩
theorem w_eLst {f : ASm} {Q : D × Env → Prop} : Ok (eLst f env) Q = Ok (f env) fun ds => ds.1.length ≤ szL ∧ Q (.lst false ds.1, ds.2) := by
  unfold eLst
  rw [ok_bind]
  congr 1
  funext ds
  rw [ok_ite, ok_some]
  by_cases h : ds.1.length ≤ szL
  · rw [if_pos h]; exact propext ⟨fun q => ⟨h, q⟩, fun q => q.2⟩
  · rw [if_neg h]; exact propext ⟨fun ⟨_, e, _⟩ => (nomatch e), fun z => absurd z.1 h⟩
theorem w_eFz {f : ESm} {Q : D × Env → Prop} : Ok (eFz f env) Q = Ok (f env) fun d => Q (fz d.1, d.2) := ok_map
theorem w_eCall {g : List D → Option D} {f : ASm} {Q : D × Env → Prop} : Ok (eCall g f env) Q = Ok (f env) fun ds => Ok (g ds.1) fun d => Q (d, ds.2) := by unfold eCall; rw [ok_bind]; congr 1; funext x; rw [ok_map]
theorem w_aNilE {Q : List D × Env → Prop} : Ok (aNilE env) Q = Q ([], env) := ok_some
theorem w_aConsE {f : ESm} {g : ASm} {Q : List D × Env → Prop} : Ok (aConsE f g env) Q = Ok (f env) fun d => Ok (g d.2) fun ds => Q (d.1 :: ds.1, ds.2) := by unfold aConsE; rw [ok_bind]; congr 1; funext x; rw [ok_map]
theorem w_eIf {c : TSm} {f g : ESm} {Q : D × Env → Prop} : Ok (eIf c f g env) Q = Ok (c env) fun b => if b.1 = true then Ok (f b.2) Q else Ok (g b.2) Q := by unfold eIf; rw [ok_bind]; congr 1; funext x; rw [ok_ite]
theorem w_eComp {vs : List Nat} {it : ISm} {g : GSm} {c : TSm} {el : ESm} {Q : D × Env → Prop} : Ok (eComp vs it g c el env) Q = Ok (it env) fun ds => Ok (compL vs g c el ds.1 ds.2 []) fun r => Q (.lst false r.1, r.2) := by
  unfold eComp; rw [ok_bind]; congr 1; funext x; rw [ok_map]
theorem w_eDc {d0 : D} {vs : List Nat} {it : ISm} {g : GSm} {c : TSm} {kx vx : ESm} {Q : D × Env → Prop} : Ok (eDc d0 vs it g c kx vx env) Q = Ok (it env) fun ds => Ok (dcL vs g c kx vx ds.1 ds.2 d0) Q := ok_bind
theorem w_eDef {F : FSm} {c : CSm} {Q : D × Env → Prop} : Ok (eDef F c env) Q = Ok (c env) fun a => Ok (takeB a.1 a.2) fun t => Ok (F t.1) fun r => Q (r.1, giveB a.1 t.1 r.2 t.2) := by
  unfold eDef; rw [ok_bind]; congr 1; funext x; rw [ok_bind]; congr 1; funext y; rw [ok_map]
theorem w_cNil {Q : List (D ⊕ Nat) × Env → Prop} : Ok (cNil env) Q = Q ([], env) := ok_some
theorem w_cVal {f : ESm} {r : CSm} {Q : List (D ⊕ Nat) × Env → Prop} : Ok (cVal f r env) Q = Ok (f env) fun d => Ok (r d.2) fun p => Q (.inl d.1 :: p.1, p.2) := by unfold cVal; rw [ok_bind]; congr 1; funext x; rw [ok_map]
theorem w_cBor {r : CSm} {Q : List (D ⊕ Nat) × Env → Prop} : Ok (cBor i r env) Q = Ok (env[i]?).join fun _ => Ok (r env) fun p => Q (.inr i :: p.1, p.2) := by
  unfold cBor
  cases e1 : env[i]? with
  | none => exact propext ⟨fun ⟨_, e, _⟩ => (nomatch e), fun ⟨_, e, _⟩ => (nomatch e)⟩
  | some o => cases o with
    | none => exact propext ⟨fun ⟨_, e, _⟩ => (nomatch e), fun ⟨_, e, _⟩ => (nomatch e)⟩
    | some d => show Ok ((r env).map _) Q = _; rw [ok_map, Option.join_some, ok_some]
theorem w_eMeth {T : String} {m : D → List D → Option (D × D)} {f : ASm} {Q : D × Env → Prop} : Ok (eMeth i T m f env) Q = Ok (env[i]?).join fun d0 => okRecv T d0 = true ∧ Ok (f env) fun ds => Ok (ds.2[i]?).join fun d => Ok (m d ds.1) fun r => Q (r.1, ds.2.set i (some r.2)) := by
  unfold eMeth
  cases e1 : env[i]? with
  | none => exact propext ⟨fun ⟨_, e, _⟩ => (nomatch e), fun ⟨_, e, _⟩ => (nomatch e)⟩
  | some o => cases o with
    | none => exact propext ⟨fun ⟨_, e, _⟩ => (nomatch e), fun ⟨_, e, _⟩ => (nomatch e)⟩
    | some d =>
      rw [Option.join_some, ok_some]
      show Ok (if okRecv T d = true then _ else _) Q = _
      by_cases h : okRecv T d = true
      · rw [if_pos h, ok_bind]
        have e2 : (∀ P : Prop, (okRecv T d = true ∧ P) = P) := fun P => propext ⟨fun z => z.2, fun z => ⟨h, z⟩⟩
        rw [e2]
        congr 1
        funext ds
        cases e3 : ds.2[i]? with
        | none => exact propext ⟨fun ⟨_, e, _⟩ => (nomatch e), fun ⟨_, e, _⟩ => (nomatch e)⟩
        | some o => cases o with
          | none => exact propext ⟨fun ⟨_, e, _⟩ => (nomatch e), fun ⟨_, e, _⟩ => (nomatch e)⟩
          | some d => show Ok ((m d ds.1).map _) Q = _; rw [ok_map, Option.join_some, ok_some]
      · rw [if_neg h]; exact propext ⟨fun ⟨_, e, _⟩ => (nomatch e), fun z => absurd z.1 h⟩
theorem w_eMetP {p : PlSm} {T : String} {m : D → List D → Option (D × D)} {f : APm} {Q : D × Env → Prop} : Ok (eMetP p T m f env) Q = Ok (p env) fun q => okRecv T q.1 = true ∧ Ok (f env) fun ds => Ok (m q.1 ds) fun r => Q (r.1, q.2 r.2) := by
  unfold eMetP
  rw [ok_bind]
  congr 1
  funext q
  rw [ok_ite]
  by_cases h : okRecv T q.1 = true
  · rw [if_pos h, ok_bind]
    have e2 : (∀ P : Prop, (okRecv T q.1 = true ∧ P) = P) := fun P => propext ⟨fun z => z.2, fun z => ⟨h, z⟩⟩
    rw [e2]
    congr 1; funext ds; rw [ok_map]
  · rw [if_neg h]; exact propext ⟨fun ⟨_, e, _⟩ => (nomatch e), fun z => absurd z.1 h⟩
theorem w_plVar {Q : D × (D → Env) → Prop} : Ok (plVar i env) Q = Ok (env[i]?).join fun d => Q (d, fun d' => env.set i (some d')) := by
  unfold plVar
  cases e1 : env[i]? with
  | none => exact propext ⟨fun ⟨_, e, _⟩ => (nomatch e), fun ⟨_, e, _⟩ => (nomatch e)⟩
  | some o => cases o with
    | none => exact propext ⟨fun ⟨_, e, _⟩ => (nomatch e), fun ⟨_, e, _⟩ => (nomatch e)⟩
    | some d => rw [Option.join_some, ok_some, ok_some]
theorem w_plIx {p : PlSm} {idx : PSm} {Q : D × (D → Env) → Prop} : Ok (plIx p idx env) Q = Ok (p env) fun q => Ok (idx env) fun k => Ok (subP q.1 k q.2) Q := by unfold plIx; rw [ok_bind]; congr 1; funext x; rw [ok_bind]
theorem w_eSMet {o : PSm} {m : Str → List D → Option D} {f : ASm} {Q : D × Env → Prop} : Ok (eSMet o m f env) Q = Ok (o env) fun d => ∃ s, d = .str s ∧ Ok (f env) fun ds => Ok (m s ds.1) fun d => Q (d, ds.2) := by
  unfold eSMet
  cases e1 : o env with
  | none => exact propext ⟨fun ⟨_, e, _⟩ => (nomatch e), fun ⟨_, e, _⟩ => (nomatch e)⟩
  | some d =>
    rw [ok_some]
    cases d with
    | str s =>
      show Ok ((f env).bind _) Q = _
      rw [ok_bind]
      refine propext ⟨fun q => ⟨s, rfl, ?_⟩, fun ⟨_, e, q⟩ => ?_⟩
      · exact ok_mono q fun ds q => by rw [ok_map] at q; exact q
      · cases e; exact ok_mono q fun ds q => by rw [ok_map]; exact q
    | _ => exact propext ⟨fun ⟨_, e, _⟩ => (nomatch e), fun ⟨_, e, _⟩ => (nomatch e)⟩
-- tests
theorem w_yesT {Q : Bool × Env → Prop} : Ok (yesT env) Q = Q (true, env) := ok_some
theorem w_tP {f : TPm} {Q : Bool × Env → Prop} : Ok (tP f env) Q = Ok (f env) fun b => Q (b, env) := ok_map
theorem w_p2t {g : D → D → Option D} {fa fb : PSm} {Q : Bool → Prop} : Ok (p2t g fa fb env) Q = Ok (fa env) fun x => Ok (fb env) fun y => Ok (g x y) fun d => ∃ b, d = .bl b ∧ Q b := by
  have e : Ok (p2t g fa fb env) Q = Ok (p2 g fa fb env) fun d => ∃ b, d = .bl b ∧ Q b := by
    unfold p2t Ok
    refine propext ⟨?_, ?_⟩
    · rintro ⟨a, e, q⟩
      split at e
      · rename_i b h; cases e; exact ⟨_, h, _, rfl, q⟩
      · cases e
    · rintro ⟨d, h, b, z, q⟩
      subst z
      exact ⟨b, by rw [h], q⟩
  rw [e, w_p2]
theorem w_e2t {g : D → D → Option D} {fa fb : ESm} {Q : Bool × Env → Prop} : Ok (e2t g fa fb env) Q = Ok (fa env) fun x => Ok (fb x.2) fun y => Ok (g x.1 y.1) fun d => ∃ b, d = .bl b ∧ Q (b, y.2) := by
  have e : Ok (e2t g fa fb env) Q = Ok (e2 g fa fb env) fun r => ∃ b, r.1 = .bl b ∧ Q (b, r.2) := by
    unfold e2t Ok
    refine propext ⟨?_, ?_⟩
    · rintro ⟨a, e, q⟩
      split at e
      · rename_i b en h; cases e; exact ⟨_, h, b, rfl, q⟩
      · cases e
    · rintro ⟨⟨d, en⟩, h, b, z, q⟩
      have z : d = .bl b := z
      subst z
      exact ⟨(b, en), by rw [h], q⟩
  rw [e, w_e2]
theorem w_tTruP {f : PSm} {Q : Bool → Prop} : Ok (tTruP f env) Q = Ok (f env) fun d => Ok (tru d) Q := ok_bind
theorem w_tTru {f : ESm} {Q : Bool × Env → Prop} : Ok (tTru f env) Q = Ok (f env) fun d => Ok (tru d.1) fun b => Q (b, d.2) := by unfold tTru; rw [ok_bind]; congr 1; funext x; rw [ok_map]
theorem w_tNo {f : TSm} {Q : Bool × Env → Prop} : Ok (tNo f env) Q = Ok (f env) fun b => Q (!b.1, b.2) := ok_map
theorem w_tAnd2 {f g : TSm} {Q : Bool × Env → Prop} : Ok (tAnd2 f g env) Q = Ok (f env) fun b => if b.1 = true then Ok (g b.2) Q else Q (false, b.2) := by unfold tAnd2; rw [ok_bind]; congr 1; funext x; rw [ok_ite, ok_some]
theorem w_tOr2 {f g : TSm} {Q : Bool × Env → Prop} : Ok (tOr2 f g env) Q = Ok (f env) fun b => if b.1 = true then Q (true, b.2) else Ok (g b.2) Q := by unfold tOr2; rw [ok_bind]; congr 1; funext x; rw [ok_ite, ok_some]
-- iterators
theorem w_iSeq {f : ESm} {Q : List D × Env → Prop} : Ok (iSeq f env) Q = Ok (f env) fun d => Ok (walkD d.1) fun ds => Q (ds, d.2) := by unfold iSeq; rw [ok_bind]; congr 1; funext x; rw [ok_map]
-- targets
theorem w_gNm {Q : Env → Prop} : Ok (gNm i d env) Q = (i < env.length ∧ Q (env.set i (some d))) := by
  unfold gNm
  rw [ok_ite, ok_some]
  by_cases h : i < env.length
  · rw [if_pos h]; simp [h]
  · rw [if_neg h]; exact propext ⟨fun ⟨_, e, _⟩ => (nomatch e), fun z => absurd z.1 h⟩
theorem w_gTu {n : Nat} {g : GsSm} {Q : Env → Prop} : Ok (gTu n g d env) Q = ∃ ds, d = .tup ds ∧ ds.length = n ∧ Ok (g ds env) Q := by
  unfold gTu
  cases d with
  | tup ds =>
    show Ok (if ds.length = n then _ else _) Q = _
    rw [ok_ite]
    by_cases h : ds.length = n
    · rw [if_pos h]; exact propext ⟨fun q => ⟨ds, rfl, h, q⟩, fun ⟨_, e, _, q⟩ => by cases e; exact q⟩
    · rw [if_neg h]; exact propext ⟨fun ⟨_, e, _⟩ => (nomatch e), fun ⟨_, e, z, _⟩ => by cases e; exact absurd z h⟩
  | _ => exact propext ⟨fun ⟨_, e, _⟩ => (nomatch e), fun ⟨_, e, _⟩ => (nomatch e)⟩
theorem w_gTup {n : Nat} {g : GsSm} {ds : List D} {Q : Env → Prop} : Ok (gTu n g (.tup ds) env) Q = (ds.length = n ∧ Ok (g ds env) Q) := by
  rw [w_gTu]
  exact propext ⟨fun ⟨_, e, h, q⟩ => by cases e; exact ⟨h, q⟩, fun ⟨h, q⟩ => ⟨ds, rfl, h, q⟩⟩
theorem w_gsNil {Q : Env → Prop} : Ok (gsNil [] env) Q = Q env := ok_some
theorem w_gsCons {g : GSm} {h : GsSm} {ds : List D} {Q : Env → Prop} : Ok (gsCons g h (d :: ds) env) Q = Ok (g d env) fun e => Ok (h ds e) Q := ok_bind
theorem w_gPut {p : PlSm} {idx : PSm} {Q : Env → Prop} : Ok (gPut p idx d env) Q = Ok (p env) fun q => Ok (idx env) fun k => Ok (dPut q.1 k d) fun x => Q (q.2 x) := by
  unfold gPut; rw [ok_bind]; congr 1; funext x; rw [ok_bind]; congr 1; funext y; rw [ok_map]
-- statements
theorem w_sNil {Q : Out × Env → Prop} : Ok (sNil env) Q = Q (.nx, env) := ok_some
theorem w_sRet {f : ESm} {Q : Out × Env → Prop} : Ok (sRet f env) Q = Ok (f env) fun d => Q (.rt d.1, d.2) := ok_map
theorem w_sExpr {f : ESm} {Q : Out × Env → Prop} : Ok (sExpr f env) Q = Ok (f env) fun d => Q (.nx, d.2) := ok_map
theorem w_sAsg {f : ESm} {g : GSm} {Q : Out × Env → Prop} : Ok (sAsg f g env) Q = Ok (f env) fun d => Ok (g d.1 d.2) fun e => Q (.nx, e) := by unfold sAsg; rw [ok_bind]; congr 1; funext x; rw [ok_map]
theorem w_sIf {c : TSm} {f g : SSm} {Q : Out × Env → Prop} : Ok (sIf c f g env) Q = Ok (c env) fun b => if b.1 = true then Ok (f b.2) Q else Ok (g b.2) Q := by unfold sIf; rw [ok_bind]; congr 1; funext x; rw [ok_ite]
theorem w_sFor {it : ISm} {g : GSm} {body : SSm} {Q : Out × Env → Prop} : Ok (sFor it g body env) Q = Ok (it env) fun ds => Ok (forL g body ds.1 ds.2) Q := ok_bind
theorem w_sFz {f : SSm} {Q : Out × Env → Prop} : Ok (sFz i f env) Q = Ok (env[i]?).join fun d => Ok (f (env.set i (some (fz d)))) Q := by
  unfold sFz
  cases e1 : env[i]? with
  | none => exact propext ⟨fun ⟨_, e, _⟩ => (nomatch e), fun ⟨_, e, _⟩ => (nomatch e)⟩
  | some o => cases o with
    | none => exact propext ⟨fun ⟨_, e, _⟩ => (nomatch e), fun ⟨_, e, _⟩ => (nomatch e)⟩
    | some d => rw [Option.join_some, ok_some]
theorem seq_ok {f g : SSm} {Q : Out × Env → Prop} (h : Ok (f env) fun r => r.1 = .nx ∧ Ok (g r.2) Q) : Ok (sSeq f g env) Q := by
  obtain ⟨⟨o, e⟩, h1, h2, h3⟩ := h
  have h2 : o = .nx := h2
  subst h2
  unfold sSeq
  rw [ok_bind]
  exact ⟨(.nx, e), h1, h3⟩
/-- .. or it ends there -/
theorem seq_ok2 {f g : SSm} {Q : Out × Env → Prop} (h : Ok (f env) fun r => match r.1 with | .nx => Ok (g r.2) Q | o => Q (o, r.2)) : Ok (sSeq f g env) Q := by
  obtain ⟨⟨o, e⟩, h1, h2⟩ := h
  unfold sSeq
  rw [ok_bind]
  refine ⟨(o, e), h1, ?_⟩
  cases o with
  | nx => exact h2
  | _ => exact ok_of rfl h2
theorem fn_ok {P : Nat → Bool} {n m : Nat} {body : SSm} {ds : List D} {Q : D × List (Option D) → Prop} (hl : ds.length = n) (h : Ok (body (ds.map some ++ List.replicate m none)) fun r => ∃ d, r.1 = .rt d ∧ Q (d, outsOf P n r.2)) : Ok (fnF P n m body ds) Q := by
  obtain ⟨⟨o, e⟩, h1, d, h2, h3⟩ := h
  have h2 : o = .rt d := h2
  subst h2
  unfold fnF
  rw [if_pos hl, h1]
  exact ⟨_, rfl, h3⟩
theorem for_ok {g : GSm} {body : SSm} {ds : List D} {Q : Out × Env → Prop} (I : Nat → Env → Prop) (h0 : I 0 env) (hs : ∀ i d e, ds[i]? = some d → I i e → Ok (g d e) fun e1 => Ok (body e1) fun r => r.1 = .nx ∧ I (i + 1) r.2) (hq : ∀ e, I ds.length e → Q (.nx, e)) : Ok (forL g body ds env) Q := by
  obtain ⟨e', h1, h2⟩ := forL_inv I h0 fun i d e hi hI => by
    obtain ⟨e1, k1, ⟨o, e2⟩, k2, k3, k4⟩ := hs i d e hi hI
    have k3 : o = .nx := k3
    subst k3
    exact ⟨e1, e2, k1, .inl k2, k4⟩
  exact ⟨_, h1, hq e' h2⟩
theorem comp_ok {vs : List Nat} {g : GSm} {c : TSm} {el : ESm} {ds acc : List D} {Q : List D × Env → Prop} (I : Nat → Env → List D → Prop) (h0 : I 0 env acc)
    (hs : ∀ i d e acc, ds[i]? = some d → I i e acc → Ok (g d (wipeE e vs)) fun e1 => Ok (c e1) fun b => if b.1 = true then Ok (el b.2) fun r => acc.length < szL ∧ I (i + 1) r.2 (acc ++ [r.1]) else I (i + 1) b.2 acc)
    (hq : ∀ e acc, I ds.length e acc → Q (acc, wipeE e vs)) : Ok (compL vs g c el ds env acc) Q := by
  obtain ⟨acc', e', h1, h2⟩ := compL_inv I h0 fun i d e a hi hI => by
    obtain ⟨e1, k1, ⟨b, e2⟩, k2, k3⟩ := hs i d e a hi hI
    refine ⟨e1, (b, e2), k1, k2, ?_⟩
    cases b with
    | false => exact .inl ⟨rfl, by simpa using k3⟩
    | true =>
      have k3 : Ok (el e2) fun r => a.length < szL ∧ I (i + 1) r.2 (a ++ [r.1]) := by simpa using k3
      obtain ⟨r, k4, k5, k6⟩ := k3
      exact .inr ⟨rfl, r, k4, k5, k6⟩
  exact ⟨_, h1, hq e' acc' h2⟩
end
/-! ### data, by its form -/
section
variable {i j : Int} {b : Bool} {s : Str} {ds es : List D} {z : Bool} {d x : D}
theorem im_non : isImm .non = true := rfl
theorem im_bl : isImm (.bl b) = true := rfl
theorem im_int : isImm (.int i) = true := rfl
theorem im_str : isImm (.str s) = true := rfl
theorem im_tup : isImm (.tup ds) = true := rfl
theorem im_scr : isImm (.scr ds) = true := rfl
theorem im_lst : isImm (.lst z ds) = z := rfl
theorem im_dcK {ks : List Key} : isImm (.dcK z ks ds) = z := rfl
theorem im_dcT {ks : List (List Key)} : isImm (.dcT z ks ds) = z := rfl
theorem fz_non : fz .non = .non := rfl
theorem fz_bl : fz (.bl b) = .bl b := rfl
theorem fz_int : fz (.int i) = .int i := rfl
theorem fz_str : fz (.str s) = .str s := rfl
theorem fz_tup : fz (.tup ds) = .tup ds := rfl
theorem fz_scr : fz (.scr ds) = .scr ds := rfl
theorem fz_lstT : fz (.lst true ds) = .lst true ds := rfl
theorem fz_lst : fz (.lst false ds) = .lst true (fzs ds) := rfl
theorem fz_dcT {ks : List (List Key)} : fz (.dcT false ks ds) = .dcT true ks (fzs ds) := rfl
theorem fz_dcK {ks : List Key} : fz (.dcK false ks ds) = .dcK true ks (fzs ds) := rfl
theorem wk_tup : walkD (.tup ds) = some ds := rfl
theorem wk_lst : walkD (.lst true ds) = some ds := rfl
theorem wk_scr : walkD (.scr ds) = some ds := rfl
theorem wk_str : walkD (.str s) = some (strD s) := rfl
theorem sI_tup : seqI (.tup ds) = some ds := rfl
theorem sI_lst : seqI (.lst true ds) = some ds := rfl
theorem tr_bl : tru (.bl b) = some b := rfl
theorem tr_tup : tru (.tup ds) = some (!ds.isEmpty) := rfl
theorem tr_lst : tru (.lst z ds) = some (!ds.isEmpty) := rfl
theorem tr_int : tru (.int i) = some (i != 0) := rfl
theorem lt_int : dLtX (.int i) (.int j) = some (.bl (decide (i < j))) := rfl
theorem gt_int : dGt (.int i) (.int j) = some (.bl (decide (j < i))) := rfl
theorem le_int : dLe (.int i) (.int j) = some (.bl (decide (i ≤ j))) := rfl
theorem ge_int : dGe (.int i) (.int j) = some (.bl (decide (j ≤ i))) := rfl
theorem eq_int : dEq (.int i) (.int j) = some (.bl (i == j)) := rfl
theorem ne_int : dNe (.int i) (.int j) = some (.bl (!(i == j))) := rfl
theorem eq_str {t : Str} : dEq (.str s) (.str t) = some (.bl (decide (s = t))) := rfl
theorem ne_str {t : Str} : dNe (.str s) (.str t) = some (.bl (!decide (s = t))) := rfl
theorem ne_bl {c : Bool} : dNe (.bl b) (.bl c) = some (.bl (!(b == c))) := rfl
theorem eq_bl {c : Bool} : dEq (.bl b) (.bl c) = some (.bl (b == c)) := rfl
theorem add_int : dAdd (.int i) (.int j) = some (.int (i + j)) := rfl
theorem sub_int : dSub (.int i) (.int j) = some (.int (i - j)) := rfl
theorem neg_int : dNeg (.int i) = some (.int (-i)) := rfl
theorem g_int : gInt [.int i] = some (.int i) := rfl
theorem g_abs : gAbs [.int i] = some (.int (if i < 0 then -i else i)) := rfl
theorem ix_tup {z : Int} : dIx (.tup ds) (.int z) = L2.atI ds z := by simp [dIx, dGet, seqD]
theorem ix_lst {fz : Bool} {z : Int} : dIx (.lst fz ds) (.int z) = L2.atI ds z := by simp [dIx, dGet, seqD]
theorem at_nat {α : Type} {l : List α} {n : Nat} (h : n < l.length) : L2.atI l (n : Int) = some l[n] := by
  unfold L2.atI L2.ixN
  rw [if_pos (by omega), if_pos (by omega)]
  simp [h]
theorem at0 {α : Type} {a : α} {l : List α} : L2.atI (a :: l) 0 = some a := at_nat (l := a :: l) (n := 0) (by simp)
theorem at1 {α : Type} {a b : α} {l : List α} : L2.atI (a :: b :: l) 1 = some b := at_nat (l := a :: b :: l) (n := 1) (by simp)
theorem at2 {α : Type} {a b c : α} {l : List α} : L2.atI (a :: b :: c :: l) 2 = some c := at_nat (l := a :: b :: c :: l) (n := 2) (by simp)
theorem g_len_tup : gLen [.tup ds] = some (.int ds.length) := rfl
theorem g_len_lst : gLen [.lst z ds] = some (.int ds.length) := rfl
theorem len_le (h : ds.length ≤ 16777216) : ds.length ≤ szL := h
theorem mu_int (h : i.natAbs < 2 ^ 64) (h' : j.natAbs < 2 ^ 64) : dMu (.int i) (.int j) = some (.int (i * j)) := by
  have a : bitsI i ≤ 64 := PySem.intBits_le_iff.mpr h
  have b : bitsI j ≤ 64 := PySem.intBits_le_iff.mpr h'
  simp only [dMu]
  rw [if_pos (by omega)]
theorem mod_int (h : 0 < j) : dMod (.int i) (.int j) = some (.int (i % j)) := by simp only [dMod, if_pos h]
theorem div_int (h : 0 < j) (h' : j < 1073741824) : dDiv (.int i) (.int j) = some (.int (i / j)) := by simp only [dDiv]; rw [if_pos ⟨h, h'⟩]
theorem put0 : dPut (.lst false (d :: ds)) (.int 0) x = some (.lst false (x :: ds)) := by
  simp [dPut, L2.ixN]
theorem pop0 : mPop (.lst false (d :: ds)) [.int 0] = some (d, .lst false ds) := by
  simp [mPop, seqIndex?]
theorem fzs_imm : ∀ {l : List D}, (∀ d ∈ l, fz d = d) → fzs l = l
  | [], _ => rfl
  | x :: l, h => by show fz x :: fzs l = _; rw [fzs_imm fun d m => h d (List.mem_cons_of_mem _ m), h x List.mem_cons_self]
theorem fz_imm {d : D} (h : isImm d = true) : fz d = d := by
  cases d with
  | lst z ds => cases z with
    | true => rfl
    | false => cases h
  | dcK z ks ds => cases z with
    | true => rfl
    | false => cases h
  | dcT z ks ds => cases z with
    | true => rfl
    | false => cases h
  | _ => rfl
end
section
theorem rngD_len (a : Int) (n : Nat) : (rngD a n).length = n := by simp [rngD]
theorem rngD_at {a : Int} {n k : Nat} {d : D} (h : (rngD a n)[k]? = some d) : d = .int (a + k) ∧ k < n := by
  unfold rngD at h
  rw [List.getElem?_map] at h
  obtain ⟨i, h1, h2⟩ := Option.map_eq_some_iff.mp h
  obtain ⟨h3, h4⟩ := List.getElem?_eq_some_iff.mp h1
  rw [List.getElem_range] at h4
  rw [List.length_range] at h3
  exact ⟨by rw [← h2, ← h4], h3⟩
theorem w_iRange1 {f : ASm} {env : Env} {Q : List D × Env → Prop} : Ok (iRange1 f env) Q = Ok (f env) fun r => ∃ j, r.1 = [.int j] ∧ smallI j ∧ Q (rngD 0 j.toNat, r.2) := by
  unfold iRange1
  rw [ok_bind]
  congr 1
  funext r
  unfold Ok
  refine propext ⟨?_, ?_⟩
  · rintro ⟨a, e, q⟩
    split at e
    · split at e
      · cases e; rename_i j h1 h2; exact ⟨j, h1, h2, q⟩
      · cases e
    · cases e
  · rintro ⟨j, h1, h2, q⟩
    exact ⟨_, by rw [h1]; simp only [if_pos h2], q⟩
theorem w_iRange2 {f : ASm} {env : Env} {Q : List D × Env → Prop} : Ok (iRange2 f env) Q = Ok (f env) fun r => ∃ i j, r.1 = [.int i, .int j] ∧ (smallI i ∧ smallI j) ∧ Q (rngD i (j - i).toNat, r.2) := by
  unfold iRange2
  rw [ok_bind]
  congr 1
  funext r
  unfold Ok
  refine propext ⟨?_, ?_⟩
  · rintro ⟨a, e, q⟩
    split at e
    · split at e
      · cases e; rename_i i j h1 h2; exact ⟨i, j, h1, h2, q⟩
      · cases e
    · cases e
  · rintro ⟨i, j, h1, h2, q⟩
    exact ⟨_, by rw [h1]; simp only [if_pos h2], q⟩
theorem w_iEnumE {f : ASm} {env : Env} {Q : List D × Env → Prop} : Ok (iEnumE f env) Q = Ok (f env) fun r => ∃ d ds, r.1 = [d] ∧ seqI d = some ds ∧ Q (enumD ds, r.2) := by
  unfold iEnumE
  rw [ok_bind]
  congr 1
  funext r
  refine propext ⟨?_, ?_⟩
  · rintro ⟨a, e, q⟩
    split at e
    · obtain ⟨ds, h1, h2⟩ := Option.map_eq_some_iff.mp e
      subst h2
      rename_i d h
      exact ⟨d, ds, h, h1, q⟩
    · cases e
  · rintro ⟨d, ds, h1, h2, q⟩
    exact ⟨_, by rw [h1]; simp only [h2, Option.map_some], q⟩
theorem pick_list {ds : List D} {r : Int} (hi : ds.all isImm = true) (h0 : 0 ≤ r) (h1 : r < ds.length) : ∃ d ∈ ds, dIxI (.lst false ds) (.int r) = some d := by
  obtain ⟨n, rfl⟩ := Int.eq_ofNat_of_zero_le h0
  have hn : n < ds.length := by omega
  refine ⟨ds[n], List.getElem_mem hn, ?_⟩
  unfold dIxI
  rw [ix_lst, at_nat hn]
  show (if isImm ds[n] = true then _ else _) = _
  rw [if_pos (List.all_eq_true.mp hi _ (List.getElem_mem hn))]
theorem ix_str {s : Str} {r : Int} (h0 : 0 ≤ r) (h1 : r < s.length) (hz : s.length ≤ 16777216) : ∃ c, dIx (.str s) (.int r) = some (.str ⟨#[c]⟩) := by
  obtain ⟨n, rfl⟩ := Int.eq_ofNat_of_zero_le h0
  have hn : n < s.cps.toList.length := by rw [Array.length_toList]; exact_mod_cast h1
  refine ⟨s.cps.toList[n], ?_⟩
  show (if s.length ≤ szL then (L2.atI s.cps.toList (n : Int)).map fun c => D.str ⟨#[c]⟩ else none) = _
  rw [if_pos hz, at_nat hn]
  rfl
theorem add_str {a b : Str} (h : a.length + b.length ≤ 16777216) : dAdd (.str a) (.str b) = some (.str (a ++ b)) := by
  show (if a.length + b.length ≤ szL then _ else _) = _
  rw [if_pos h]
theorem add_lst {z y : Bool} {a b : List D} (h : a.length + b.length ≤ 16777216) (ha : a.all isImm = true) (hb : b.all isImm = true) : dAdd (.lst z a) (.lst y b) = some (.lst false (a ++ b)) := by
  show (if a.length + b.length ≤ szL ∧ a.all isImm = true ∧ b.all isImm = true then _ else _) = _
  rw [if_pos ⟨h, ha, hb⟩]
theorem app_lst {a : List D} {d : D} (h : a.length < 16777216) : mAppend (.lst false a) [d] = some (.non, .lst false (a ++ [d])) := by
  show (if a.length < szL then _ else _) = _
  rw [if_pos h]
theorem ext_lst {a b : List D} (h : a.length + b.length ≤ 16777216) (hb : b.all isImm = true) : mExtend (.lst false a) [.lst false b] = some (.non, .lst false (a ++ b)) := by
  show (if a.length + b.length ≤ szL ∧ b.all isImm = true then _ else _) = _
  rw [if_pos ⟨h, hb⟩]
theorem g_len_str {s : Str} (h : s.length ≤ 16777216) : gLen [.str s] = some (.int s.length) := by
  show (if s.length ≤ szL then _ else _) = _
  rw [if_pos h]
theorem small_nat {n : Nat} (h : n ≤ 16777216) : smallI (n : Int) := by
  unfold smallI; omega
theorem g_tuple {z : Bool} {ds : List D} (h : ds.all isImm = true) : gTuple [.lst z ds] = some (.tup ds) := by
  show (if ds.all isImm = true then _ else _) = _
  rw [if_pos h]
theorem g_list_tup {ds : List D} (h : ds.all isImm = true) : gList [.tup ds] = some (.lst false ds) := by
  show (if ds.all isImm = true then _ else _) = _
  rw [if_pos h]
theorem g_list_lst {z : Bool} {ds : List D} (h : ds.all isImm = true) : gList [.lst z ds] = some (.lst false ds) := by
  show (if ds.all isImm = true then _ else _) = _
  rw [if_pos h]
theorem join_str {z : Bool} {ss : List Str} (h : (ss.map (·.length)).sum ≤ 16777216) : ∃ t : Str, mJoin "" [.lst z (ss.map D.str)] = some (.str t) ∧ t.length ≤ (ss.map (·.length)).sum := by
  have e : (("" : Str).length) = 0 := by decide +kernel
  refine ⟨Txt.join "" ss, ?_, ?_⟩
  · show ((strsD (ss.map D.str)).bind fun ys => if (ys.map (·.length)).sum + ys.length * ("" : Str).length ≤ 16777216 then some (D.str (Txt.join "" ys)) else none) = _
    rw [strsD_map, Option.bind_some, if_pos (by rw [e]; simpa using h)]
  · have z := StrLaws.join_length_le ("" : Str) ss
    rw [e, Nat.mul_zero, Nat.add_zero] at z
    rw [eq_of_beq (join_plain_closes ("" : Str) ss)]
    exact z
theorem alike_strs (l : List Str) : alikeB (l.map D.str) = true := by
  unfold alikeB
  simp [List.all_eq_true, py, PySem.W.alike]
theorem all_map {α : Type} {f : α → D} {p : D → Bool} (l : List α) (h : ∀ a, p (f a) = true) : (l.map f).all p = true := by simp [h]
theorem nodics_all : ∀ {ds : List D}, (∀ d ∈ ds, nodic d = true) → nodics ds = true
  | [], _ => by unfold nodics; rfl
  | d :: ds, h => by
    unfold nodics
    rw [h d List.mem_cons_self, nodics_all fun e m => h e (List.mem_cons_of_mem _ m)]; rfl
theorem sorted_strs (l : List Str) (h : l.length ≤ 16777216) : ∃ l' : List Str, l'.length = l.length ∧ gSorted [.lst false (l.map D.str)] = some (.lst false (l'.map D.str)) ∧ ∀ s ∈ l', s ∈ l := by
  have h1 : ((l.map D.str).all isImm = true ∧ nodics (l.map D.str) = true) ∧ alikeB (l.map D.str) = true ∧ ((l.map D.str).all tupNe = true ∨ (l.map D.str).all notTup = true) ∧ (l.map D.str).length ≤ szL ∧ ((l.map D.str).all fun z => decide ((py z).depth ≤ 20)) = true :=
    ⟨⟨all_map _ fun _ => rfl, nodics_all fun d m => by obtain ⟨a, _, rfl⟩ := List.mem_map.mp m; simp [nodic]⟩, alike_strs l, .inr (all_map _ fun _ => rfl), by rw [List.length_map]; exact h, all_map _ fun a => by simp [py, PyData.depth]⟩
  have key : ∀ ds : List D, (∀ d ∈ ds, ∃ s, d = .str s) → ∃ l' : List Str, ds = l'.map D.str := fun ds => by
    induction ds with
    | nil => exact fun _ => ⟨[], rfl⟩
    | cons d ds ih =>
      intro h
      obtain ⟨s, rfl⟩ := h d List.mem_cons_self
      obtain ⟨l', rfl⟩ := ih fun e m => h e (List.mem_cons_of_mem _ m)
      exact ⟨s :: l', rfl⟩
  obtain ⟨l', hl'⟩ := key ((l.map D.str).mergeSort leD) fun d m => by
    obtain ⟨a, _, rfl⟩ := List.mem_map.mp (List.mem_mergeSort.mp m)
    exact ⟨a, rfl⟩
  refine ⟨l', ?_, ?_, ?_⟩
  · have := congrArg List.length hl'
    simpa using this.symm
  · show (if _ then some (D.lst false ((l.map D.str).mergeSort leD)) else none) = _
    rw [if_pos h1, hl']
  · intro s m
    have : D.str s ∈ (l.map D.str).mergeSort leD := by rw [hl']; exact List.mem_map_of_mem m
    obtain ⟨a, ma, e⟩ := List.mem_map.mp (List.mem_mergeSort.mp this)
    cases e; exact ma
end
end DL

set_option maxHeartbeats 4000000
namespace DL
open PySem PySem.Spec PyProof.Rows L2 C8
abbrev top (i : Nat) : Stmt := PySem.Challenge.pw_donebytwo_k30_conditions.main.body.getD i (.Pass ⟨0, 0, 0, 0⟩)
structure Glo (mg : Str → Option Value) : Prop where
  n_abs : mg "abs" = none
  n_bool : mg "bool" = none
  n_enumerate : mg "enumerate" = none
  n_int : mg "int" = none
  n_isinstance : mg "isinstance" = none
  n_len : mg "len" = none
  n_list : mg "list" = none
  n_max : mg "max" = none
  n_min : mg "min" = none
  n_range : mg "range" = none
  n_sorted : mg "sorted" = none
  n_str : mg "str" = none
  n_tuple : mg "tuple" = none
  g_HOURS_MOST : ∃ t, mg "HOURS_MOST" = some (.int 1000 t)
section
variable {P : Program} {w : World} {K : PySem.W.Frag} {mg : Str → Option Value} {base : Heap}
abbrev N_make_hands : List Str := ["row", "rest", "many"]
noncomputable def B_make_hands : SSm := (sSeq (sAsg (eP (pCall gLen (aCons (pVar 0) aNil))) (gNm 2))
  (sSeq (sWhl (tAnd2 (tP (p2t dGt (pVar 2) (pC (.int 0)))) (tP (p2t dEq (p2 dIx (pVar 0) (p2 dSub (pVar 2) (pC (.int 1)))) (pVar 1)))) (sAug 2 (fun a b => a - b) (eP (pC (.int 1)))))
  (sRet (eP (pTup (aCons (pCall gTuple (aCons (pSl (pVar 0) oNo (oSome (pVar 2))) aNil)) (aCons (pVar 1) aNil)))))))
noncomputable def F_make_hands : FSm := fnF (pinP [0, 1]) 2 1 B_make_hands
theorem sc_make_hands : FnScope N_make_hands ["row", "rest"] (fnScope (top 2)) := fnScope_by (by decide +kernel)
theorem ok_make_hands {f : Addr} {fd : FuncData} (T : Glo mg) (D : Def K mg "make_hands" (top 2) f fd) (b : Binds K fd ["row", "rest"] [])  : Cal P w K mg base 2 "make_hands" (Prom K F_make_hands) [] := by
  have S := sc_make_hands
  refine cal_of D b S rfl fun cdv A outer s H E hr => ?_
  obtain ⟨u0, u1, u64, u65⟩ := units_of hr
  exact (ds_cons (ds_set (i := 2) S.nd rfl (Or.inl rfl) rfl (de_pure (db_callB (c_len) rfl T.n_len rfl (dap_cons (db_var 0 (pe_var (i := 0) rfl (Or.inl rfl))) dap_nil))))
  (ds_cons (ds_whl PassesOwn.never (dt_w (dw_and (dt_pure (dtp_cmp o_gt (db_var 2 (pe_var (i := 2) rfl (Or.inl rfl))) (db_any db_int) rfl)) (dw_and1 (dt_pure (dtp_cmp (o_eq u64) (db_ix u1 (db_var 0 (pe_var (i := 0) rfl (Or.inl rfl))) (db_any (db_op o_sub (db_var 2 (pe_var (i := 2) rfl (Or.inl rfl))) (db_any db_int))) fun _ _ => rfl) (db_var 1 (pe_var (i := 1) rfl (Or.inl rfl))) rfl))))) (ds_one (ds_aug (i := 2) S.nd rfl (Or.inl rfl) rfl ip_sub (de_pure db_int))))
  (ds_one (ds_ret (de_pure (db_tup (dap_cons (db_any (db_callTy (c_tuple) rfl T.n_tuple rfl (dap_cons (db_any (db_sl (db_var 0 (pe_var (i := 0) rfl (Or.inl rfl))) dpo_none (dpo_some (db_var 2 (pe_var (i := 2) rfl (Or.inl rfl)))))) dap_nil))) (dap_cons (db_var 1 (pe_var (i := 1) rfl (Or.inl rfl))) dap_nil))))))))
abbrev N_conditions_of : List Str := ["sheet", "row", "_", "works", "ties", "found", "hour", "many", ".0", "name", "begin", "end", "one", "other", "more"]
noncomputable def B_conditions_of : SSm := (sSeq (sAsg (eMove 0) (gTu 3 (gsCons (gTu 2 (gsCons (gNm 1) (gsCons (gNm 2) gsNil))) (gsCons (gNm 3) (gsCons (gNm 4) gsNil)))))
  (sSeq (sAsg (eComp [8, 9, 10, 2] (iSeq (eMove 3)) (gTu 3 (gsCons (gNm 9) (gsCons (gNm 10) (gsCons (gNm 2) gsNil)))) (tP (p2t dGt (pVar 10) (pC (.int 0)))) (eP (pTup (aCons (pC (.str "begin")) (aCons (pVar 9) aNil))))) (gNm 5))
  (sSeq (sExpr (eMeth 5 "list" mExtend (aConsE (eComp [8, 9, 2, 11] (iSeq (eMove 3)) (gTu 3 (gsCons (gNm 9) (gsCons (gNm 2) (gsCons (gNm 11) gsNil)))) (tP (p2t dLtX (pVar 11) (pC (.int 1000)))) (eP (pTup (aCons (pC (.str "end")) (aCons (pVar 9) aNil))))) aNilE)))
  (sSeq (sFor (iEnumE (aConsE (eMove 1) aNilE)) (gTu 2 (gsCons (gNm 6) (gsCons (gNm 7) gsNil))) (sExpr (eMeth 5 "list" mExtend (aConsE (eComp [8, 14] (iRange2 (aConsE (eMove 7) (aConsE (eP (pC (.int 2))) aNilE))) (gNm 14) yesT (eP (pTup (aCons (pC (.str "hand")) (aCons (pVar 6) (aCons (pVar 14) aNil)))))) aNilE))))
  (sSeq (sExpr (eMeth 5 "list" mExtend (aConsE (eComp [8, 12, 13, 2] (iSeq (eMove 4)) (gTu 3 (gsCons (gNm 12) (gsCons (gNm 13) (gsCons (gNm 2) gsNil)))) yesT (eP (pTup (aCons (pC (.str "tie")) (aCons (pVar 12) (aCons (pVar 13) aNil)))))) aNilE)))
  (sRet (eP (pCall gTuple (aCons (pVar 5) aNil)))))))))
noncomputable def F_conditions_of : FSm := fnF (pinP [0]) 1 14 B_conditions_of
theorem sc_conditions_of : FnScope N_conditions_of ["sheet"] (fnScope (top 4)) := fnScope_by (by decide +kernel)
theorem ok_conditions_of {f : Addr} {fd : FuncData} (T : Glo mg) (D : Def K mg "conditions_of" (top 4) f fd) (b : Binds K fd ["sheet"] [])  : Cal P w K mg base 2 "conditions_of" (Prom K F_conditions_of) [] := by
  have S := sc_conditions_of
  refine cal_of D b S rfl fun cdv A outer s H E hr => ?_
  obtain ⟨u0, u1, u64, u65⟩ := units_of hr
  exact (ds_cons (ds_asg (de_move 0 (pe_var (i := 0) rfl (Or.inl rfl))) (dg_tup rfl (dgs_cons (dg_tup rfl (dgs_cons (dg_name (i := 1) S.nd rfl (Or.inl rfl) rfl) (dgs_cons (dg_name (i := 2) S.nd rfl (Or.inl rfl) rfl) dgs_nil))) (dgs_cons (dg_name (i := 3) S.nd rfl (Or.inl rfl) rfl) (dgs_cons (dg_name (i := 4) S.nd rfl (Or.inl rfl) rfl) dgs_nil)))))
  (ds_cons (ds_setComp (i := 5) (own := [(".0", 8), ("name", 9), ("begin", 10), ("_", 2)]) rfl S.nd rfl rfl rfl (sw_true rfl rfl rfl (by decide +kernel)) (di_seq (de_move 3 (pe_var (i := 3) rfl (Or.inl rfl)))) (blkOk_by (own := [(".0", 8), ("name", 9), ("begin", 10), ("_", 2)]) (N := N_conditions_of) (sc := (fnScope (top 4))) (by decide +kernel)) (fun _ _ _ _ _ => (dg_tup rfl (dgs_cons (dg_name (i := 9) S.nd rfl (Or.inl rfl) rfl) (dgs_cons (dg_name (i := 10) S.nd rfl (Or.inl rfl) rfl) (dgs_cons (dg_name (i := 2) S.nd rfl (Or.inl rfl) rfl) dgs_nil))))) (fun _ _ _ _ _ => (DT.pts (dt_pure (dtp_cmp o_gt (db_var 10 (pe_var (i := 10) rfl (Or.inl rfl))) (db_any db_int) rfl)))) (fun _ _ _ _ _ => (de_pure (db_tup (dap_cons (db_any db_str) (dap_cons (db_var 9 (pe_var (i := 9) rfl (Or.inl rfl))) dap_nil))))))
  (ds_cons (ds_expr (de_meth F.plainAttrs_list F.slot_list_extend F.type_list_extend m_extend (pe_var (i := 5) rfl (Or.inl rfl)) (da_cons (de_comp (own := [(".0", 8), ("name", 9), ("_", 2), ("end", 11)]) rfl S.nd (di_seq (de_move 3 (pe_var (i := 3) rfl (Or.inl rfl)))) (blkOk_by (own := [(".0", 8), ("name", 9), ("_", 2), ("end", 11)]) (N := N_conditions_of) (sc := (fnScope (top 4))) (by decide +kernel)) (fun _ _ _ _ _ => (dg_tup rfl (dgs_cons (dg_name (i := 9) S.nd rfl (Or.inl rfl) rfl) (dgs_cons (dg_name (i := 2) S.nd rfl (Or.inl rfl) rfl) (dgs_cons (dg_name (i := 11) S.nd rfl (Or.inl rfl) rfl) dgs_nil))))) (fun _ _ _ _ _ => (DT.pts (dt_pure (dtp_cmp (o_ltX u0) (db_var 11 (pe_var (i := 11) rfl (Or.inl rfl))) (db_any (db_gint rfl T.g_HOURS_MOST)) rfl)))) (fun _ _ _ _ _ => (de_pure (db_tup (dap_cons (db_any db_str) (dap_cons (db_var 9 (pe_var (i := 9) rfl (Or.inl rfl))) dap_nil)))))) da_nil)))
  (ds_cons (ds_for PassesOwn.never rfl (di_enum rfl T.n_enumerate (da_cons (de_move 1 (pe_var (i := 1) rfl (Or.inl rfl))) da_nil)) (dg_tup rfl (dgs_cons (dg_name (i := 6) S.nd rfl (Or.inr rfl) rfl) (dgs_cons (dg_name (i := 7) S.nd rfl (Or.inl rfl) rfl) dgs_nil))) (ds_one (ds_expr (de_meth F.plainAttrs_list F.slot_list_extend F.type_list_extend m_extend (pe_var (i := 5) rfl (Or.inl rfl)) (da_cons (de_comp (own := [(".0", 8), ("more", 14)]) rfl S.nd (di_range2 rfl T.n_range (da_cons (de_move 7 (pe_var (i := 7) rfl (Or.inl rfl))) (da_cons (de_pure db_int) da_nil))) (blkOk_by (own := [(".0", 8), ("more", 14)]) (N := N_conditions_of) (sc := (fnScope (top 4))) (by decide +kernel)) (fun _ _ _ _ _ => (dg_name (i := 14) S.nd rfl (Or.inl rfl) rfl)) (fun _ _ _ _ _ => pts_yes) (fun _ _ _ _ _ => (de_pure (db_tup (dap_cons (db_any db_str) (dap_cons (db_var 6 (pe_var (i := 6) rfl (Or.inr (Or.inl rfl)))) (dap_cons (db_var 14 (pe_var (i := 14) rfl (Or.inl rfl))) dap_nil))))))) da_nil)))))
  (ds_cons (ds_expr (de_meth F.plainAttrs_list F.slot_list_extend F.type_list_extend m_extend (pe_var (i := 5) rfl (Or.inl rfl)) (da_cons (de_comp (own := [(".0", 8), ("one", 12), ("other", 13), ("_", 2)]) rfl S.nd (di_seq (de_move 4 (pe_var (i := 4) rfl (Or.inl rfl)))) (blkOk_by (own := [(".0", 8), ("one", 12), ("other", 13), ("_", 2)]) (N := N_conditions_of) (sc := (fnScope (top 4))) (by decide +kernel)) (fun _ _ _ _ _ => (dg_tup rfl (dgs_cons (dg_name (i := 12) S.nd rfl (Or.inl rfl) rfl) (dgs_cons (dg_name (i := 13) S.nd rfl (Or.inl rfl) rfl) (dgs_cons (dg_name (i := 2) S.nd rfl (Or.inl rfl) rfl) dgs_nil))))) (fun _ _ _ _ _ => pts_yes) (fun _ _ _ _ _ => (de_pure (db_tup (dap_cons (db_any db_str) (dap_cons (db_var 12 (pe_var (i := 12) rfl (Or.inl rfl))) (dap_cons (db_var 13 (pe_var (i := 13) rfl (Or.inl rfl))) dap_nil))))))) da_nil)))
  (ds_one (ds_ret (de_pure (db_callTy (c_tuple) rfl T.n_tuple rfl (dap_cons (db_var 5 (pe_var (i := 5) rfl (Or.inl rfl))) dap_nil))))))))))
abbrev N__law_pool : List Str := ["script", "mixed", "cell", ".0"]
noncomputable def B__law_pool : SSm := (sSeq (sAsg (eP (pC (.int 37))) (gNm 1))
  (sSeq (sFor (iSeq (eFz (eP (pSl (pVar 0) oNo (oSome (pC (.int 63))))))) (gNm 2) (sAsg (eFz (eP (p2 dMod (p2 dAdd (p2 dAdd (p2 dMu (pVar 1) (pC (.int 7121))) (p2 dMod (pCall gAbs (aCons (pCall gInt (aCons (pVar 2) aNil)) aNil)) (pC (.int 99961)))) (pC (.int 7))) (pC (.int 1000033))))) (gNm 1)))
  (sRet (eLst (aConsE (eComp [3, 2] (iSeq (eFz (eP (pSl (pVar 0) oNo (oSome (pC (.int 63))))))) (gNm 2) (tP (p2t dGe (pCall gAbs (aCons (pCall gInt (aCons (pVar 2) aNil)) aNil)) (p2 dPow (pC (.int 10)) (pC (.int 18))))) (eP (pCall gAbs (aCons (pCall gInt (aCons (pVar 2) aNil)) aNil)))) (aConsE (eMove 1) aNilE))))))
noncomputable def F__law_pool : FSm := fnF (pinP [0]) 1 3 B__law_pool
theorem sc__law_pool : FnScope N__law_pool ["script"] (fnScope (top 8)) := fnScope_by (by decide +kernel)
theorem ok__law_pool {f : Addr} {fd : FuncData} (T : Glo mg) (D : Def K mg "_law_pool" (top 8) f fd) (b : Binds K fd ["script"] [])  : Cal P w K mg base 2 "_law_pool" (Prom K F__law_pool) [] := by
  have S := sc__law_pool
  refine cal_of D b S rfl fun cdv A outer s H E hr => ?_
  obtain ⟨u0, u1, u64, u65⟩ := units_of hr
  exact (ds_cons (ds_set (i := 1) S.nd rfl (Or.inl rfl) rfl (de_pure db_int))
  (ds_cons (ds_for PassesOwn.never rfl (di_seq (de_fz (de_pure (db_sl (db_var 0 (pe_var (i := 0) rfl (Or.inl rfl))) dpo_none (dpo_some (db_any db_int)))))) (dg_name (i := 2) S.nd rfl (Or.inl rfl) rfl) (ds_one (ds_set (i := 1) S.nd rfl (Or.inl rfl) rfl (de_fz (de_pure (db_op o_mod (db_any (db_op o_add (db_any (db_op o_add (db_any (db_op o_mul (db_var 1 (pe_var (i := 1) rfl (Or.inl rfl))) (db_any db_int))) (db_any (db_op o_mod (db_any (db_callB (c_abs) rfl T.n_abs rfl (dap_cons (db_any (db_callTy (c_int) rfl T.n_int rfl (dap_cons (db_var 2 (pe_var (i := 2) rfl (Or.inl rfl))) dap_nil))) dap_nil))) (db_any db_int))))) (db_any db_int))) (db_any db_int)))))))
  (ds_one (ds_ret (de_lst (da_cons (de_comp (own := [(".0", 3), ("cell", 2)]) rfl S.nd (di_seq (de_fz (de_pure (db_sl (db_var 0 (pe_var (i := 0) rfl (Or.inl rfl))) dpo_none (dpo_some (db_any db_int)))))) (blkOk_by (own := [(".0", 3), ("cell", 2)]) (N := N__law_pool) (sc := (fnScope (top 8))) (by decide +kernel)) (fun _ _ _ _ _ => (dg_name (i := 2) S.nd rfl (Or.inl rfl) rfl)) (fun _ _ _ _ _ => (DT.pts (dt_pure (dtp_cmp o_ge (db_any (db_callB (c_abs) rfl T.n_abs rfl (dap_cons (db_any (db_callTy (c_int) rfl T.n_int rfl (dap_cons (db_var 2 (pe_var (i := 2) rfl (Or.inl rfl))) dap_nil))) dap_nil))) (db_any (db_op o_pow (db_any db_int) (db_any db_int))) rfl)))) (fun _ _ _ _ _ => (de_pure (db_callB (c_abs) rfl T.n_abs rfl (dap_cons (db_any (db_callTy (c_int) rfl T.n_int rfl (dap_cons (db_var 2 (pe_var (i := 2) rfl (Or.inl rfl))) dap_nil))) dap_nil))))) (da_cons (de_move 1 (pe_var (i := 1) rfl (Or.inl rfl))) da_nil)))))))
abbrev N__law_draw : List Str := ["pool", "many", "told"]
noncomputable def B__law_draw : SSm := (sSeq (sAsg (eP (p2 dMod (p2 dAdd (p2 dMu (p2 dIx (pVar 0) (pC (.int 1))) (pC (.int 7123))) (pC (.int 137))) (pC (.int 1000033)))) (gPut (plVar 0) (pC (.int 1))))
  (sSeq (sWhl (tAnd2 (tP (tTruP (p2 dIx (pVar 0) (pC (.int 0))))) (tP (p2t dLtX (p2 dIx (p2 dIx (pVar 0) (pC (.int 0))) (pC (.int 0))) (pVar 1)))) (sExpr (eMetP (plIx (plVar 0) (pC (.int 0))) "list" mPop (aCons (pC (.int 0)) aNil))))
  (sSeq (sIf (tNo (tP (tTruP (p2 dIx (pVar 0) (pC (.int 0)))))) (sRet (eP (p2 dMod (pCall gInt (aCons (p2 dAdd (p2 dMu (p2 dIx (pVar 0) (pC (.int 1))) (pC (.int 37))) (p2 dDiv (p2 dIx (pVar 0) (pC (.int 1))) (pC (.int 89)))) aNil)) (pVar 1)))) sNil)
  (sSeq (sAsg (eP (p2 dMod (pCall gInt (aCons (p2 dIx (p2 dIx (pVar 0) (pC (.int 0))) (pC (.int 0))) aNil)) (pVar 1))) (gNm 2))
  (sSeq (sAsg (eP (p2 dDiv (p2 dIx (p2 dIx (pVar 0) (pC (.int 0))) (pC (.int 0))) (pVar 1))) (gPut (plIx (plVar 0) (pC (.int 0))) (pC (.int 0))))
  (sRet (eMove 2)))))))
noncomputable def F__law_draw : FSm := fnF (pinP [0, 1]) 2 1 B__law_draw
theorem sc__law_draw : FnScope N__law_draw ["pool", "many"] (fnScope (top 9)) := fnScope_by (by decide +kernel)
theorem ok__law_draw {f : Addr} {fd : FuncData} (T : Glo mg) (D : Def K mg "_law_draw" (top 9) f fd) (b : Binds K fd ["pool", "many"] [])  : Cal P w K mg base 2 "_law_draw" (Prom K F__law_draw) [] := by
  have S := sc__law_draw
  refine cal_of D b S rfl fun cdv A outer s H E hr => ?_
  obtain ⟨u0, u1, u64, u65⟩ := units_of hr
  exact (ds_cons (ds_asg (de_pure (db_op o_mod (db_any (db_op o_add (db_any (db_op o_mul (db_ix u1 (db_var 0 (pe_var (i := 0) rfl (Or.inl rfl))) (db_any db_int) fun _ _ => rfl) (db_any db_int))) (db_any db_int))) (db_any db_int))) (dg_sub u1 (dpl_var (pe_var (i := 0) rfl (Or.inl rfl))) (db_any db_int)))
  (ds_cons (ds_whl PassesOwn.never (dt_w (dw_and (dt_pure (dtp_tru (db_ix u1 (db_var 0 (pe_var (i := 0) rfl (Or.inl rfl))) (db_any db_int) fun _ _ => rfl))) (dw_and1 (dt_pure (dtp_cmp (o_ltX u0) (db_ix u1 (db_ix u1 (db_var 0 (pe_var (i := 0) rfl (Or.inl rfl))) (db_any db_int) fun _ _ => rfl) (db_any db_int) fun _ _ => rfl) (db_var 1 (pe_var (i := 1) rfl (Or.inl rfl))) rfl))))) (ds_one (ds_expr (de_metP F.plainAttrs_list F.slot_list_pop F.type_list_pop m_pop (dpl_ix (dpl_var (pe_var (i := 0) rfl (Or.inl rfl))) (db_any db_int) fun _ _ => rfl) (dapo_cons db_int dapo_nil)))))
  (ds_cons (ds_if (dt_not (dt_pure (dtp_tru (db_ix u1 (db_var 0 (pe_var (i := 0) rfl (Or.inl rfl))) (db_any db_int) fun _ _ => rfl)))) (ds_one (ds_ret (de_pure (db_op o_mod (db_any (db_callTy (c_int) rfl T.n_int rfl (dap_cons (db_any (db_op o_add (db_any (db_op o_mul (db_ix u1 (db_var 0 (pe_var (i := 0) rfl (Or.inl rfl))) (db_any db_int) fun _ _ => rfl) (db_any db_int))) (db_any (db_op o_div (db_ix u1 (db_var 0 (pe_var (i := 0) rfl (Or.inl rfl))) (db_any db_int) fun _ _ => rfl) (db_any db_int))))) dap_nil))) (db_var 1 (pe_var (i := 1) rfl (Or.inl rfl))))))) ds_nil)
  (ds_cons (ds_set (i := 2) S.nd rfl (Or.inl rfl) rfl (de_pure (db_op o_mod (db_any (db_callTy (c_int) rfl T.n_int rfl (dap_cons (db_ix u1 (db_ix u1 (db_var 0 (pe_var (i := 0) rfl (Or.inl rfl))) (db_any db_int) fun _ _ => rfl) (db_any db_int) fun _ _ => rfl) dap_nil))) (db_var 1 (pe_var (i := 1) rfl (Or.inl rfl))))))
  (ds_cons (ds_asg (de_pure (db_op o_div (db_ix u1 (db_ix u1 (db_var 0 (pe_var (i := 0) rfl (Or.inl rfl))) (db_any db_int) fun _ _ => rfl) (db_any db_int) fun _ _ => rfl) (db_var 1 (pe_var (i := 1) rfl (Or.inl rfl))))) (dg_sub u1 (dpl_ix (dpl_var (pe_var (i := 0) rfl (Or.inl rfl))) (db_any db_int) fun _ _ => rfl) (db_any db_int)))
  (ds_one (ds_ret (de_move 2 (pe_var (i := 2) rfl (Or.inl rfl))))))))))
abbrev N__law_same : List Str := ["told", "due", "left", "one", "other", ".0", "at"]
noncomputable def B__law_same : SSm := (sSeq (sAsg (eLst (aConsE (eP (pTup (aCons (pVar 0) (aCons (pVar 1) aNil)))) aNilE)) (gNm 2))
  (sSeq (sWhl (tP (tTruP (pVar 2))) (sSeq (sAsg (eMeth 2 "list" mPop aNilE) (gTu 2 (gsCons (gNm 3) (gsCons (gNm 4) gsNil))))
  (sIf (tP (tTruP (pIsi2 "tuple" "list" (pVar 4)))) (sSeq (sIf (tOr2 (tP (p2t dNe (pIsi "tuple" (pVar 3)) (pIsi "tuple" (pVar 4)))) (tP (p2t dNe (pIsi "list" (pVar 3)) (pIsi "list" (pVar 4))))) (sRet (eP (pC (.bl false)))) sNil)
  (sSeq (sIf (tP (p2t dNe (pCall gLen (aCons (pVar 3) aNil)) (pCall gLen (aCons (pVar 4) aNil)))) (sRet (eP (pC (.bl false)))) sNil)
  (sExpr (eMeth 2 "list" mExtend (aConsE (eComp [5, 6] (iRange1 (aConsE (eP (pCall gLen (aCons (pVar 4) aNil))) aNilE)) (gNm 6) yesT (eP (pTup (aCons (p2 dIx (pVar 3) (pVar 6)) (aCons (p2 dIx (pVar 4) (pVar 6)) aNil))))) aNilE))))) (sIf (tP (p2t dIs (pVar 4) (pC .non))) (sIf (tP (p2t dIsNot (pVar 3) (pC .non))) (sRet (eP (pC (.bl false)))) sNil) (sIf (tOr2 (tP (p2t dNe (pIsi "bool" (pVar 4)) (pIsi "bool" (pVar 3)))) (tP (p2t dNe (pIsi "int" (pVar 4)) (pIsi "int" (pVar 3))))) (sRet (eP (pC (.bl false)))) (sIf (tOr2 (tP (p2t dNe (pIsi "str" (pVar 4)) (pIsi "str" (pVar 3)))) (tP (p2t dNe (pVar 3) (pVar 4)))) (sRet (eP (pC (.bl false)))) sNil))))))
  (sRet (eP (pC (.bl true))))))
noncomputable def F__law_same : FSm := fnF (pinP [0, 1]) 2 5 B__law_same
theorem sc__law_same : FnScope N__law_same ["told", "due"] (fnScope (top 12)) := fnScope_by (by decide +kernel)
theorem ok__law_same {f : Addr} {fd : FuncData} (T : Glo mg) (D : Def K mg "_law_same" (top 12) f fd) (b : Binds K fd ["told", "due"] [])  : Cal P w K mg base 2 "_law_same" (Prom K F__law_same) [] := by
  have S := sc__law_same
  refine cal_of D b S rfl fun cdv A outer s H E hr => ?_
  obtain ⟨u0, u1, u64, u65⟩ := units_of hr
  exact (ds_cons (ds_set (i := 2) S.nd rfl (Or.inl rfl) rfl (de_lst (da_cons (de_pure (db_tup (dap_cons (db_var 0 (pe_var (i := 0) rfl (Or.inl rfl))) (dap_cons (db_var 1 (pe_var (i := 1) rfl (Or.inl rfl))) dap_nil)))) da_nil)))
  (ds_cons (ds_whl PassesOwn.never (dt_pure (dtp_tru (db_var 2 (pe_var (i := 2) rfl (Or.inl rfl))))) (ds_cons (ds_asg (de_meth0 F.plainAttrs_list F.slot_list_pop F.type_list_pop m_pop (pe_var (i := 2) rfl (Or.inl rfl))) (dg_tup rfl (dgs_cons (dg_name (i := 3) S.nd rfl (Or.inr rfl) rfl) (dgs_cons (dg_name (i := 4) S.nd rfl (Or.inr rfl) rfl) dgs_nil))))
  (ds_one (ds_if (dt_pure (dtp_tru (db_any (db_isi2 (T := "tuple") (U := "list") rfl rfl rfl T.n_isinstance rfl T.n_tuple rfl rfl T.n_list rfl (db_var 4 (pe_var (i := 4) rfl (Or.inr (Or.inl rfl)))))))) (ds_cons (ds_if (dt_w (dw_or (dt_pure (dtp_cmp (o_ne u64) (db_any (db_isi (T := "tuple") rfl rfl T.n_isinstance rfl T.n_tuple rfl (db_var 3 (pe_var (i := 3) rfl (Or.inr (Or.inl rfl)))))) (db_any (db_isi (T := "tuple") rfl rfl T.n_isinstance rfl T.n_tuple rfl (db_var 4 (pe_var (i := 4) rfl (Or.inr (Or.inl rfl)))))) rfl)) (dw_or1 (dt_pure (dtp_cmp (o_ne u64) (db_any (db_isi (T := "list") rfl rfl T.n_isinstance rfl T.n_list rfl (db_var 3 (pe_var (i := 3) rfl (Or.inr (Or.inl rfl)))))) (db_any (db_isi (T := "list") rfl rfl T.n_isinstance rfl T.n_list rfl (db_var 4 (pe_var (i := 4) rfl (Or.inr (Or.inl rfl)))))) rfl))))) (ds_one (ds_ret (de_pure db_bl))) ds_nil)
  (ds_cons (ds_if (dt_pure (dtp_cmp (o_ne u64) (db_any (db_callB (c_len) rfl T.n_len rfl (dap_cons (db_var 3 (pe_var (i := 3) rfl (Or.inr (Or.inl rfl)))) dap_nil))) (db_any (db_callB (c_len) rfl T.n_len rfl (dap_cons (db_var 4 (pe_var (i := 4) rfl (Or.inr (Or.inl rfl)))) dap_nil))) rfl)) (ds_one (ds_ret (de_pure db_bl))) ds_nil)
  (ds_one (ds_expr (de_meth F.plainAttrs_list F.slot_list_extend F.type_list_extend m_extend (pe_var (i := 2) rfl (Or.inl rfl)) (da_cons (de_comp (own := [(".0", 5), ("at", 6)]) rfl S.nd (di_range1 rfl T.n_range (da_cons (de_pure (db_callB (c_len) rfl T.n_len rfl (dap_cons (db_var 4 (pe_var (i := 4) rfl (Or.inr (Or.inl rfl)))) dap_nil))) da_nil)) (blkOk_by (own := [(".0", 5), ("at", 6)]) (N := N__law_same) (sc := (fnScope (top 12))) (by decide +kernel)) (fun _ _ _ _ _ => (dg_name (i := 6) S.nd rfl (Or.inl rfl) rfl)) (fun _ _ _ _ _ => pts_yes) (fun _ _ _ _ _ => (de_pure (db_tup (dap_cons (db_ix u1 (db_var 3 (pe_var (i := 3) rfl (Or.inr (Or.inl rfl)))) (db_var 6 (pe_var (i := 6) rfl (Or.inl rfl))) fun _ _ => rfl) (dap_cons (db_ix u1 (db_var 4 (pe_var (i := 4) rfl (Or.inr (Or.inl rfl)))) (db_var 6 (pe_var (i := 6) rfl (Or.inl rfl))) fun _ _ => rfl) dap_nil)))))) da_nil)))))) (ds_one (ds_if (dt_pure (dtp_cmp o_is (db_var 4 (pe_var (i := 4) rfl (Or.inr (Or.inl rfl)))) (db_any db_non) rfl)) (ds_one (ds_if (dt_pure (dtp_cmp o_isnot (db_var 3 (pe_var (i := 3) rfl (Or.inr (Or.inl rfl)))) (db_any db_non) rfl)) (ds_one (ds_ret (de_pure db_bl))) ds_nil)) (ds_one (ds_if (dt_w (dw_or (dt_pure (dtp_cmp (o_ne u64) (db_any (db_isi (T := "bool") rfl rfl T.n_isinstance rfl T.n_bool rfl (db_var 4 (pe_var (i := 4) rfl (Or.inr (Or.inl rfl)))))) (db_any (db_isi (T := "bool") rfl rfl T.n_isinstance rfl T.n_bool rfl (db_var 3 (pe_var (i := 3) rfl (Or.inr (Or.inl rfl)))))) rfl)) (dw_or1 (dt_pure (dtp_cmp (o_ne u64) (db_any (db_isi (T := "int") rfl rfl T.n_isinstance rfl T.n_int rfl (db_var 4 (pe_var (i := 4) rfl (Or.inr (Or.inl rfl)))))) (db_any (db_isi (T := "int") rfl rfl T.n_isinstance rfl T.n_int rfl (db_var 3 (pe_var (i := 3) rfl (Or.inr (Or.inl rfl)))))) rfl))))) (ds_one (ds_ret (de_pure db_bl))) (ds_one (ds_if (dt_w (dw_or (dt_pure (dtp_cmp (o_ne u64) (db_any (db_isi (T := "str") rfl rfl T.n_isinstance rfl T.n_str rfl (db_var 4 (pe_var (i := 4) rfl (Or.inr (Or.inl rfl)))))) (db_any (db_isi (T := "str") rfl rfl T.n_isinstance rfl T.n_str rfl (db_var 3 (pe_var (i := 3) rfl (Or.inr (Or.inl rfl)))))) rfl)) (dw_or1 (dt_pure (dtp_cmp (o_ne u64) (db_var 3 (pe_var (i := 3) rfl (Or.inr (Or.inl rfl)))) (db_var 4 (pe_var (i := 4) rfl (Or.inr (Or.inl rfl)))) rfl))))) (ds_one (ds_ret (de_pure db_bl))) ds_nil))))))))))
  (ds_one (ds_ret (de_pure db_bl)))))
abbrev N__law_plain : List Str := ["row", "rest", "left"]
noncomputable def B__law_plain : SSm := (sSeq (sAsg (eP (pCall gList (aCons (pVar 0) aNil))) (gNm 2))
  (sSeq (sWhl (tAnd2 (tP (tTruP (pVar 2))) (tP (p2t dEq (p2 dIx (pVar 2) (p1 dNeg (pC (.int 1)))) (pVar 1)))) (sExpr (eMeth 2 "list" mPop aNilE)))
  (sRet (eP (pTup (aCons (pCall gTuple (aCons (pVar 2) aNil)) (aCons (pVar 1) aNil)))))))
noncomputable def F__law_plain : FSm := fnF (pinP [0, 1]) 2 1 B__law_plain
theorem sc__law_plain : FnScope N__law_plain ["row", "rest"] (fnScope (top 13)) := fnScope_by (by decide +kernel)
theorem ok__law_plain {f : Addr} {fd : FuncData} (T : Glo mg) (D : Def K mg "_law_plain" (top 13) f fd) (b : Binds K fd ["row", "rest"] [])  : Cal P w K mg base 2 "_law_plain" (Prom K F__law_plain) [] := by
  have S := sc__law_plain
  refine cal_of D b S rfl fun cdv A outer s H E hr => ?_
  obtain ⟨u0, u1, u64, u65⟩ := units_of hr
  exact (ds_cons (ds_set (i := 2) S.nd rfl (Or.inl rfl) rfl (de_pure (db_callTy (c_list) rfl T.n_list rfl (dap_cons (db_var 0 (pe_var (i := 0) rfl (Or.inl rfl))) dap_nil))))
  (ds_cons (ds_whl PassesOwn.never (dt_w (dw_and (dt_pure (dtp_tru (db_var 2 (pe_var (i := 2) rfl (Or.inl rfl))))) (dw_and1 (dt_pure (dtp_cmp (o_eq u64) (db_ix u1 (db_var 2 (pe_var (i := 2) rfl (Or.inl rfl))) (db_any (db_neg (db_any db_int))) fun _ _ => rfl) (db_var 1 (pe_var (i := 1) rfl (Or.inl rfl))) rfl))))) (ds_one (ds_expr (de_meth0 F.plainAttrs_list F.slot_list_pop F.type_list_pop m_pop (pe_var (i := 2) rfl (Or.inl rfl))))))
  (ds_one (ds_ret (de_pure (db_tup (dap_cons (db_any (db_callTy (c_tuple) rfl T.n_tuple rfl (dap_cons (db_var 2 (pe_var (i := 2) rfl (Or.inl rfl))) dap_nil))) (dap_cons (db_var 1 (pe_var (i := 1) rfl (Or.inl rfl))) dap_nil))))))))
abbrev N__law_conditions : List Str := ["sheet", "hands", "works", "ties", "rows", "hour", ".0", "work", "many", "tie"]
noncomputable def B__law_conditions : SSm := (sSeq (sAsg (eMove 0) (gTu 3 (gsCons (gNm 1) (gsCons (gNm 2) (gsCons (gNm 3) gsNil)))))
  (sSeq (sAsg (eComp [6, 7] (iSeq (eMove 2)) (gNm 7) (tP (p2t dGt (p2 dIx (pVar 7) (pC (.int 1))) (pC (.int 0)))) (eP (pTup (aCons (pC (.str "begin")) (aCons (p2 dIx (pVar 7) (pC (.int 0))) aNil))))) (gNm 4))
  (sSeq (sFz 4 (sAsg (eFz (e2 dAdd (eMove 4) (eComp [6, 7] (iSeq (eMove 2)) (gNm 7) (tP (p2t dLtX (p2 dIx (pVar 7) (pC (.int 2))) (pC (.int 1000)))) (eP (pTup (aCons (pC (.str "end")) (aCons (p2 dIx (pVar 7) (pC (.int 0))) aNil))))))) (gNm 4)))
  (sSeq (sFor (iRange1 (aConsE (eP (pCall gLen (aCons (p2 dIx (pVar 1) (pC (.int 0))) aNil))) aNilE)) (gNm 5) (sAsg (eFz (e2 dAdd (eMove 4) (eComp [6, 8] (iRange2 (aConsE (eP (pOwn (p2 dIx (p2 dIx (pVar 1) (pC (.int 0))) (pVar 5)))) (aConsE (eP (pC (.int 2))) aNilE))) (gNm 8) yesT (eP (pTup (aCons (pC (.str "hand")) (aCons (pVar 5) (aCons (pVar 8) aNil)))))))) (gNm 4)))
  (sRet (eCall gTuple (aConsE (e2 dAdd (eMove 4) (eComp [6, 9] (iSeq (eMove 3)) (gNm 9) yesT (eP (pTup (aCons (pC (.str "tie")) (aCons (p2 dIx (pVar 9) (pC (.int 0))) (aCons (p2 dIx (pVar 9) (pC (.int 1))) aNil))))))) aNilE)))))))
noncomputable def F__law_conditions : FSm := fnF (pinP [0]) 1 9 B__law_conditions
theorem sc__law_conditions : FnScope N__law_conditions ["sheet"] (fnScope (top 15)) := fnScope_by (by decide +kernel)
theorem ok__law_conditions {f : Addr} {fd : FuncData} (T : Glo mg) (D : Def K mg "_law_conditions" (top 15) f fd) (b : Binds K fd ["sheet"] [])  : Cal P w K mg base 2 "_law_conditions" (Prom K F__law_conditions) [] := by
  have S := sc__law_conditions
  refine cal_of D b S rfl fun cdv A outer s H E hr => ?_
  obtain ⟨u0, u1, u64, u65⟩ := units_of hr
  exact (ds_cons (ds_asg (de_move 0 (pe_var (i := 0) rfl (Or.inl rfl))) (dg_tup rfl (dgs_cons (dg_name (i := 1) S.nd rfl (Or.inl rfl) rfl) (dgs_cons (dg_name (i := 2) S.nd rfl (Or.inl rfl) rfl) (dgs_cons (dg_name (i := 3) S.nd rfl (Or.inl rfl) rfl) dgs_nil)))))
  (ds_cons (ds_setComp (i := 4) (own := [(".0", 6), ("work", 7)]) rfl S.nd rfl rfl rfl (sw_true rfl rfl rfl (by decide +kernel)) (di_seq (de_move 2 (pe_var (i := 2) rfl (Or.inl rfl)))) (blkOk_by (own := [(".0", 6), ("work", 7)]) (N := N__law_conditions) (sc := (fnScope (top 15))) (by decide +kernel)) (fun _ _ _ _ _ => (dg_name (i := 7) S.nd rfl (Or.inl rfl) rfl)) (fun _ _ _ _ _ => (DT.pts (dt_pure (dtp_cmp o_gt (db_ix u1 (db_var 7 (pe_var (i := 7) rfl (Or.inl rfl))) (db_any db_int) fun _ _ => rfl) (db_any db_int) rfl)))) (fun _ _ _ _ _ => (de_pure (db_tup (dap_cons (db_any db_str) (dap_cons (db_ix u1 (db_var 7 (pe_var (i := 7) rfl (Or.inl rfl))) (db_any db_int) fun _ _ => rfl) dap_nil))))))
  (ds_cons (ds_fz 4 (ds_set (i := 4) S.nd rfl (Or.inl rfl) rfl (de_fz (de_op o_add (de_move 4 (pe_var (i := 4) rfl (Or.inl rfl))) (de_comp (own := [(".0", 6), ("work", 7)]) rfl S.nd (di_seq (de_move 2 (pe_var (i := 2) rfl (Or.inl rfl)))) (blkOk_by (own := [(".0", 6), ("work", 7)]) (N := N__law_conditions) (sc := (fnScope (top 15))) (by decide +kernel)) (fun _ _ _ _ _ => (dg_name (i := 7) S.nd rfl (Or.inl rfl) rfl)) (fun _ _ _ _ _ => (DT.pts (dt_pure (dtp_cmp (o_ltX u0) (db_ix u1 (db_var 7 (pe_var (i := 7) rfl (Or.inl rfl))) (db_any db_int) fun _ _ => rfl) (db_any db_int) rfl)))) (fun _ _ _ _ _ => (de_pure (db_tup (dap_cons (db_any db_str) (dap_cons (db_ix u1 (db_var 7 (pe_var (i := 7) rfl (Or.inl rfl))) (db_any db_int) fun _ _ => rfl) dap_nil))))))))))
  (ds_cons (ds_for PassesOwn.never rfl (di_range1 rfl T.n_range (da_cons (de_pure (db_callB (c_len) rfl T.n_len rfl (dap_cons (db_ix u1 (db_var 1 (pe_var (i := 1) rfl (Or.inl rfl))) (db_any db_int) fun _ _ => rfl) dap_nil))) da_nil)) (dg_name (i := 5) S.nd rfl (Or.inr rfl) rfl) (ds_one (ds_set (i := 4) S.nd rfl (Or.inl rfl) rfl (de_fz (de_op o_add (de_move 4 (pe_var (i := 4) rfl (Or.inl rfl))) (de_comp (own := [(".0", 6), ("many", 8)]) rfl S.nd (di_range2 rfl T.n_range (da_cons (de_pure (db_own (db_ix u1 (db_ix u1 (db_var 1 (pe_var (i := 1) rfl (Or.inl rfl))) (db_any db_int) fun _ _ => rfl) (db_var 5 (pe_var (i := 5) rfl (Or.inr (Or.inl rfl)))) fun _ _ => rfl))) (da_cons (de_pure db_int) da_nil))) (blkOk_by (own := [(".0", 6), ("many", 8)]) (N := N__law_conditions) (sc := (fnScope (top 15))) (by decide +kernel)) (fun _ _ _ _ _ => (dg_name (i := 8) S.nd rfl (Or.inl rfl) rfl)) (fun _ _ _ _ _ => pts_yes) (fun _ _ _ _ _ => (de_pure (db_tup (dap_cons (db_any db_str) (dap_cons (db_var 5 (pe_var (i := 5) rfl (Or.inr (Or.inl rfl)))) (dap_cons (db_var 8 (pe_var (i := 8) rfl (Or.inl rfl))) dap_nil))))))))))))
  (ds_one (ds_ret (de_callTy (c_tuple) rfl T.n_tuple rfl (da_cons (de_op o_add (de_move 4 (pe_var (i := 4) rfl (Or.inl rfl))) (de_comp (own := [(".0", 6), ("tie", 9)]) rfl S.nd (di_seq (de_move 3 (pe_var (i := 3) rfl (Or.inl rfl)))) (blkOk_by (own := [(".0", 6), ("tie", 9)]) (N := N__law_conditions) (sc := (fnScope (top 15))) (by decide +kernel)) (fun _ _ _ _ _ => (dg_name (i := 9) S.nd rfl (Or.inl rfl) rfl)) (fun _ _ _ _ _ => pts_yes) (fun _ _ _ _ _ => (de_pure (db_tup (dap_cons (db_any db_str) (dap_cons (db_ix u1 (db_var 9 (pe_var (i := 9) rfl (Or.inl rfl))) (db_any db_int) fun _ _ => rfl) (dap_cons (db_ix u1 (db_var 9 (pe_var (i := 9) rfl (Or.inl rfl))) (db_any db_int) fun _ _ => rfl) dap_nil)))))))) da_nil))))))))
abbrev N_freed_hands : List Str := ["hands", "struck", "row", "hour", "many", "more"]
noncomputable def B_freed_hands : SSm := (sSeq (sAsg (eP (pCall gList (aCons (p2 dIx (pVar 0) (pC (.int 0))) aNil))) (gNm 2))
  (sSeq (sFor (iEnumE (aConsE (eFz (eP (pOwn (p2 dIx (pVar 0) (pC (.int 0)))))) aNilE)) (gTu 2 (gsCons (gNm 3) (gsCons (gNm 4) gsNil))) (sFor (iRange2 (aConsE (eMove 4) (aConsE (eP (pC (.int 2))) aNilE))) (gNm 5) (sIf (tP (p2t dIn (pTup (aCons (pC (.str "hand")) (aCons (pVar 3) (aCons (pVar 5) aNil)))) (pVar 1))) (sAsg (eP (p2 dAdd (pVar 5) (pC (.int 1)))) (gPut (plVar 2) (pVar 3))) sNil)))
  (sRet (eDef F_make_hands (cVal (eP (pCall gTuple (aCons (pVar 2) aNil))) (cVal (eP (pOwn (p2 dIx (pVar 0) (pC (.int 1))))) cNil))))))
noncomputable def F_freed_hands : FSm := fnF (pinP [0, 1]) 2 4 B_freed_hands
theorem sc_freed_hands : FnScope N_freed_hands ["hands", "struck"] (fnScope (top 5)) := fnScope_by (by decide +kernel)
theorem ok_freed_hands {f : Addr} {fd : FuncData} (T : Glo mg) (D : Def K mg "freed_hands" (top 5) f fd) (b : Binds K fd ["hands", "struck"] []) (c_make_hands : Cal P w K mg base 2 "make_hands" (Prom K F_make_hands) []) : Cal P w K mg base 3 "freed_hands" (Prom K F_freed_hands) [] := by
  have S := sc_freed_hands
  refine cal_of D b S rfl fun cdv A outer s H E hr => ?_
  obtain ⟨u0, u1, u64, u65⟩ := units_of hr
  exact (ds_cons (ds_set (i := 2) S.nd rfl (Or.inl rfl) rfl (de_pure (db_callTy (c_list) rfl T.n_list rfl (dap_cons (db_ix u1 (db_var 0 (pe_var (i := 0) rfl (Or.inl rfl))) (db_any db_int) fun _ _ => rfl) dap_nil))))
  (ds_cons (ds_for PassesOwn.never rfl (di_enum rfl T.n_enumerate (da_cons (de_fz (de_pure (db_own (db_ix u1 (db_var 0 (pe_var (i := 0) rfl (Or.inl rfl))) (db_any db_int) fun _ _ => rfl)))) da_nil)) (dg_tup rfl (dgs_cons (dg_name (i := 3) S.nd rfl (Or.inl rfl) rfl) (dgs_cons (dg_name (i := 4) S.nd rfl (Or.inl rfl) rfl) dgs_nil))) (ds_one (ds_for PassesOwn.never rfl (di_range2 rfl T.n_range (da_cons (de_move 4 (pe_var (i := 4) rfl (Or.inl rfl))) (da_cons (de_pure db_int) da_nil))) (dg_name (i := 5) S.nd rfl (Or.inl rfl) rfl) (ds_one (ds_if (dt_pure (dtp_cmp (o_in u65) (db_any (db_tup (dap_cons (db_any db_str) (dap_cons (db_var 3 (pe_var (i := 3) rfl (Or.inl rfl))) (dap_cons (db_var 5 (pe_var (i := 5) rfl (Or.inl rfl))) dap_nil))))) (db_var 1 (pe_var (i := 1) rfl (Or.inl rfl))) rfl)) (ds_one (ds_asg (de_pure (db_op o_add (db_var 5 (pe_var (i := 5) rfl (Or.inl rfl))) (db_any db_int))) (dg_sub u1 (dpl_var (pe_var (i := 2) rfl (Or.inl rfl))) (db_var 3 (pe_var (i := 3) rfl (Or.inl rfl)))))) ds_nil)))))
  (ds_one (ds_ret (de_call c_make_hands hr (by decide) rfl (dc_val (de_pure (db_callTy (c_tuple) rfl T.n_tuple rfl (dap_cons (db_var 2 (pe_var (i := 2) rfl (Or.inl rfl))) dap_nil))) (dc_val (de_pure (db_own (db_ix u1 (db_var 0 (pe_var (i := 0) rfl (Or.inl rfl))) (db_any db_int) fun _ _ => rfl))) dc_nil)))))))
abbrev N__law_pick : List Str := ["pool", "row"]
noncomputable def B__law_pick : SSm := (sRet (e2 dIxI (eMove 1) (eDef F__law_draw (cBor 0 (cVal (eP (pCall gLen (aCons (pVar 1) aNil))) cNil)))))
noncomputable def F__law_pick : FSm := fnF (pinP [0, 1]) 2 0 B__law_pick
theorem sc__law_pick : FnScope N__law_pick ["pool", "row"] (fnScope (top 10)) := fnScope_by (by decide +kernel)
theorem ok__law_pick {f : Addr} {fd : FuncData} (T : Glo mg) (D : Def K mg "_law_pick" (top 10) f fd) (b : Binds K fd ["pool", "row"] []) (c__law_draw : Cal P w K mg base 2 "_law_draw" (Prom K F__law_draw) []) : Cal P w K mg base 3 "_law_pick" (Prom K F__law_pick) [] := by
  have S := sc__law_pick
  refine cal_of D b S rfl fun cdv A outer s H E hr => ?_
  obtain ⟨u0, u1, u64, u65⟩ := units_of hr
  exact (ds_one (ds_ret (de_ix u1 (de_move 1 (pe_var (i := 1) rfl (Or.inl rfl))) (de_call c__law_draw hr (by decide) rfl (dc_bor (pe_var (i := 0) rfl (Or.inl rfl)) (dc_val (de_pure (db_callB (c_len) rfl T.n_len rfl (dap_cons (db_var 1 (pe_var (i := 1) rfl (Or.inl rfl))) dap_nil))) dc_nil))) fun _ _ => rfl)))
abbrev N__law_without : List Str := ["sheet", "struck", "hands", "works", "ties", "row", "condition", "begins", "ends", "pairs", "fresh", "name", "begin", "end", ".0", "tie"]
noncomputable def B__law_without : SSm := (sSeq (sAsg (eMove 0) (gTu 3 (gsCons (gNm 2) (gsCons (gNm 3) (gsCons (gNm 4) gsNil)))))
  (sSeq (sAsg (eP (pCall gList (aCons (p2 dIx (pVar 2) (pC (.int 0))) aNil))) (gNm 5))
  (sSeq (sFor (iSeq (eMove 1)) (gNm 6) (sIf (tP (p2t dEq (p2 dIx (pVar 6) (pC (.int 0))) (pC (.str "hand")))) (sAsg (eP (pCall gMax (aCons (p2 dIx (pVar 5) (p2 dIx (pVar 6) (pC (.int 1)))) (aCons (p2 dAdd (p2 dIx (pVar 6) (pC (.int 2))) (pC (.int 1))) aNil)))) (gPut (plVar 5) (p2 dIx (pVar 6) (pC (.int 1))))) sNil))
  (sSeq (sAsg (eComp [14, 6] (iSeq (eMove 1)) (gNm 6) (tP (p2t dEq (p2 dIx (pVar 6) (pC (.int 0))) (pC (.str "begin")))) (eP (pOwn (p2 dIx (pVar 6) (pC (.int 1)))))) (gNm 7))
  (sSeq (sFz 7 (sAsg (eComp [14, 6] (iSeq (eMove 1)) (gNm 6) (tP (p2t dEq (p2 dIx (pVar 6) (pC (.int 0))) (pC (.str "end")))) (eP (pOwn (p2 dIx (pVar 6) (pC (.int 1)))))) (gNm 8)))
  (sSeq (sFz 8 (sAsg (eFz (eComp [14, 6] (iSeq (eMove 1)) (gNm 6) (tP (p2t dEq (p2 dIx (pVar 6) (pC (.int 0))) (pC (.str "tie")))) (eP (pSl (pVar 6) (oSome (pC (.int 1))) oNo)))) (gNm 9)))
  (sSeq (sAsg (eLst aNilE) (gNm 10))
  (sSeq (sFor (iSeq (eMove 3)) (gTu 3 (gsCons (gNm 11) (gsCons (gNm 12) (gsCons (gNm 13) gsNil)))) (sExpr (eMeth 10 "list" mAppend (aConsE (eTup (aConsE (eMove 11) (aConsE (eIf (tP (p2t dIn (pVar 11) (pVar 7))) (eP (pC (.int 0))) (eMove 12)) (aConsE (eIf (tP (p2t dIn (pVar 11) (pVar 8))) (eP (pC (.int 1000))) (eMove 13)) aNilE)))) aNilE))))
  (sRet (eTup (aConsE (eDef F__law_plain (cBor 5 (cVal (eP (pOwn (p2 dIx (pVar 2) (pC (.int 1))))) cNil))) (aConsE (eP (pCall gTuple (aCons (pVar 10) aNil))) (aConsE (eCall gTuple (aConsE (eComp [14, 15] (iSeq (eMove 4)) (gNm 15) (tP (p2t dNotIn (pSl (pVar 15) oNo (oSome (pC (.int 2)))) (pVar 9))) (eMove 15)) aNilE)) aNilE)))))))))))))
noncomputable def F__law_without : FSm := fnF (pinP [0, 1]) 2 14 B__law_without
theorem sc__law_without : FnScope N__law_without ["sheet", "struck"] (fnScope (top 16)) := fnScope_by (by decide +kernel)
theorem ok__law_without {f : Addr} {fd : FuncData} (T : Glo mg) (D : Def K mg "_law_without" (top 16) f fd) (b : Binds K fd ["sheet", "struck"] []) (c__law_plain : Cal P w K mg base 2 "_law_plain" (Prom K F__law_plain) []) : Cal P w K mg base 3 "_law_without" (Prom K F__law_without) [] := by
  have S := sc__law_without
  refine cal_of D b S rfl fun cdv A outer s H E hr => ?_
  obtain ⟨u0, u1, u64, u65⟩ := units_of hr
  exact (ds_cons (ds_asg (de_move 0 (pe_var (i := 0) rfl (Or.inl rfl))) (dg_tup rfl (dgs_cons (dg_name (i := 2) S.nd rfl (Or.inl rfl) rfl) (dgs_cons (dg_name (i := 3) S.nd rfl (Or.inl rfl) rfl) (dgs_cons (dg_name (i := 4) S.nd rfl (Or.inl rfl) rfl) dgs_nil)))))
  (ds_cons (ds_set (i := 5) S.nd rfl (Or.inl rfl) rfl (de_pure (db_callTy (c_list) rfl T.n_list rfl (dap_cons (db_ix u1 (db_var 2 (pe_var (i := 2) rfl (Or.inl rfl))) (db_any db_int) fun _ _ => rfl) dap_nil))))
  (ds_cons (ds_for PassesOwn.never rfl (di_seq (de_move 1 (pe_var (i := 1) rfl (Or.inl rfl)))) (dg_name (i := 6) S.nd rfl (Or.inl rfl) rfl) (ds_one (ds_if (dt_pure (dtp_cmp (o_eq u64) (db_ix u1 (db_var 6 (pe_var (i := 6) rfl (Or.inl rfl))) (db_any db_int) fun _ _ => rfl) (db_any db_str) rfl)) (ds_one (ds_asg (de_pure (db_callB (c_max rfl) rfl T.n_max rfl (dap_cons (db_ix u1 (db_var 5 (pe_var (i := 5) rfl (Or.inl rfl))) (db_ix u1 (db_var 6 (pe_var (i := 6) rfl (Or.inl rfl))) (db_any db_int) fun _ _ => rfl) fun _ _ => rfl) (dap_cons (db_any (db_op o_add (db_ix u1 (db_var 6 (pe_var (i := 6) rfl (Or.inl rfl))) (db_any db_int) fun _ _ => rfl) (db_any db_int))) dap_nil)))) (dg_sub u1 (dpl_var (pe_var (i := 5) rfl (Or.inl rfl))) (db_ix u1 (db_var 6 (pe_var (i := 6) rfl (Or.inl rfl))) (db_any db_int) fun _ _ => rfl)))) ds_nil)))
  (ds_cons (ds_setComp (i := 7) (own := [(".0", 14), ("condition", 6)]) rfl S.nd rfl rfl rfl (sw_true rfl rfl rfl (by decide +kernel)) (di_seq (de_move 1 (pe_var (i := 1) rfl (Or.inl rfl)))) (blkOk_by (own := [(".0", 14), ("condition", 6)]) (N := N__law_without) (sc := (fnScope (top 16))) (by decide +kernel)) (fun _ _ _ _ _ => (dg_name (i := 6) S.nd rfl (Or.inl rfl) rfl)) (fun _ _ _ _ _ => (DT.pts (dt_pure (dtp_cmp (o_eq u64) (db_ix u1 (db_var 6 (pe_var (i := 6) rfl (Or.inl rfl))) (db_any db_int) fun _ _ => rfl) (db_any db_str) rfl)))) (fun _ _ _ _ _ => (de_pure (db_own (db_ix u1 (db_var 6 (pe_var (i := 6) rfl (Or.inl rfl))) (db_any db_int) fun _ _ => rfl)))))
  (ds_cons (ds_fz 7 (ds_setComp (i := 8) (own := [(".0", 14), ("condition", 6)]) rfl S.nd rfl rfl rfl (sw_true rfl rfl rfl (by decide +kernel)) (di_seq (de_move 1 (pe_var (i := 1) rfl (Or.inl rfl)))) (blkOk_by (own := [(".0", 14), ("condition", 6)]) (N := N__law_without) (sc := (fnScope (top 16))) (by decide +kernel)) (fun _ _ _ _ _ => (dg_name (i := 6) S.nd rfl (Or.inl rfl) rfl)) (fun _ _ _ _ _ => (DT.pts (dt_pure (dtp_cmp (o_eq u64) (db_ix u1 (db_var 6 (pe_var (i := 6) rfl (Or.inl rfl))) (db_any db_int) fun _ _ => rfl) (db_any db_str) rfl)))) (fun _ _ _ _ _ => (de_pure (db_own (db_ix u1 (db_var 6 (pe_var (i := 6) rfl (Or.inl rfl))) (db_any db_int) fun _ _ => rfl))))))
  (ds_cons (ds_fz 8 (ds_set (i := 9) S.nd rfl (Or.inr rfl) rfl (de_fz (de_comp (own := [(".0", 14), ("condition", 6)]) rfl S.nd (di_seq (de_move 1 (pe_var (i := 1) rfl (Or.inl rfl)))) (blkOk_by (own := [(".0", 14), ("condition", 6)]) (N := N__law_without) (sc := (fnScope (top 16))) (by decide +kernel)) (fun _ _ _ _ _ => (dg_name (i := 6) S.nd rfl (Or.inl rfl) rfl)) (fun _ _ _ _ _ => (DT.pts (dt_pure (dtp_cmp (o_eq u64) (db_ix u1 (db_var 6 (pe_var (i := 6) rfl (Or.inl rfl))) (db_any db_int) fun _ _ => rfl) (db_any db_str) rfl)))) (fun _ _ _ _ _ => (de_pure (db_sl (db_var 6 (pe_var (i := 6) rfl (Or.inl rfl))) (dpo_some (db_any db_int)) dpo_none)))))))
  (ds_cons (ds_set (i := 10) S.nd rfl (Or.inl rfl) rfl (de_lst da_nil))
  (ds_cons (ds_for PassesOwn.never rfl (di_seq (de_move 3 (pe_var (i := 3) rfl (Or.inl rfl)))) (dg_tup rfl (dgs_cons (dg_name (i := 11) S.nd rfl (Or.inl rfl) rfl) (dgs_cons (dg_name (i := 12) S.nd rfl (Or.inl rfl) rfl) (dgs_cons (dg_name (i := 13) S.nd rfl (Or.inl rfl) rfl) dgs_nil)))) (ds_one (ds_expr (de_meth F.plainAttrs_list F.slot_list_append F.type_list_append m_append (pe_var (i := 10) rfl (Or.inl rfl)) (da_cons (de_tup (da_cons (de_move 11 (pe_var (i := 11) rfl (Or.inl rfl))) (da_cons (de_if (dt_pure (dtp_cmp (o_in u65) (db_var 11 (pe_var (i := 11) rfl (Or.inl rfl))) (db_var 7 (pe_var (i := 7) rfl (Or.inl rfl))) rfl)) (de_pure db_int) (de_move 12 (pe_var (i := 12) rfl (Or.inl rfl)))) (da_cons (de_if (dt_pure (dtp_cmp (o_in u65) (db_var 11 (pe_var (i := 11) rfl (Or.inl rfl))) (db_var 8 (pe_var (i := 8) rfl (Or.inl rfl))) rfl)) (de_pure db_int) (de_move 13 (pe_var (i := 13) rfl (Or.inl rfl)))) da_nil)))) da_nil)))))
  (ds_one (ds_ret (de_tup (da_cons (de_call c__law_plain hr (by decide) rfl (dc_bor (pe_var (i := 5) rfl (Or.inl rfl)) (dc_val (de_pure (db_own (db_ix u1 (db_var 2 (pe_var (i := 2) rfl (Or.inl rfl))) (db_any db_int) fun _ _ => rfl))) dc_nil))) (da_cons (de_pure (db_callTy (c_tuple) rfl T.n_tuple rfl (dap_cons (db_var 10 (pe_var (i := 10) rfl (Or.inl rfl))) dap_nil))) (da_cons (de_callTy (c_tuple) rfl T.n_tuple rfl (da_cons (de_comp (own := [(".0", 14), ("tie", 15)]) rfl S.nd (di_seq (de_move 4 (pe_var (i := 4) rfl (Or.inl rfl)))) (blkOk_by (own := [(".0", 14), ("tie", 15)]) (N := N__law_without) (sc := (fnScope (top 16))) (by decide +kernel)) (fun _ _ _ _ _ => (dg_name (i := 15) S.nd rfl (Or.inl rfl) rfl)) (fun _ _ _ _ _ => (DT.pts (dt_pure (dtp_cmp (o_notin u65) (db_any (db_sl (db_var 15 (pe_var (i := 15) rfl (Or.inl rfl))) dpo_none (dpo_some (db_any db_int)))) (db_var 9 (pe_var (i := 9) rfl (Or.inr (Or.inl rfl)))) rfl)))) (fun _ _ _ _ _ => (de_move 15 (pe_var (i := 15) rfl (Or.inl rfl))))) da_nil)) da_nil))))))))))))))
abbrev N_sheet_without : List Str := ["sheet", "conditions", "struck", "works", "name", "begin", "end", "first", "ties", ".0", "condition", "tie"]
noncomputable def B_sheet_without : SSm := (sSeq (sAsg (eFz (eDc (.dcT false [] []) [9, 10] (iSeq (eMove 1)) (gNm 10) yesT (eMove 10) (eP (pC (.bl true))))) (gNm 2))
  (sSeq (sAsg (eLst aNilE) (gNm 3))
  (sSeq (sFor (iSeq (eFz (eP (pOwn (p2 dIx (pVar 0) (pC (.int 1))))))) (gTu 3 (gsCons (gNm 4) (gsCons (gNm 5) (gsCons (gNm 6) gsNil)))) (sSeq (sAsg (eFz (eIf (tP (p2t dIn (pTup (aCons (pC (.str "begin")) (aCons (pVar 4) aNil))) (pVar 2))) (eP (pC (.int 0))) (eMove 5))) (gNm 7))
  (sExpr (eMeth 3 "list" mAppend (aConsE (eTup (aConsE (eMove 4) (aConsE (eMove 7) (aConsE (eIf (tP (p2t dIn (pTup (aCons (pC (.str "end")) (aCons (pVar 4) aNil))) (pVar 2))) (eP (pC (.int 1000))) (eMove 6)) aNilE)))) aNilE)))))
  (sSeq (sAsg (eCall gTuple (aConsE (eComp [9, 11] (iSeq (eFz (eP (pOwn (p2 dIx (pVar 0) (pC (.int 2))))))) (gNm 11) (tP (p2t dNotIn (pTup (aCons (pC (.str "tie")) (aCons (p2 dIx (pVar 11) (pC (.int 0))) (aCons (p2 dIx (pVar 11) (pC (.int 1))) aNil)))) (pVar 2))) (eMove 11)) aNilE)) (gNm 8))
  (sRet (eTup (aConsE (eDef F_freed_hands (cVal (eP (pOwn (p2 dIx (pVar 0) (pC (.int 0))))) (cBor 2 cNil))) (aConsE (eP (pCall gTuple (aCons (pVar 3) aNil))) (aConsE (eMove 8) aNilE)))))))))
noncomputable def F_sheet_without : FSm := fnF (pinP [0, 1]) 2 10 B_sheet_without
theorem sc_sheet_without : FnScope N_sheet_without ["sheet", "conditions"] (fnScope (top 6)) := fnScope_by (by decide +kernel)
theorem ok_sheet_without {f : Addr} {fd : FuncData} (T : Glo mg) (D : Def K mg "sheet_without" (top 6) f fd) (b : Binds K fd ["sheet", "conditions"] []) (c_freed_hands : Cal P w K mg base 3 "freed_hands" (Prom K F_freed_hands) []) : Cal P w K mg base 4 "sheet_without" (Prom K F_sheet_without) [] := by
  have S := sc_sheet_without
  refine cal_of D b S rfl fun cdv A outer s H E hr => ?_
  obtain ⟨u0, u1, u64, u65⟩ := units_of hr
  exact (ds_cons (ds_set (i := 2) S.nd rfl (Or.inr rfl) rfl (de_fz (de_dcT (own := [(".0", 9), ("condition", 10)]) u1 rfl S.nd (di_seq (de_move 1 (pe_var (i := 1) rfl (Or.inl rfl)))) (blkOk_by (own := [(".0", 9), ("condition", 10)]) (N := N_sheet_without) (sc := (fnScope (top 6))) (by decide +kernel)) (fun _ _ _ _ _ => (dg_name (i := 10) S.nd rfl (Or.inl rfl) rfl)) (fun _ _ _ _ _ => pts_yes) (fun _ _ _ _ _ => (de_move 10 (pe_var (i := 10) rfl (Or.inl rfl)))) (fun _ _ _ _ _ => (de_pure db_bl)))))
  (ds_cons (ds_set (i := 3) S.nd rfl (Or.inl rfl) rfl (de_lst da_nil))
  (ds_cons (ds_for PassesOwn.never rfl (di_seq (de_fz (de_pure (db_own (db_ix u1 (db_var 0 (pe_var (i := 0) rfl (Or.inl rfl))) (db_any db_int) fun _ _ => rfl))))) (dg_tup rfl (dgs_cons (dg_name (i := 4) S.nd rfl (Or.inl rfl) rfl) (dgs_cons (dg_name (i := 5) S.nd rfl (Or.inl rfl) rfl) (dgs_cons (dg_name (i := 6) S.nd rfl (Or.inl rfl) rfl) dgs_nil)))) (ds_cons (ds_set (i := 7) S.nd rfl (Or.inl rfl) rfl (de_fz (de_if (dt_pure (dtp_cmp (o_in u65) (db_any (db_tup (dap_cons (db_any db_str) (dap_cons (db_var 4 (pe_var (i := 4) rfl (Or.inl rfl))) dap_nil)))) (db_var 2 (pe_var (i := 2) rfl (Or.inr (Or.inl rfl)))) rfl)) (de_pure db_int) (de_move 5 (pe_var (i := 5) rfl (Or.inl rfl))))))
  (ds_one (ds_expr (de_meth F.plainAttrs_list F.slot_list_append F.type_list_append m_append (pe_var (i := 3) rfl (Or.inl rfl)) (da_cons (de_tup (da_cons (de_move 4 (pe_var (i := 4) rfl (Or.inl rfl))) (da_cons (de_move 7 (pe_var (i := 7) rfl (Or.inl rfl))) (da_cons (de_if (dt_pure (dtp_cmp (o_in u65) (db_any (db_tup (dap_cons (db_any db_str) (dap_cons (db_var 4 (pe_var (i := 4) rfl (Or.inl rfl))) dap_nil)))) (db_var 2 (pe_var (i := 2) rfl (Or.inr (Or.inl rfl)))) rfl)) (de_pure (db_gint rfl T.g_HOURS_MOST)) (de_move 6 (pe_var (i := 6) rfl (Or.inl rfl)))) da_nil)))) da_nil))))))
  (ds_cons (ds_set (i := 8) S.nd rfl (Or.inl rfl) rfl (de_callTy (c_tuple) rfl T.n_tuple rfl (da_cons (de_comp (own := [(".0", 9), ("tie", 11)]) rfl S.nd (di_seq (de_fz (de_pure (db_own (db_ix u1 (db_var 0 (pe_var (i := 0) rfl (Or.inl rfl))) (db_any db_int) fun _ _ => rfl))))) (blkOk_by (own := [(".0", 9), ("tie", 11)]) (N := N_sheet_without) (sc := (fnScope (top 6))) (by decide +kernel)) (fun _ _ _ _ _ => (dg_name (i := 11) S.nd rfl (Or.inl rfl) rfl)) (fun _ _ _ _ _ => (DT.pts (dt_pure (dtp_cmp (o_notin u65) (db_any (db_tup (dap_cons (db_any db_str) (dap_cons (db_ix u1 (db_var 11 (pe_var (i := 11) rfl (Or.inl rfl))) (db_any db_int) fun _ _ => rfl) (dap_cons (db_ix u1 (db_var 11 (pe_var (i := 11) rfl (Or.inl rfl))) (db_any db_int) fun _ _ => rfl) dap_nil))))) (db_var 2 (pe_var (i := 2) rfl (Or.inr (Or.inl rfl)))) rfl)))) (fun _ _ _ _ _ => (de_move 11 (pe_var (i := 11) rfl (Or.inl rfl))))) da_nil)))
  (ds_one (ds_ret (de_tup (da_cons (de_call c_freed_hands hr (by decide) rfl (dc_val (de_pure (db_own (db_ix u1 (db_var 0 (pe_var (i := 0) rfl (Or.inl rfl))) (db_any db_int) fun _ _ => rfl))) (dc_bor (pe_var (i := 2) rfl (Or.inr (Or.inl rfl))) dc_nil))) (da_cons (de_pure (db_callTy (c_tuple) rfl T.n_tuple rfl (dap_cons (db_var 3 (pe_var (i := 3) rfl (Or.inl rfl))) dap_nil))) (da_cons (de_move 8 (pe_var (i := 8) rfl (Or.inl rfl))) da_nil))))))))))
abbrev N__law_names : List Str := ["pool", "many", "signs", "kind", "names", "at", "first", "body", "name", ".0", "turn"]
noncomputable def B__law_names : SSm := (sSeq (sAsg (eP (pC (.str "abcdefghijklmnopqrstuvwxyz0123456789"))) (gNm 2))
  (sSeq (sAsg (eFz (eDef F__law_draw (cBor 0 (cVal (eP (pC (.int 3))) cNil)))) (gNm 3))
  (sSeq (sAsg (eLst aNilE) (gNm 4))
  (sSeq (sFor (iRange1 (aConsE (eMove 1) aNilE)) (gNm 5) (sSeq (sAsg (eFz (eP (pOwn (p2 dIx (pVar 2) (p2 dMod (p2 dAdd (p2 dMu (pVar 5) (pC (.int 7))) (p2 dMu (pVar 3) (pC (.int 5)))) (pC (.int 26))))))) (gNm 6))
  (sSeq (sAsg (eFz (eSMet (pC (.str "")) mJoin (aConsE (eComp [9, 10] (iRange1 (aConsE (e2 dIxI (eLst (aConsE (eP (pC (.int 0))) (aConsE (eP (pC (.int 0))) (aConsE (eP (pC (.int 1))) (aConsE (eP (pC (.int 2))) (aConsE (eP (pC (.int 5))) aNilE)))))) (eDef F__law_draw (cBor 0 (cVal (eP (pC (.int 5))) cNil)))) aNilE)) (gNm 10) yesT (eDef F__law_pick (cBor 0 (cBor 2 cNil)))) aNilE))) (gNm 7))
  (sSeq (sAsg (eFz (eIf (tP (p2t dEq (pVar 3) (pC (.int 0)))) (eP (p2 dAdd (p2 dAdd (pVar 6) (p2 dIx (pVar 2) (p2 dMod (pVar 5) (pC (.int 36))))) (pVar 7))) (e2 dAdd (e2 dAdd (eP (p2 dAdd (pVar 6) (pVar 7))) (e2 dIxI (eLst (aConsE (eP (pC (.str ""))) (aConsE (eP (pC (.str "0"))) aNilE))) (eP (p2 dDiv (pVar 5) (pC (.int 26)))))) (eP (pOwn (p2 dIx (pVar 2) (p2 dMod (pVar 5) (pC (.int 36))))))))) (gNm 8))
  (sExpr (eMeth 4 "list" mAppend (aConsE (eIf (tAnd2 (tP (p2t dEq (pVar 3) (pC (.int 2)))) (tAnd2 (tP (p2t dLtX (pVar 5) (pC (.int 26)))) (e2t dEq (eDef F__law_draw (cBor 0 (cVal (eP (pC (.int 2))) cNil))) (eP (pC (.int 0)))))) (eMove 6) (eMove 8)) aNilE)))))))
  (sRet (eP (pCall gSorted (aCons (pVar 4) aNil))))))))
noncomputable def F__law_names : FSm := fnF (pinP [0, 1]) 2 9 B__law_names
theorem sc__law_names : FnScope N__law_names ["pool", "many"] (fnScope (top 11)) := fnScope_by (by decide +kernel)
theorem ok__law_names {f : Addr} {fd : FuncData} (T : Glo mg) (D : Def K mg "_law_names" (top 11) f fd) (b : Binds K fd ["pool", "many"] []) (c__law_draw : Cal P w K mg base 2 "_law_draw" (Prom K F__law_draw) []) (c__law_pick : Cal P w K mg base 3 "_law_pick" (Prom K F__law_pick) []) : Cal P w K mg base 4 "_law_names" (Prom K F__law_names) [] := by
  have S := sc__law_names
  refine cal_of D b S rfl fun cdv A outer s H E hr => ?_
  obtain ⟨u0, u1, u64, u65⟩ := units_of hr
  exact (ds_cons (ds_set (i := 2) S.nd rfl (Or.inr rfl) rfl (de_pure db_str))
  (ds_cons (ds_set (i := 3) S.nd rfl (Or.inl rfl) rfl (de_fz (de_call c__law_draw hr (by decide) rfl (dc_bor (pe_var (i := 0) rfl (Or.inr (Or.inl rfl))) (dc_val (de_pure db_int) dc_nil)))))
  (ds_cons (ds_set (i := 4) S.nd rfl (Or.inl rfl) rfl (de_lst da_nil))
  (ds_cons (ds_for PassesOwn.never rfl (di_range1 rfl T.n_range (da_cons (de_move 1 (pe_var (i := 1) rfl (Or.inl rfl))) da_nil)) (dg_name (i := 5) S.nd rfl (Or.inl rfl) rfl) (ds_cons (ds_set (i := 6) S.nd rfl (Or.inl rfl) rfl (de_fz (de_pure (db_own (db_ix u1 (db_var 2 (pe_var (i := 2) rfl (Or.inr (Or.inl rfl)))) (db_any (db_op o_mod (db_any (db_op o_add (db_any (db_op o_mul (db_var 5 (pe_var (i := 5) rfl (Or.inl rfl))) (db_any db_int))) (db_any (db_op o_mul (db_var 3 (pe_var (i := 3) rfl (Or.inl rfl))) (db_any db_int))))) (db_any db_int))) fun _ _ => rfl)))))
  (ds_cons (ds_set (i := 7) S.nd rfl (Or.inl rfl) rfl (de_fz (de_smet F.slot_str_join F.type_str_join m_join (db_any db_str) (da_cons (de_comp (own := [(".0", 9), ("turn", 10)]) rfl S.nd (di_range1 rfl T.n_range (da_cons (de_ix u1 (de_lst (da_cons (de_pure db_int) (da_cons (de_pure db_int) (da_cons (de_pure db_int) (da_cons (de_pure db_int) (da_cons (de_pure db_int) da_nil)))))) (de_call c__law_draw hr (by decide) rfl (dc_bor (pe_var (i := 0) rfl (Or.inr (Or.inl rfl))) (dc_val (de_pure db_int) dc_nil))) fun _ _ => rfl) da_nil)) (blkOk_by (own := [(".0", 9), ("turn", 10)]) (N := N__law_names) (sc := (fnScope (top 11))) (by decide +kernel)) (fun _ _ _ _ _ => (dg_name (i := 10) S.nd rfl (Or.inl rfl) rfl)) (fun _ _ _ _ _ => pts_yes) (fun _ _ _ _ _ => (de_call c__law_pick hr (by decide) rfl (dc_bor (pe_var (i := 0) rfl (Or.inr (Or.inl rfl))) (dc_bor (pe_var (i := 2) rfl (Or.inr (Or.inl rfl))) dc_nil))))) da_nil))))
  (ds_cons (ds_set (i := 8) S.nd rfl (Or.inl rfl) rfl (de_fz (de_if (dt_pure (dtp_cmp (o_eq u64) (db_var 3 (pe_var (i := 3) rfl (Or.inl rfl))) (db_any db_int) rfl)) (de_pure (db_op o_add (db_any (db_op o_add (db_var 6 (pe_var (i := 6) rfl (Or.inl rfl))) (db_ix u1 (db_var 2 (pe_var (i := 2) rfl (Or.inr (Or.inl rfl)))) (db_any (db_op o_mod (db_var 5 (pe_var (i := 5) rfl (Or.inl rfl))) (db_any db_int))) fun _ _ => rfl))) (db_var 7 (pe_var (i := 7) rfl (Or.inl rfl))))) (de_op o_add (de_op o_add (de_pure (db_op o_add (db_var 6 (pe_var (i := 6) rfl (Or.inl rfl))) (db_var 7 (pe_var (i := 7) rfl (Or.inl rfl))))) (de_ix u1 (de_lst (da_cons (de_pure db_str) (da_cons (de_pure db_str) da_nil))) (de_pure (db_op o_div (db_var 5 (pe_var (i := 5) rfl (Or.inl rfl))) (db_any db_int))) fun _ _ => rfl)) (de_pure (db_own (db_ix u1 (db_var 2 (pe_var (i := 2) rfl (Or.inr (Or.inl rfl)))) (db_any (db_op o_mod (db_var 5 (pe_var (i := 5) rfl (Or.inl rfl))) (db_any db_int))) fun _ _ => rfl)))))))
  (ds_one (ds_expr (de_meth F.plainAttrs_list F.slot_list_append F.type_list_append m_append (pe_var (i := 4) rfl (Or.inl rfl)) (da_cons (de_if (dt_w (dw_and (dt_pure (dtp_cmp (o_eq u64) (db_var 3 (pe_var (i := 3) rfl (Or.inl rfl))) (db_any db_int) rfl)) (dw_and (dt_pure (dtp_cmp (o_ltX u0) (db_var 5 (pe_var (i := 5) rfl (Or.inl rfl))) (db_any db_int) rfl)) (dw_and1 (dt_cmp (o_eq u64) (de_call c__law_draw hr (by decide) rfl (dc_bor (pe_var (i := 0) rfl (Or.inr (Or.inl rfl))) (dc_val (de_pure db_int) dc_nil))) (de_pure db_int) rfl))))) (de_move 6 (pe_var (i := 6) rfl (Or.inl rfl))) (de_move 8 (pe_var (i := 8) rfl (Or.inl rfl)))) da_nil))))))))
  (ds_one (ds_ret (de_pure (db_callB (c_sorted u65) rfl T.n_sorted rfl (dap_cons (db_var 4 (pe_var (i := 4) rfl (Or.inl rfl))) dap_nil)))))))))
abbrev N__law_sheet : List Str := ["pool", "many", "long", "most", "names", "hours", "works", "at", "begin", "end", "ties", "one", "other", "row", ".0", "name", "hour"]
noncomputable def B__law_sheet : SSm := (sSeq (sAsg (eFz (eDef F__law_names (cBor 0 (cBor 1 cNil)))) (gNm 4))
  (sSeq (sAsg (eComp [14, 15] (iSeq (eMove 4)) (gNm 15) yesT (eDef F__law_draw (cBor 0 (cVal (eP (p2 dAdd (pC (.int 1)) (pVar 3))) cNil)))) (gNm 5))
  (sSeq (sFz 5 (sAsg (eLst aNilE) (gNm 6)))
  (sSeq (sFor (iRange1 (aConsE (eMove 1) aNilE)) (gNm 7) (sSeq (sAsg (eFz (e2 dIxI (eLst (aConsE (eP (pC (.int 0))) (aConsE (eP (pOwn (p2 dIx (pVar 5) (pVar 7)))) (aConsE (eCall gMax (aConsE (eP (pC (.int 0))) (aConsE (e2 dSub (eP (p2 dSub (p2 dIx (pVar 5) (pVar 7)) (pC (.int 1)))) (eDef F__law_draw (cBor 0 (cVal (eP (pC (.int 3))) cNil)))) aNilE))) aNilE)))) (eDef F__law_draw (cBor 0 (cVal (eP (pC (.int 3))) cNil))))) (gNm 8))
  (sSeq (sAsg (eFz (e2 dIxI (eLst (aConsE (eP (pC (.int 1000))) (aConsE (eP (p2 dAdd (p2 dIx (pVar 5) (pVar 7)) (pC (.int 1)))) (aConsE (eCall gMin (aConsE (eP (pC (.int 1000))) (aConsE (e2 dAdd (eP (p2 dAdd (p2 dIx (pVar 5) (pVar 7)) (pC (.int 1)))) (eDef F__law_draw (cBor 0 (cVal (eP (pC (.int 4))) cNil)))) aNilE))) aNilE)))) (eDef F__law_draw (cBor 0 (cVal (eP (pC (.int 3))) cNil))))) (gNm 9))
  (sExpr (eMeth 6 "list" mAppend (aConsE (eP (pTup (aCons (p2 dIx (pVar 4) (pVar 7)) (aCons (pVar 8) (aCons (pVar 9) aNil))))) aNilE))))))
  (sSeq (sAsg (eLst aNilE) (gNm 10))
  (sSeq (sFor (iRange1 (aConsE (eMove 1) aNilE)) (gNm 11) (sFor (iRange1 (aConsE (eMove 1) aNilE)) (gNm 12) (sIf (tAnd2 (tP (p2t dLtX (pTup (aCons (p2 dIx (pVar 5) (pVar 11)) (aCons (pVar 11) aNil))) (pTup (aCons (p2 dIx (pVar 5) (pVar 12)) (aCons (pVar 12) aNil))))) (tAnd2 (tP (p2t dLtX (pCall gLen (aCons (pVar 10) aNil)) (pC (.int 200)))) (e2t dEq (eDef F__law_draw (cBor 0 (cVal (eP (pC (.int 3))) cNil))) (eP (pC (.int 0)))))) (sExpr (eMeth 10 "list" mAppend (aConsE (eTup (aConsE (eP (pOwn (p2 dIx (pVar 4) (pVar 11)))) (aConsE (eP (pOwn (p2 dIx (pVar 4) (pVar 12)))) (aConsE (eDef F__law_draw (cBor 0 (cVal (eP (pC (.int 2))) cNil))) aNilE)))) aNilE))) sNil)))
  (sSeq (sAsg (eComp [14, 16] (iRange1 (aConsE (eMove 2) aNilE)) (gNm 16) yesT (eDef F__law_draw (cBor 0 (cVal (eP (pC (.int 3))) cNil)))) (gNm 13))
  (sFz 13 (sRet (eTup (aConsE (eDef F__law_plain (cBor 13 (cVal (eDef F__law_draw (cBor 0 (cVal (eP (pC (.int 3))) cNil))) cNil))) (aConsE (eP (pCall gTuple (aCons (pVar 6) aNil))) (aConsE (eP (pCall gTuple (aCons (pCall gSorted (aCons (pVar 10) aNil)) aNil))) aNilE)))))))))))))
noncomputable def F__law_sheet : FSm := fnF (pinP [0, 1, 2, 3]) 4 13 B__law_sheet
theorem sc__law_sheet : FnScope N__law_sheet ["pool", "many", "long", "most"] (fnScope (top 14)) := fnScope_by (by decide +kernel)
theorem ok__law_sheet {f : Addr} {fd : FuncData} (T : Glo mg) (D : Def K mg "_law_sheet" (top 14) f fd) (b : Binds K fd ["pool", "many", "long", "most"] []) (c__law_draw : Cal P w K mg base 2 "_law_draw" (Prom K F__law_draw) []) (c__law_names : Cal P w K mg base 4 "_law_names" (Prom K F__law_names) []) (c__law_plain : Cal P w K mg base 2 "_law_plain" (Prom K F__law_plain) []) : Cal P w K mg base 5 "_law_sheet" (Prom K F__law_sheet) [] := by
  have S := sc__law_sheet
  refine cal_of D b S rfl fun cdv A outer s H E hr => ?_
  obtain ⟨u0, u1, u64, u65⟩ := units_of hr
  exact (ds_cons (ds_set (i := 4) S.nd rfl (Or.inl rfl) rfl (de_fz (de_call c__law_names hr (by decide) rfl (dc_bor (pe_var (i := 0) rfl (Or.inr (Or.inl rfl))) (dc_bor (pe_var (i := 1) rfl (Or.inl rfl)) dc_nil)))))
  (ds_cons (ds_setComp (i := 5) (own := [(".0", 14), ("name", 15)]) rfl S.nd rfl rfl rfl (sw_true rfl rfl rfl (by decide +kernel)) (di_seq (de_move 4 (pe_var (i := 4) rfl (Or.inl rfl)))) (blkOk_by (own := [(".0", 14), ("name", 15)]) (N := N__law_sheet) (sc := (fnScope (top 14))) (by decide +kernel)) (fun _ _ _ _ _ => (dg_name (i := 15) S.nd rfl (Or.inl rfl) rfl)) (fun _ _ _ _ _ => pts_yes) (fun _ _ _ _ _ => (de_call c__law_draw hr (by decide) rfl (dc_bor (pe_var (i := 0) rfl (Or.inr (Or.inl rfl))) (dc_val (de_pure (db_op o_add (db_any db_int) (db_var 3 (pe_var (i := 3) rfl (Or.inr (Or.inl rfl)))))) dc_nil)))))
  (ds_cons (ds_fz 5 (ds_set (i := 6) S.nd rfl (Or.inl rfl) rfl (de_lst da_nil)))
  (ds_cons (ds_for PassesOwn.never rfl (di_range1 rfl T.n_range (da_cons (de_move 1 (pe_var (i := 1) rfl (Or.inl rfl))) da_nil)) (dg_name (i := 7) S.nd rfl (Or.inl rfl) rfl) (ds_cons (ds_set (i := 8) S.nd rfl (Or.inl rfl) rfl (de_fz (de_ix u1 (de_lst (da_cons (de_pure db_int) (da_cons (de_pure (db_own (db_ix u1 (db_var 5 (pe_var (i := 5) rfl (Or.inl rfl))) (db_var 7 (pe_var (i := 7) rfl (Or.inl rfl))) fun _ _ => rfl))) (da_cons (de_callB (c_max rfl) rfl T.n_max rfl (da_cons (de_pure db_int) (da_cons (de_op o_sub (de_pure (db_op o_sub (db_ix u1 (db_var 5 (pe_var (i := 5) rfl (Or.inl rfl))) (db_var 7 (pe_var (i := 7) rfl (Or.inl rfl))) fun _ _ => rfl) (db_any db_int))) (de_call c__law_draw hr (by decide) rfl (dc_bor (pe_var (i := 0) rfl (Or.inr (Or.inl rfl))) (dc_val (de_pure db_int) dc_nil)))) da_nil))) da_nil)))) (de_call c__law_draw hr (by decide) rfl (dc_bor (pe_var (i := 0) rfl (Or.inr (Or.inl rfl))) (dc_val (de_pure db_int) dc_nil))) fun _ _ => rfl)))
  (ds_cons (ds_set (i := 9) S.nd rfl (Or.inl rfl) rfl (de_fz (de_ix u1 (de_lst (da_cons (de_pure db_int) (da_cons (de_pure (db_op o_add (db_ix u1 (db_var 5 (pe_var (i := 5) rfl (Or.inl rfl))) (db_var 7 (pe_var (i := 7) rfl (Or.inl rfl))) fun _ _ => rfl) (db_any db_int))) (da_cons (de_callB (c_min rfl) rfl T.n_min rfl (da_cons (de_pure db_int) (da_cons (de_op o_add (de_pure (db_op o_add (db_ix u1 (db_var 5 (pe_var (i := 5) rfl (Or.inl rfl))) (db_var 7 (pe_var (i := 7) rfl (Or.inl rfl))) fun _ _ => rfl) (db_any db_int))) (de_call c__law_draw hr (by decide) rfl (dc_bor (pe_var (i := 0) rfl (Or.inr (Or.inl rfl))) (dc_val (de_pure db_int) dc_nil)))) da_nil))) da_nil)))) (de_call c__law_draw hr (by decide) rfl (dc_bor (pe_var (i := 0) rfl (Or.inr (Or.inl rfl))) (dc_val (de_pure db_int) dc_nil))) fun _ _ => rfl)))
  (ds_one (ds_expr (de_meth F.plainAttrs_list F.slot_list_append F.type_list_append m_append (pe_var (i := 6) rfl (Or.inl rfl)) (da_cons (de_pure (db_tup (dap_cons (db_ix u1 (db_var 4 (pe_var (i := 4) rfl (Or.inl rfl))) (db_var 7 (pe_var (i := 7) rfl (Or.inl rfl))) fun _ _ => rfl) (dap_cons (db_var 8 (pe_var (i := 8) rfl (Or.inl rfl))) (dap_cons (db_var 9 (pe_var (i := 9) rfl (Or.inl rfl))) dap_nil))))) da_nil)))))))
  (ds_cons (ds_set (i := 10) S.nd rfl (Or.inl rfl) rfl (de_lst da_nil))
  (ds_cons (ds_for PassesOwn.never rfl (di_range1 rfl T.n_range (da_cons (de_move 1 (pe_var (i := 1) rfl (Or.inl rfl))) da_nil)) (dg_name (i := 11) S.nd rfl (Or.inl rfl) rfl) (ds_one (ds_for PassesOwn.never rfl (di_range1 rfl T.n_range (da_cons (de_move 1 (pe_var (i := 1) rfl (Or.inl rfl))) da_nil)) (dg_name (i := 12) S.nd rfl (Or.inl rfl) rfl) (ds_one (ds_if (dt_w (dw_and (dt_pure (dtp_cmp (o_ltX u0) (db_any (db_tup (dap_cons (db_ix u1 (db_var 5 (pe_var (i := 5) rfl (Or.inl rfl))) (db_var 11 (pe_var (i := 11) rfl (Or.inl rfl))) fun _ _ => rfl) (dap_cons (db_var 11 (pe_var (i := 11) rfl (Or.inl rfl))) dap_nil)))) (db_any (db_tup (dap_cons (db_ix u1 (db_var 5 (pe_var (i := 5) rfl (Or.inl rfl))) (db_var 12 (pe_var (i := 12) rfl (Or.inl rfl))) fun _ _ => rfl) (dap_cons (db_var 12 (pe_var (i := 12) rfl (Or.inl rfl))) dap_nil)))) rfl)) (dw_and (dt_pure (dtp_cmp (o_ltX u0) (db_any (db_callB (c_len) rfl T.n_len rfl (dap_cons (db_var 10 (pe_var (i := 10) rfl (Or.inl rfl))) dap_nil))) (db_any db_int) rfl)) (dw_and1 (dt_cmp (o_eq u64) (de_call c__law_draw hr (by decide) rfl (dc_bor (pe_var (i := 0) rfl (Or.inr (Or.inl rfl))) (dc_val (de_pure db_int) dc_nil))) (de_pure db_int) rfl))))) (ds_one (ds_expr (de_meth F.plainAttrs_list F.slot_list_append F.type_list_append m_append (pe_var (i := 10) rfl (Or.inl rfl)) (da_cons (de_tup (da_cons (de_pure (db_own (db_ix u1 (db_var 4 (pe_var (i := 4) rfl (Or.inl rfl))) (db_var 11 (pe_var (i := 11) rfl (Or.inl rfl))) fun _ _ => rfl))) (da_cons (de_pure (db_own (db_ix u1 (db_var 4 (pe_var (i := 4) rfl (Or.inl rfl))) (db_var 12 (pe_var (i := 12) rfl (Or.inl rfl))) fun _ _ => rfl))) (da_cons (de_call c__law_draw hr (by decide) rfl (dc_bor (pe_var (i := 0) rfl (Or.inr (Or.inl rfl))) (dc_val (de_pure db_int) dc_nil))) da_nil)))) da_nil)))) ds_nil)))))
  (ds_cons (ds_setComp (i := 13) (own := [(".0", 14), ("hour", 16)]) rfl S.nd rfl rfl rfl (sw_true rfl rfl rfl (by decide +kernel)) (di_range1 rfl T.n_range (da_cons (de_move 2 (pe_var (i := 2) rfl (Or.inl rfl))) da_nil)) (blkOk_by (own := [(".0", 14), ("hour", 16)]) (N := N__law_sheet) (sc := (fnScope (top 14))) (by decide +kernel)) (fun _ _ _ _ _ => (dg_name (i := 16) S.nd rfl (Or.inl rfl) rfl)) (fun _ _ _ _ _ => pts_yes) (fun _ _ _ _ _ => (de_call c__law_draw hr (by decide) rfl (dc_bor (pe_var (i := 0) rfl (Or.inr (Or.inl rfl))) (dc_val (de_pure db_int) dc_nil)))))
  (ds_one (ds_fz 13 (ds_ret (de_tup (da_cons (de_call c__law_plain hr (by decide) rfl (dc_bor (pe_var (i := 13) rfl (Or.inl rfl)) (dc_val (de_call c__law_draw hr (by decide) rfl (dc_bor (pe_var (i := 0) rfl (Or.inr (Or.inl rfl))) (dc_val (de_pure db_int) dc_nil))) dc_nil))) (da_cons (de_pure (db_callTy (c_tuple) rfl T.n_tuple rfl (dap_cons (db_var 6 (pe_var (i := 6) rfl (Or.inl rfl))) dap_nil))) (da_cons (de_pure (db_callTy (c_tuple) rfl T.n_tuple rfl (dap_cons (db_any (db_callB (c_sorted u65) rfl T.n_sorted rfl (dap_cons (db_var 10 (pe_var (i := 10) rfl (Or.inl rfl))) dap_nil))) dap_nil))) da_nil))))))))))))))
abbrev N__law_asked : List Str := ["pool", "sheet", "each", "due", "told", "parts", "part", ".0", "condition"]
noncomputable def B__law_asked : SSm := (sSeq (sAsg (eFz (eDef F__law_conditions (cBor 1 cNil))) (gNm 3))
  (sSeq (sAsg (eFz (eDef F_conditions_of (cBor 1 cNil))) (gNm 4))
  (sSeq (sIf (tNo (tTru (eDef F__law_same (cBor 4 (cBor 3 cNil))))) (sRet (eP (pC (.bl false)))) sNil)
  (sSeq (sAsg (eLst (aConsE (eP (pTup aNil)) (aConsE (eMove 3) (aConsE (eCall gTuple (aConsE (eComp [7, 8] (iSeq (eMove 3)) (gNm 8) (e2t dEq (eDef F__law_draw (cBor 0 (cVal (eP (pC (.int 2))) cNil))) (eP (pC (.int 0)))) (eMove 8)) aNilE)) aNilE)))) (gNm 5))
  (sSeq (sExpr (eMeth 5 "list" mAppend (aConsE (eCall gTuple (aConsE (eComp [7, 8] (iSeq (eMove 3)) (gNm 8) (tAnd2 (tP (p2t dEq (p2 dIx (pVar 8) (pC (.int 0))) (pC (.str "hand")))) (tP (p2t dEq (p2 dIx (pVar 8) (pC (.int 2))) (pC (.int 1))))) (eMove 8)) aNilE)) aNilE)))
  (sSeq (sExpr (eMeth 5 "list" mAppend (aConsE (eCall gTuple (aConsE (eComp [7, 8] (iSeq (eMove 3)) (gNm 8) (tAnd2 (tP (p2t dNe (p2 dIx (pVar 8) (pC (.int 0))) (pC (.str "tie")))) (e2t dGt (eDef F__law_draw (cBor 0 (cVal (eP (pC (.int 3))) cNil))) (eP (pC (.int 0))))) (eMove 8)) aNilE)) aNilE)))
  (sSeq (sIf (tP (tTruP (pVar 2))) (sAsg (e2 dAdd (eMove 5) (eComp [7, 8] (iSeq (eMove 3)) (gNm 8) yesT (eP (pTup (aCons (pVar 8) aNil))))) (gNm 5)) sNil)
  (sSeq (sFz 5 (sFor (iSeq (eMove 5)) (gNm 6) (sIf (tNo (tTru (eDef F__law_same (cVal (eDef F_sheet_without (cBor 1 (cBor 6 cNil))) (cVal (eDef F__law_without (cBor 1 (cBor 6 cNil))) cNil))))) (sRet (eP (pC (.bl false)))) sNil)))
  (sRet (eDef F__law_same (cVal (eDef F_conditions_of (cVal (eDef F__law_without (cBor 1 (cBor 3 cNil))) cNil)) (cVal (eP (pTup aNil)) cNil))))))))))))
noncomputable def F__law_asked : FSm := fnF (pinP [0, 1, 2]) 3 6 B__law_asked
theorem sc__law_asked : FnScope N__law_asked ["pool", "sheet", "each"] (fnScope (top 17)) := fnScope_by (by decide +kernel)
theorem ok__law_asked {f : Addr} {fd : FuncData} (T : Glo mg) (D : Def K mg "_law_asked" (top 17) f fd) (b : Binds K fd ["pool", "sheet", "each"] []) (c_conditions_of : Cal P w K mg base 2 "conditions_of" (Prom K F_conditions_of) []) (c_sheet_without : Cal P w K mg base 4 "sheet_without" (Prom K F_sheet_without) []) (c__law_draw : Cal P w K mg base 2 "_law_draw" (Prom K F__law_draw) []) (c__law_same : Cal P w K mg base 2 "_law_same" (Prom K F__law_same) []) (c__law_conditions : Cal P w K mg base 2 "_law_conditions" (Prom K F__law_conditions) []) (c__law_without : Cal P w K mg base 3 "_law_without" (Prom K F__law_without) []) : Cal P w K mg base 5 "_law_asked" (Prom K F__law_asked) [] := by
  have S := sc__law_asked
  refine cal_of D b S rfl fun cdv A outer s H E hr => ?_
  obtain ⟨u0, u1, u64, u65⟩ := units_of hr
  exact (ds_cons (ds_set (i := 3) S.nd rfl (Or.inl rfl) rfl (de_fz (de_call c__law_conditions hr (by decide) rfl (dc_bor (pe_var (i := 1) rfl (Or.inl rfl)) dc_nil))))
  (ds_cons (ds_set (i := 4) S.nd rfl (Or.inl rfl) rfl (de_fz (de_call c_conditions_of hr (by decide) rfl (dc_bor (pe_var (i := 1) rfl (Or.inl rfl)) dc_nil))))
  (ds_cons (ds_if (dt_not (dt_tru (de_call c__law_same hr (by decide) rfl (dc_bor (pe_var (i := 4) rfl (Or.inl rfl)) (dc_bor (pe_var (i := 3) rfl (Or.inl rfl)) dc_nil))))) (ds_one (ds_ret (de_pure db_bl))) ds_nil)
  (ds_cons (ds_set (i := 5) S.nd rfl (Or.inl rfl) rfl (de_lst (da_cons (de_pure (db_tup dap_nil)) (da_cons (de_move 3 (pe_var (i := 3) rfl (Or.inl rfl))) (da_cons (de_callTy (c_tuple) rfl T.n_tuple rfl (da_cons (de_comp (own := [(".0", 7), ("condition", 8)]) rfl S.nd (di_seq (de_move 3 (pe_var (i := 3) rfl (Or.inl rfl)))) (blkOk_by (own := [(".0", 7), ("condition", 8)]) (N := N__law_asked) (sc := (fnScope (top 17))) (by decide +kernel)) (fun _ _ _ _ _ => (dg_name (i := 8) S.nd rfl (Or.inl rfl) rfl)) (fun _ _ _ _ _ => (DT.pts (dt_cmp (o_eq u64) (de_call c__law_draw hr (by decide) rfl (dc_bor (pe_var (i := 0) rfl (Or.inr (Or.inl rfl))) (dc_val (de_pure db_int) dc_nil))) (de_pure db_int) rfl))) (fun _ _ _ _ _ => (de_move 8 (pe_var (i := 8) rfl (Or.inl rfl))))) da_nil)) da_nil)))))
  (ds_cons (ds_expr (de_meth F.plainAttrs_list F.slot_list_append F.type_list_append m_append (pe_var (i := 5) rfl (Or.inl rfl)) (da_cons (de_callTy (c_tuple) rfl T.n_tuple rfl (da_cons (de_comp (own := [(".0", 7), ("condition", 8)]) rfl S.nd (di_seq (de_move 3 (pe_var (i := 3) rfl (Or.inl rfl)))) (blkOk_by (own := [(".0", 7), ("condition", 8)]) (N := N__law_asked) (sc := (fnScope (top 17))) (by decide +kernel)) (fun _ _ _ _ _ => (dg_name (i := 8) S.nd rfl (Or.inl rfl) rfl)) (fun _ _ _ _ _ => (DT.pts (dt_w (dw_and (dt_pure (dtp_cmp (o_eq u64) (db_ix u1 (db_var 8 (pe_var (i := 8) rfl (Or.inl rfl))) (db_any db_int) fun _ _ => rfl) (db_any db_str) rfl)) (dw_and1 (dt_pure (dtp_cmp (o_eq u64) (db_ix u1 (db_var 8 (pe_var (i := 8) rfl (Or.inl rfl))) (db_any db_int) fun _ _ => rfl) (db_any db_int) rfl))))))) (fun _ _ _ _ _ => (de_move 8 (pe_var (i := 8) rfl (Or.inl rfl))))) da_nil)) da_nil)))
  (ds_cons (ds_expr (de_meth F.plainAttrs_list F.slot_list_append F.type_list_append m_append (pe_var (i := 5) rfl (Or.inl rfl)) (da_cons (de_callTy (c_tuple) rfl T.n_tuple rfl (da_cons (de_comp (own := [(".0", 7), ("condition", 8)]) rfl S.nd (di_seq (de_move 3 (pe_var (i := 3) rfl (Or.inl rfl)))) (blkOk_by (own := [(".0", 7), ("condition", 8)]) (N := N__law_asked) (sc := (fnScope (top 17))) (by decide +kernel)) (fun _ _ _ _ _ => (dg_name (i := 8) S.nd rfl (Or.inl rfl) rfl)) (fun _ _ _ _ _ => (DT.pts (dt_w (dw_and (dt_pure (dtp_cmp (o_ne u64) (db_ix u1 (db_var 8 (pe_var (i := 8) rfl (Or.inl rfl))) (db_any db_int) fun _ _ => rfl) (db_any db_str) rfl)) (dw_and1 (dt_cmp o_gt (de_call c__law_draw hr (by decide) rfl (dc_bor (pe_var (i := 0) rfl (Or.inr (Or.inl rfl))) (dc_val (de_pure db_int) dc_nil))) (de_pure db_int) rfl)))))) (fun _ _ _ _ _ => (de_move 8 (pe_var (i := 8) rfl (Or.inl rfl))))) da_nil)) da_nil)))
  (ds_cons (ds_if (dt_pure (dtp_tru (db_var 2 (pe_var (i := 2) rfl (Or.inl rfl))))) (ds_one (ds_set (i := 5) S.nd rfl (Or.inl rfl) rfl (de_op o_add (de_move 5 (pe_var (i := 5) rfl (Or.inl rfl))) (de_comp (own := [(".0", 7), ("condition", 8)]) rfl S.nd (di_seq (de_move 3 (pe_var (i := 3) rfl (Or.inl rfl)))) (blkOk_by (own := [(".0", 7), ("condition", 8)]) (N := N__law_asked) (sc := (fnScope (top 17))) (by decide +kernel)) (fun _ _ _ _ _ => (dg_name (i := 8) S.nd rfl (Or.inl rfl) rfl)) (fun _ _ _ _ _ => pts_yes) (fun _ _ _ _ _ => (de_pure (db_tup (dap_cons (db_var 8 (pe_var (i := 8) rfl (Or.inl rfl))) dap_nil)))))))) ds_nil)
  (ds_cons (ds_fz 5 (ds_for PassesOwn.never rfl (di_seq (de_move 5 (pe_var (i := 5) rfl (Or.inl rfl)))) (dg_name (i := 6) S.nd rfl (Or.inl rfl) rfl) (ds_one (ds_if (dt_not (dt_tru (de_call c__law_same hr (by decide) rfl (dc_val (de_call c_sheet_without hr (by decide) rfl (dc_bor (pe_var (i := 1) rfl (Or.inl rfl)) (dc_bor (pe_var (i := 6) rfl (Or.inl rfl)) dc_nil))) (dc_val (de_call c__law_without hr (by decide) rfl (dc_bor (pe_var (i := 1) rfl (Or.inl rfl)) (dc_bor (pe_var (i := 6) rfl (Or.inl rfl)) dc_nil))) dc_nil))))) (ds_one (ds_ret (de_pure db_bl))) ds_nil))))
  (ds_one (ds_ret (de_call c__law_same hr (by decide) rfl (dc_val (de_call c_conditions_of hr (by decide) rfl (dc_val (de_call c__law_without hr (by decide) rfl (dc_bor (pe_var (i := 1) rfl (Or.inl rfl)) (dc_bor (pe_var (i := 3) rfl (Or.inl rfl)) dc_nil))) dc_nil)) (dc_val (de_pure (db_tup dap_nil)) dc_nil)))))))))))))
abbrev N_law : List Str := ["script", "pool", "sheet", "small", "great", "made", "rows", "parted"]
noncomputable def B_law : SSm := (sSeq (sAsg (eDef F__law_pool (cBor 0 cNil)) (gNm 1))
  (sSeq (sAsg (eFz (eDef F__law_sheet (cBor 1 (cVal (e2 dAdd (eP (pC (.int 2))) (eDef F__law_draw (cBor 1 (cVal (eP (pC (.int 5))) cNil)))) (cVal (e2 dAdd (eP (pC (.int 1))) (eDef F__law_draw (cBor 1 (cVal (eP (pC (.int 8))) cNil)))) (cVal (e2 dIxI (eLst (aConsE (eP (pC (.int 3))) (aConsE (eP (pC (.int 8))) (aConsE (eP (pC (.int 900))) aNilE)))) (eDef F__law_draw (cBor 1 (cVal (eP (pC (.int 3))) cNil)))) cNil)))))) (gNm 2))
  (sSeq (sIf (tNo (tTru (eDef F__law_asked (cBor 1 (cBor 2 (cVal (eP (pC (.bl true))) cNil)))))) (sRet (eP (pC (.bl false)))) sNil)
  (sSeq (sAsg (eFz (eDef F__law_sheet (cBor 1 (cVal (eDef F__law_draw (cBor 1 (cVal (eP (pC (.int 3))) cNil))) (cVal (eDef F__law_draw (cBor 1 (cVal (eP (pC (.int 4))) cNil))) (cVal (eP (pC (.int 2))) cNil)))))) (gNm 3))
  (sSeq (sIf (tNo (tTru (eDef F__law_asked (cBor 1 (cBor 3 (cVal (eP (pC (.bl true))) cNil)))))) (sRet (eP (pC (.bl false)))) sNil)
  (sSeq (sIf (e2t dEq (eDef F__law_draw (cBor 1 (cVal (eP (pC (.int 13))) cNil))) (eP (pC (.int 12)))) (sSeq (sAsg (eFz (eDef F__law_sheet (cBor 1 (cVal (eP (pC (.int 40))) (cVal (eP (pC (.int 1000))) (cVal (eP (pC (.int 990))) cNil)))))) (gNm 4))
  (sIf (tNo (tTru (eDef F__law_asked (cBor 1 (cBor 4 (cVal (eP (pC (.bl false))) cNil)))))) (sRet (eP (pC (.bl false)))) sNil)) sNil)
  (sSeq (sAsg (eP (pTup (aCons (pTup (aCons (pTup (aCons (pC (.int 0)) (aCons (pC (.int 1)) aNil))) (aCons (pC (.int 2)) aNil))) (aCons (pTup (aCons (pTup (aCons (pC (.str "a")) (aCons (pC (.int 1)) (aCons (pC (.int 999)) aNil)))) (aCons (pTup (aCons (pC (.str "b")) (aCons (pC (.int 0)) (aCons (pC (.int 1000)) aNil)))) aNil))) (aCons (pTup (aCons (pTup (aCons (pC (.str "a")) (aCons (pC (.str "b")) (aCons (pC (.int 0)) aNil)))) aNil)) aNil))))) (gNm 5))
  (sSeq (sAsg (eP (pTup (aCons (pTup (aCons (pC (.str "begin")) (aCons (pC (.str "a")) aNil))) (aCons (pTup (aCons (pC (.str "end")) (aCons (pC (.str "a")) aNil))) (aCons (pTup (aCons (pC (.str "hand")) (aCons (pC (.int 0)) (aCons (pC (.int 0)) aNil)))) (aCons (pTup (aCons (pC (.str "hand")) (aCons (pC (.int 0)) (aCons (pC (.int 1)) aNil)))) (aCons (pTup (aCons (pC (.str "hand")) (aCons (pC (.int 1)) (aCons (pC (.int 1)) aNil)))) (aCons (pTup (aCons (pC (.str "tie")) (aCons (pC (.str "a")) (aCons (pC (.str "b")) aNil)))) aNil)))))))) (gNm 6))
  (sSeq (sIf (tNo (tTru (eDef F__law_same (cVal (eDef F_conditions_of (cBor 5 cNil)) (cBor 6 cNil))))) (sRet (eP (pC (.bl false)))) sNil)
  (sSeq (sAsg (eFz (eDef F_sheet_without (cBor 5 (cVal (eP (pTup (aCons (pTup (aCons (pC (.str "hand")) (aCons (pC (.int 0)) (aCons (pC (.int 0)) aNil)))) (aCons (pTup (aCons (pC (.str "hand")) (aCons (pC (.int 1)) (aCons (pC (.int 1)) aNil)))) aNil)))) cNil)))) (gNm 7))
  (sRet (eDef F__law_same (cBor 7 (cVal (eP (pTup (aCons (pTup (aCons (pTup (aCons (pC (.int 1)) aNil)) (aCons (pC (.int 2)) aNil))) (aCons (pTup (aCons (pTup (aCons (pC (.str "a")) (aCons (pC (.int 1)) (aCons (pC (.int 999)) aNil)))) (aCons (pTup (aCons (pC (.str "b")) (aCons (pC (.int 0)) (aCons (pC (.int 1000)) aNil)))) aNil))) (aCons (pTup (aCons (pTup (aCons (pC (.str "a")) (aCons (pC (.str "b")) (aCons (pC (.int 0)) aNil)))) aNil)) aNil))))) cNil))))))))))))))
noncomputable def F_law : FSm := fnF (pinP [0]) 1 7 B_law
theorem sc_law : FnScope N_law ["script"] (fnScope (top 18)) := fnScope_by (by decide +kernel)
theorem ok_law {f : Addr} {fd : FuncData} (T : Glo mg) (D : Def K mg "law" (top 18) f fd) (c_conditions_of : Cal P w K mg base 2 "conditions_of" (Prom K F_conditions_of) []) (c_sheet_without : Cal P w K mg base 4 "sheet_without" (Prom K F_sheet_without) []) (c__law_pool : Cal P w K mg base 2 "_law_pool" (Prom K F__law_pool) []) (c__law_draw : Cal P w K mg base 2 "_law_draw" (Prom K F__law_draw) []) (c__law_same : Cal P w K mg base 2 "_law_same" (Prom K F__law_same) []) (c__law_sheet : Cal P w K mg base 5 "_law_sheet" (Prom K F__law_sheet) []) (c__law_asked : Cal P w K mg base 5 "_law_asked" (Prom K F__law_asked) []) : FnOk P w K mg base C8.CX0 6 f fd ["script"] (Prom K F_law) := by
  have S := sc_law
  refine fnok_of D.fn S rfl fun cdv A outer s H E hr => ?_
  obtain ⟨u0, u1, u64, u65⟩ := units_of hr
  exact (ds_cons (ds_set (i := 1) S.nd rfl (Or.inl rfl) rfl (de_call c__law_pool hr (by decide) rfl (dc_bor (pe_var (i := 0) rfl (Or.inl rfl)) dc_nil)))
  (ds_cons (ds_set (i := 2) S.nd rfl (Or.inl rfl) rfl (de_fz (de_call c__law_sheet hr (by decide) rfl (dc_bor (pe_var (i := 1) rfl (Or.inl rfl)) (dc_val (de_op o_add (de_pure db_int) (de_call c__law_draw hr (by decide) rfl (dc_bor (pe_var (i := 1) rfl (Or.inl rfl)) (dc_val (de_pure db_int) dc_nil)))) (dc_val (de_op o_add (de_pure db_int) (de_call c__law_draw hr (by decide) rfl (dc_bor (pe_var (i := 1) rfl (Or.inl rfl)) (dc_val (de_pure db_int) dc_nil)))) (dc_val (de_ix u1 (de_lst (da_cons (de_pure db_int) (da_cons (de_pure db_int) (da_cons (de_pure db_int) da_nil)))) (de_call c__law_draw hr (by decide) rfl (dc_bor (pe_var (i := 1) rfl (Or.inl rfl)) (dc_val (de_pure db_int) dc_nil))) fun _ _ => rfl) dc_nil)))))))
  (ds_cons (ds_if (dt_not (dt_tru (de_call c__law_asked hr (by decide) rfl (dc_bor (pe_var (i := 1) rfl (Or.inl rfl)) (dc_bor (pe_var (i := 2) rfl (Or.inl rfl)) (dc_val (de_pure db_bl) dc_nil)))))) (ds_one (ds_ret (de_pure db_bl))) ds_nil)
  (ds_cons (ds_set (i := 3) S.nd rfl (Or.inl rfl) rfl (de_fz (de_call c__law_sheet hr (by decide) rfl (dc_bor (pe_var (i := 1) rfl (Or.inl rfl)) (dc_val (de_call c__law_draw hr (by decide) rfl (dc_bor (pe_var (i := 1) rfl (Or.inl rfl)) (dc_val (de_pure db_int) dc_nil))) (dc_val (de_call c__law_draw hr (by decide) rfl (dc_bor (pe_var (i := 1) rfl (Or.inl rfl)) (dc_val (de_pure db_int) dc_nil))) (dc_val (de_pure db_int) dc_nil)))))))
  (ds_cons (ds_if (dt_not (dt_tru (de_call c__law_asked hr (by decide) rfl (dc_bor (pe_var (i := 1) rfl (Or.inl rfl)) (dc_bor (pe_var (i := 3) rfl (Or.inl rfl)) (dc_val (de_pure db_bl) dc_nil)))))) (ds_one (ds_ret (de_pure db_bl))) ds_nil)
  (ds_cons (ds_if (dt_cmp (o_eq u64) (de_call c__law_draw hr (by decide) rfl (dc_bor (pe_var (i := 1) rfl (Or.inl rfl)) (dc_val (de_pure db_int) dc_nil))) (de_pure db_int) rfl) (ds_cons (ds_set (i := 4) S.nd rfl (Or.inl rfl) rfl (de_fz (de_call c__law_sheet hr (by decide) rfl (dc_bor (pe_var (i := 1) rfl (Or.inl rfl)) (dc_val (de_pure db_int) (dc_val (de_pure db_int) (dc_val (de_pure db_int) dc_nil)))))))
  (ds_one (ds_if (dt_not (dt_tru (de_call c__law_asked hr (by decide) rfl (dc_bor (pe_var (i := 1) rfl (Or.inl rfl)) (dc_bor (pe_var (i := 4) rfl (Or.inl rfl)) (dc_val (de_pure db_bl) dc_nil)))))) (ds_one (ds_ret (de_pure db_bl))) ds_nil))) ds_nil)
  (ds_cons (ds_set (i := 5) S.nd rfl (Or.inl rfl) rfl (de_pure (db_tup (dap_cons (db_any (db_tup (dap_cons (db_any (db_tup (dap_cons (db_any db_int) (dap_cons (db_any db_int) dap_nil)))) (dap_cons (db_any db_int) dap_nil)))) (dap_cons (db_any (db_tup (dap_cons (db_any (db_tup (dap_cons (db_any db_str) (dap_cons (db_any db_int) (dap_cons (db_any db_int) dap_nil))))) (dap_cons (db_any (db_tup (dap_cons (db_any db_str) (dap_cons (db_any db_int) (dap_cons (db_any db_int) dap_nil))))) dap_nil)))) (dap_cons (db_any (db_tup (dap_cons (db_any (db_tup (dap_cons (db_any db_str) (dap_cons (db_any db_str) (dap_cons (db_any db_int) dap_nil))))) dap_nil))) dap_nil))))))
  (ds_cons (ds_set (i := 6) S.nd rfl (Or.inl rfl) rfl (de_pure (db_tup (dap_cons (db_any (db_tup (dap_cons (db_any db_str) (dap_cons (db_any db_str) dap_nil)))) (dap_cons (db_any (db_tup (dap_cons (db_any db_str) (dap_cons (db_any db_str) dap_nil)))) (dap_cons (db_any (db_tup (dap_cons (db_any db_str) (dap_cons (db_any db_int) (dap_cons (db_any db_int) dap_nil))))) (dap_cons (db_any (db_tup (dap_cons (db_any db_str) (dap_cons (db_any db_int) (dap_cons (db_any db_int) dap_nil))))) (dap_cons (db_any (db_tup (dap_cons (db_any db_str) (dap_cons (db_any db_int) (dap_cons (db_any db_int) dap_nil))))) (dap_cons (db_any (db_tup (dap_cons (db_any db_str) (dap_cons (db_any db_str) (dap_cons (db_any db_str) dap_nil))))) dap_nil)))))))))
  (ds_cons (ds_if (dt_not (dt_tru (de_call c__law_same hr (by decide) rfl (dc_val (de_call c_conditions_of hr (by decide) rfl (dc_bor (pe_var (i := 5) rfl (Or.inl rfl)) dc_nil)) (dc_bor (pe_var (i := 6) rfl (Or.inl rfl)) dc_nil))))) (ds_one (ds_ret (de_pure db_bl))) ds_nil)
  (ds_cons (ds_set (i := 7) S.nd rfl (Or.inl rfl) rfl (de_fz (de_call c_sheet_without hr (by decide) rfl (dc_bor (pe_var (i := 5) rfl (Or.inl rfl)) (dc_val (de_pure (db_tup (dap_cons (db_any (db_tup (dap_cons (db_any db_str) (dap_cons (db_any db_int) (dap_cons (db_any db_int) dap_nil))))) (dap_cons (db_any (db_tup (dap_cons (db_any db_str) (dap_cons (db_any db_int) (dap_cons (db_any db_int) dap_nil))))) dap_nil)))) dc_nil)))))
  (ds_one (ds_ret (de_call c__law_same hr (by decide) rfl (dc_bor (pe_var (i := 7) rfl (Or.inl rfl)) (dc_val (de_pure (db_tup (dap_cons (db_any (db_tup (dap_cons (db_any (db_tup (dap_cons (db_any db_int) dap_nil))) (dap_cons (db_any db_int) dap_nil)))) (dap_cons (db_any (db_tup (dap_cons (db_any (db_tup (dap_cons (db_any db_str) (dap_cons (db_any db_int) (dap_cons (db_any db_int) dap_nil))))) (dap_cons (db_any (db_tup (dap_cons (db_any db_str) (dap_cons (db_any db_int) (dap_cons (db_any db_int) dap_nil))))) dap_nil)))) (dap_cons (db_any (db_tup (dap_cons (db_any (db_tup (dap_cons (db_any db_str) (dap_cons (db_any db_str) (dap_cons (db_any db_int) dap_nil))))) dap_nil))) dap_nil))))) dc_nil)))))))))))))))
end

end DL
namespace DL
open PySem
/-! ### stepping -/
section
variable {f g : SSm} {c : TSm} {env e1 e' : Env} {r : Option (Out × Env)} {d : D} {P : Nat → Bool} {n m : Nat} {body : SSm} {ds : List D}
theorem seq_nx (h : f env = some (.nx, e1)) (h' : g e1 = r) : sSeq f g env = r := by unfold sSeq; rw [h]; exact h'
theorem seq_rt (h : f env = some (.rt d, e1)) : sSeq f g env = some (.rt d, e1) := by unfold sSeq; rw [h]; rfl
theorem if_t (h : c env = some (true, e1)) (h' : f e1 = r) : sIf c f g env = r := by unfold sIf; rw [h]; exact h'
theorem if_f (h : c env = some (false, e1)) (h' : g e1 = r) : sIf c f g env = r := by unfold sIf; rw [h]; exact h'
theorem fn_rt (hl : ds.length = n) (h : body (ds.map some ++ List.replicate m none) = some (.rt d, e')) : fnF P n m body ds = some (d, outsOf P n e') := by unfold fnF; rw [if_pos hl, h]; rfl
end
def poolD (bs : List Int) (m : Int) : D := .lst false [.lst false (bs.map D.int), .int m]
theorem ix0 {d : D} {ds : List D} {z : Bool} : dIx (.lst z (d :: ds)) (.int 0) = some d := by rw [ix_lst, at0]
theorem ix_pool0 {bs : List Int} {m : Int} : dIx (poolD bs m) (.int 0) = some (.lst false (bs.map D.int)) := rfl
theorem ix_pool1 {bs : List Int} {m : Int} : dIx (poolD bs m) (.int 1) = some (.int m) := rfl
theorem put_pool1 {bs : List Int} {m m' : Int} : dPut (poolD bs m) (.int 1) (.int m') = some (poolD bs m') := rfl
theorem sub_pool {bs : List Int} {m : Int} {put : D → Env} : subP (poolD bs m) (.int 0) put = some (.lst false (bs.map D.int), fun d' => put (.lst false [d', .int m])) := rfl
theorem tru_cons {z : Bool} {d : D} {ds : List D} : tru (.lst z (d :: ds)) = some true := rfl
theorem tru_nil {z : Bool} : tru (.lst z []) = some false := rfl
structure Pool (p : D) : Prop where
  ex : ∃ bs m, p = poolD bs m ∧ 0 ≤ m ∧ m < 1000033 ∧ ∀ b ∈ bs, 0 ≤ b
theorem tru_ints {z : Bool} {bs : List Int} : tru (.lst z (bs.map D.int)) = some (!bs.isEmpty) := by cases bs <;> rfl
theorem draw_ok {p : D} {k : Int} (hp : Pool p) (hk : 0 < k) (hk2 : k < 1073741824) : ∃ r p', F__law_draw [p, .int k] = some (.int r, [some p', some (.int k)]) ∧ 0 ≤ r ∧ r < k ∧ Pool p' := by
  obtain ⟨bs, m, rfl, h0, hm, hb⟩ := hp
  have h1 : ((m * 7123 + 137) % 1000033 : Int) < 1000033 := Int.emod_lt_of_pos _ (by decide)
  have h2 : (0 : Int) ≤ (m * 7123 + 137) % 1000033 := Int.emod_nonneg _ (by decide)
  generalize hm' : ((m * 7123 + 137) % 1000033 : Int) = m' at h1 h2
  -- the loop
  have loop : ∀ bs : List Int, (∀ b ∈ bs, 0 ≤ b) → ∃ bs', (∀ b ∈ bs', 0 ≤ b) ∧ sWhl (tAnd2 (tP (tTruP (p2 dIx (pVar 0) (pC (.int 0))))) (tP (p2t dLtX (p2 dIx (p2 dIx (pVar 0) (pC (.int 0))) (pC (.int 0))) (pVar 1)))) (sExpr (eMetP (plIx (plVar 0) (pC (.int 0))) "list" mPop (aCons (pC (.int 0)) aNil)))
      [some (poolD bs m'), some (.int k), none] = some (.nx, [some (poolD bs' m'), some (.int k), none]) := by
    intro bs
    induction bs with
    | nil =>
      intro _
      refine ⟨[], fun _ m => (nomatch m), whl_stop ?_⟩
      simp only [fnF, pinP, outsOf, sSeq, sNil, sAsg, sRet, sRetN, sExpr, sIf, sBk, sCt, sAug, sFz, sFor, eP, eMove, e2, e1, eDef, cNil, cVal, cBor, takeB, giveB, p2, p1, pVar, pC, pOwn, pTup, eTup, eLst, aCons, aNil, aConsE, aNilE, pCall, eCall, pSl, eSl, oNo, oSome, oNoE, oSomeE, gNm, gTu, gsCons, gsNil, gPut, plVar, plIx, tP, p2t, e2t, tTru, tTruP, tNo, tAnd2, tOr2, eIf, eFz, eNot, eAnd2, eOr2, yesT, eMeth, eMetP, eSMet, okRecv, iSeq, Option.bind_some, Option.bind_none, Option.map_some, Option.map_none, Option.join_some, Option.join_none, List.getElem?_cons_zero, List.getElem?_cons_succ, List.set_cons_zero, List.set_cons_succ, List.length_cons, List.length_nil, List.map_cons, List.map_nil, List.replicate_succ, List.replicate_zero, List.cons_append, List.nil_append, isImm, if_true, if_false, ite_true, ite_false, Bool.false_eq_true, List.all_cons, List.all_nil, Bool.and_true, Bool.true_and, Bool.and_self, ix_pool0, tru_nil]
    | cons b bs ih =>
      intro hb
      by_cases hlt : b < k
      · obtain ⟨bs', h3, h4⟩ := ih fun x m => hb x (List.mem_cons_of_mem _ m)
        refine ⟨bs', h3, whl_nx (e1 := [some (poolD (b :: bs) m'), some (.int k), none]) (e2 := [some (poolD bs m'), some (.int k), none]) ?_ ?_ h4⟩
        · simp only [fnF, pinP, outsOf, sSeq, sNil, sAsg, sRet, sRetN, sExpr, sIf, sBk, sCt, sAug, sFz, sFor, eP, eMove, e2, e1, eDef, cNil, cVal, cBor, takeB, giveB, p2, p1, pVar, pC, pOwn, pTup, eTup, eLst, aCons, aNil, aConsE, aNilE, pCall, eCall, pSl, eSl, oNo, oSome, oNoE, oSomeE, gNm, gTu, gsCons, gsNil, gPut, plVar, plIx, tP, p2t, e2t, tTru, tTruP, tNo, tAnd2, tOr2, eIf, eFz, eNot, eAnd2, eOr2, yesT, eMeth, eMetP, eSMet, okRecv, iSeq, Option.bind_some, Option.bind_none, Option.map_some, Option.map_none, Option.join_some, Option.join_none, List.getElem?_cons_zero, List.getElem?_cons_succ, List.set_cons_zero, List.set_cons_succ, List.length_cons, List.length_nil, List.map_cons, List.map_nil, List.replicate_succ, List.replicate_zero, List.cons_append, List.nil_append, isImm, if_true, if_false, ite_true, ite_false, Bool.false_eq_true, List.all_cons, List.all_nil, Bool.and_true, Bool.true_and, Bool.and_self, ix_pool0, tru_cons, ix0, lt_int, decide_eq_true hlt]
        · simp only [fnF, pinP, outsOf, sSeq, sNil, sAsg, sRet, sRetN, sExpr, sIf, sBk, sCt, sAug, sFz, sFor, eP, eMove, e2, e1, eDef, cNil, cVal, cBor, takeB, giveB, p2, p1, pVar, pC, pOwn, pTup, eTup, eLst, aCons, aNil, aConsE, aNilE, pCall, eCall, pSl, eSl, oNo, oSome, oNoE, oSomeE, gNm, gTu, gsCons, gsNil, gPut, plVar, plIx, tP, p2t, e2t, tTru, tTruP, tNo, tAnd2, tOr2, eIf, eFz, eNot, eAnd2, eOr2, yesT, eMeth, eMetP, eSMet, okRecv, iSeq, Option.bind_some, Option.bind_none, Option.map_some, Option.map_none, Option.join_some, Option.join_none, List.getElem?_cons_zero, List.getElem?_cons_succ, List.set_cons_zero, List.set_cons_succ, List.length_cons, List.length_nil, List.map_cons, List.map_nil, List.replicate_succ, List.replicate_zero, List.cons_append, List.nil_append, isImm, if_true, if_false, ite_true, ite_false, Bool.false_eq_true, List.all_cons, List.all_nil, Bool.and_true, Bool.true_and, Bool.and_self, sub_pool, pop0, BEq.rfl]
          rfl
      · refine ⟨b :: bs, hb, whl_stop ?_⟩
        simp only [fnF, pinP, outsOf, sSeq, sNil, sAsg, sRet, sRetN, sExpr, sIf, sBk, sCt, sAug, sFz, sFor, eP, eMove, e2, e1, eDef, cNil, cVal, cBor, takeB, giveB, p2, p1, pVar, pC, pOwn, pTup, eTup, eLst, aCons, aNil, aConsE, aNilE, pCall, eCall, pSl, eSl, oNo, oSome, oNoE, oSomeE, gNm, gTu, gsCons, gsNil, gPut, plVar, plIx, tP, p2t, e2t, tTru, tTruP, tNo, tAnd2, tOr2, eIf, eFz, eNot, eAnd2, eOr2, yesT, eMeth, eMetP, eSMet, okRecv, iSeq, Option.bind_some, Option.bind_none, Option.map_some, Option.map_none, Option.join_some, Option.join_none, List.getElem?_cons_zero, List.getElem?_cons_succ, List.set_cons_zero, List.set_cons_succ, List.length_cons, List.length_nil, List.map_cons, List.map_nil, List.replicate_succ, List.replicate_zero, List.cons_append, List.nil_append, isImm, if_true, if_false, ite_true, ite_false, Bool.false_eq_true, List.all_cons, List.all_nil, Bool.and_true, Bool.true_and, Bool.and_self, ix_pool0, tru_cons, ix0, lt_int, decide_eq_false hlt]
  obtain ⟨bs', hb', h3⟩ := loop bs hb
  have st1 : ∀ q : Option (Out × Env), q = q := fun _ => rfl
  cases bs' with
  | nil =>
    have h4 : (0 : Int) ≤ (m' * 37 + m' / 89) % k := Int.emod_nonneg _ (by omega)
    have h5 : (m' * 37 + m' / 89) % k < k := Int.emod_lt_of_pos _ hk
    refine ⟨_, _, fn_rt (e' := [some (poolD [] m'), some (.int k), none]) rfl (seq_nx (e1 := [some (poolD bs m'), some (.int k), none]) ?_ (seq_nx h3 (seq_rt (if_t (e1 := [some (poolD [] m'), some (.int k), none]) ?_ ?_)))), h4, h5, ⟨[], m', rfl, h2, h1, fun _ m => (nomatch m)⟩⟩
    · simp only [fnF, pinP, outsOf, sSeq, sNil, sAsg, sRet, sRetN, sExpr, sIf, sBk, sCt, sAug, sFz, sFor, eP, eMove, e2, e1, eDef, cNil, cVal, cBor, takeB, giveB, p2, p1, pVar, pC, pOwn, pTup, eTup, eLst, aCons, aNil, aConsE, aNilE, pCall, eCall, pSl, eSl, oNo, oSome, oNoE, oSomeE, gNm, gTu, gsCons, gsNil, gPut, plVar, plIx, tP, p2t, e2t, tTru, tTruP, tNo, tAnd2, tOr2, eIf, eFz, eNot, eAnd2, eOr2, yesT, eMeth, eMetP, eSMet, okRecv, iSeq, Option.bind_some, Option.bind_none, Option.map_some, Option.map_none, Option.join_some, Option.join_none, List.getElem?_cons_zero, List.getElem?_cons_succ, List.set_cons_zero, List.set_cons_succ, List.length_cons, List.length_nil, List.map_cons, List.map_nil, List.replicate_succ, List.replicate_zero, List.cons_append, List.nil_append, isImm, if_true, if_false, ite_true, ite_false, Bool.false_eq_true, List.all_cons, List.all_nil, Bool.and_true, Bool.true_and, Bool.and_self, ix_pool1, mu_int (i := m) (j := 7123) (by omega) (by decide), dAdd, mod_int (j := 1000033) (by decide), hm', put_pool1]
    · simp only [fnF, pinP, outsOf, sSeq, sNil, sAsg, sRet, sRetN, sExpr, sIf, sBk, sCt, sAug, sFz, sFor, eP, eMove, e2, e1, eDef, cNil, cVal, cBor, takeB, giveB, p2, p1, pVar, pC, pOwn, pTup, eTup, eLst, aCons, aNil, aConsE, aNilE, pCall, eCall, pSl, eSl, oNo, oSome, oNoE, oSomeE, gNm, gTu, gsCons, gsNil, gPut, plVar, plIx, tP, p2t, e2t, tTru, tTruP, tNo, tAnd2, tOr2, eIf, eFz, eNot, eAnd2, eOr2, yesT, eMeth, eMetP, eSMet, okRecv, iSeq, Option.bind_some, Option.bind_none, Option.map_some, Option.map_none, Option.join_some, Option.join_none, List.getElem?_cons_zero, List.getElem?_cons_succ, List.set_cons_zero, List.set_cons_succ, List.length_cons, List.length_nil, List.map_cons, List.map_nil, List.replicate_succ, List.replicate_zero, List.cons_append, List.nil_append, isImm, if_true, if_false, ite_true, ite_false, Bool.false_eq_true, List.all_cons, List.all_nil, Bool.and_true, Bool.true_and, Bool.and_self, ix_pool0, tru_nil, Bool.not_false]
    · simp only [fnF, pinP, outsOf, sSeq, sNil, sAsg, sRet, sRetN, sExpr, sIf, sBk, sCt, sAug, sFz, sFor, eP, eMove, e2, e1, eDef, cNil, cVal, cBor, takeB, giveB, p2, p1, pVar, pC, pOwn, pTup, eTup, eLst, aCons, aNil, aConsE, aNilE, pCall, eCall, pSl, eSl, oNo, oSome, oNoE, oSomeE, gNm, gTu, gsCons, gsNil, gPut, plVar, plIx, tP, p2t, e2t, tTru, tTruP, tNo, tAnd2, tOr2, eIf, eFz, eNot, eAnd2, eOr2, yesT, eMeth, eMetP, eSMet, okRecv, iSeq, Option.bind_some, Option.bind_none, Option.map_some, Option.map_none, Option.join_some, Option.join_none, List.getElem?_cons_zero, List.getElem?_cons_succ, List.set_cons_zero, List.set_cons_succ, List.length_cons, List.length_nil, List.map_cons, List.map_nil, List.replicate_succ, List.replicate_zero, List.cons_append, List.nil_append, isImm, if_true, if_false, ite_true, ite_false, Bool.false_eq_true, List.all_cons, List.all_nil, Bool.and_true, Bool.true_and, Bool.and_self, ix_pool1, mu_int (i := m') (j := 37) (by omega) (by decide), dAdd, div_int (i := m') (j := 89) (by decide) (by decide), gInt, mod_int hk]
  | cons b bs' =>
    have h4 : (0 : Int) ≤ b % k := Int.emod_nonneg _ (by omega)
    have h5 : b % k < k := Int.emod_lt_of_pos _ hk
    refine ⟨b % k, poolD (b / k :: bs') m', fn_rt (e' := [some (poolD (b / k :: bs') m'), some (.int k), some (.int (b % k))]) rfl (seq_nx (e1 := [some (poolD bs m'), some (.int k), none]) ?_ (seq_nx h3 (seq_nx (e1 := [some (poolD (b :: bs') m'), some (.int k), none]) (if_f (e1 := [some (poolD (b :: bs') m'), some (.int k), none]) ?_ ?_) (seq_nx (e1 := [some (poolD (b :: bs') m'), some (.int k), some (.int (b % k))]) ?_ (seq_nx (e1 := [some (poolD (b / k :: bs') m'), some (.int k), some (.int (b % k))]) ?_ ?_))))), h4, h5, ⟨b / k :: bs', m', rfl, h2, h1, fun x mx => ?_⟩⟩
    · simp only [fnF, pinP, outsOf, sSeq, sNil, sAsg, sRet, sRetN, sExpr, sIf, sBk, sCt, sAug, sFz, sFor, eP, eMove, e2, e1, eDef, cNil, cVal, cBor, takeB, giveB, p2, p1, pVar, pC, pOwn, pTup, eTup, eLst, aCons, aNil, aConsE, aNilE, pCall, eCall, pSl, eSl, oNo, oSome, oNoE, oSomeE, gNm, gTu, gsCons, gsNil, gPut, plVar, plIx, tP, p2t, e2t, tTru, tTruP, tNo, tAnd2, tOr2, eIf, eFz, eNot, eAnd2, eOr2, yesT, eMeth, eMetP, eSMet, okRecv, iSeq, Option.bind_some, Option.bind_none, Option.map_some, Option.map_none, Option.join_some, Option.join_none, List.getElem?_cons_zero, List.getElem?_cons_succ, List.set_cons_zero, List.set_cons_succ, List.length_cons, List.length_nil, List.map_cons, List.map_nil, List.replicate_succ, List.replicate_zero, List.cons_append, List.nil_append, isImm, if_true, if_false, ite_true, ite_false, Bool.false_eq_true, List.all_cons, List.all_nil, Bool.and_true, Bool.true_and, Bool.and_self, ix_pool1, mu_int (i := m) (j := 7123) (by omega) (by decide), dAdd, mod_int (j := 1000033) (by decide), hm', put_pool1]
    · simp only [fnF, pinP, outsOf, sSeq, sNil, sAsg, sRet, sRetN, sExpr, sIf, sBk, sCt, sAug, sFz, sFor, eP, eMove, e2, e1, eDef, cNil, cVal, cBor, takeB, giveB, p2, p1, pVar, pC, pOwn, pTup, eTup, eLst, aCons, aNil, aConsE, aNilE, pCall, eCall, pSl, eSl, oNo, oSome, oNoE, oSomeE, gNm, gTu, gsCons, gsNil, gPut, plVar, plIx, tP, p2t, e2t, tTru, tTruP, tNo, tAnd2, tOr2, eIf, eFz, eNot, eAnd2, eOr2, yesT, eMeth, eMetP, eSMet, okRecv, iSeq, Option.bind_some, Option.bind_none, Option.map_some, Option.map_none, Option.join_some, Option.join_none, List.getElem?_cons_zero, List.getElem?_cons_succ, List.set_cons_zero, List.set_cons_succ, List.length_cons, List.length_nil, List.map_cons, List.map_nil, List.replicate_succ, List.replicate_zero, List.cons_append, List.nil_append, isImm, if_true, if_false, ite_true, ite_false, Bool.false_eq_true, List.all_cons, List.all_nil, Bool.and_true, Bool.true_and, Bool.and_self, ix_pool0, tru_cons, Bool.not_true]
    · simp only [fnF, pinP, outsOf, sSeq, sNil, sAsg, sRet, sRetN, sExpr, sIf, sBk, sCt, sAug, sFz, sFor, eP, eMove, e2, e1, eDef, cNil, cVal, cBor, takeB, giveB, p2, p1, pVar, pC, pOwn, pTup, eTup, eLst, aCons, aNil, aConsE, aNilE, pCall, eCall, pSl, eSl, oNo, oSome, oNoE, oSomeE, gNm, gTu, gsCons, gsNil, gPut, plVar, plIx, tP, p2t, e2t, tTru, tTruP, tNo, tAnd2, tOr2, eIf, eFz, eNot, eAnd2, eOr2, yesT, eMeth, eMetP, eSMet, okRecv, iSeq, Option.bind_some, Option.bind_none, Option.map_some, Option.map_none, Option.join_some, Option.join_none, List.getElem?_cons_zero, List.getElem?_cons_succ, List.set_cons_zero, List.set_cons_succ, List.length_cons, List.length_nil, List.map_cons, List.map_nil, List.replicate_succ, List.replicate_zero, List.cons_append, List.nil_append, isImm, if_true, if_false, ite_true, ite_false, Bool.false_eq_true, List.all_cons, List.all_nil, Bool.and_true, Bool.true_and, Bool.and_self]
    · simp only [fnF, pinP, outsOf, sSeq, sNil, sAsg, sRet, sRetN, sExpr, sIf, sBk, sCt, sAug, sFz, sFor, eP, eMove, e2, e1, eDef, cNil, cVal, cBor, takeB, giveB, p2, p1, pVar, pC, pOwn, pTup, eTup, eLst, aCons, aNil, aConsE, aNilE, pCall, eCall, pSl, eSl, oNo, oSome, oNoE, oSomeE, gNm, gTu, gsCons, gsNil, gPut, plVar, plIx, tP, p2t, e2t, tTru, tTruP, tNo, tAnd2, tOr2, eIf, eFz, eNot, eAnd2, eOr2, yesT, eMeth, eMetP, eSMet, okRecv, iSeq, Option.bind_some, Option.bind_none, Option.map_some, Option.map_none, Option.join_some, Option.join_none, List.getElem?_cons_zero, List.getElem?_cons_succ, List.set_cons_zero, List.set_cons_succ, List.length_cons, List.length_nil, List.map_cons, List.map_nil, List.replicate_succ, List.replicate_zero, List.cons_append, List.nil_append, isImm, if_true, if_false, ite_true, ite_false, Bool.false_eq_true, List.all_cons, List.all_nil, Bool.and_true, Bool.true_and, Bool.and_self, ix_pool0, ix0, gInt, mod_int hk]
      rfl
    · simp only [fnF, pinP, outsOf, sSeq, sNil, sAsg, sRet, sRetN, sExpr, sIf, sBk, sCt, sAug, sFz, sFor, eP, eMove, e2, e1, eDef, cNil, cVal, cBor, takeB, giveB, p2, p1, pVar, pC, pOwn, pTup, eTup, eLst, aCons, aNil, aConsE, aNilE, pCall, eCall, pSl, eSl, oNo, oSome, oNoE, oSomeE, gNm, gTu, gsCons, gsNil, gPut, plVar, plIx, tP, p2t, e2t, tTru, tTruP, tNo, tAnd2, tOr2, eIf, eFz, eNot, eAnd2, eOr2, yesT, eMeth, eMetP, eSMet, okRecv, iSeq, Option.bind_some, Option.bind_none, Option.map_some, Option.map_none, Option.join_some, Option.join_none, List.getElem?_cons_zero, List.getElem?_cons_succ, List.set_cons_zero, List.set_cons_succ, List.length_cons, List.length_nil, List.map_cons, List.map_nil, List.replicate_succ, List.replicate_zero, List.cons_append, List.nil_append, isImm, if_true, if_false, ite_true, ite_false, Bool.false_eq_true, List.all_cons, List.all_nil, Bool.and_true, Bool.true_and, Bool.and_self, ix_pool0, ix0, div_int hk hk2, sub_pool, put0]
      rfl
    · simp only [fnF, pinP, outsOf, sSeq, sNil, sAsg, sRet, sRetN, sExpr, sIf, sBk, sCt, sAug, sFz, sFor, eP, eMove, e2, e1, eDef, cNil, cVal, cBor, takeB, giveB, p2, p1, pVar, pC, pOwn, pTup, eTup, eLst, aCons, aNil, aConsE, aNilE, pCall, eCall, pSl, eSl, oNo, oSome, oNoE, oSomeE, gNm, gTu, gsCons, gsNil, gPut, plVar, plIx, tP, p2t, e2t, tTru, tTruP, tNo, tAnd2, tOr2, eIf, eFz, eNot, eAnd2, eOr2, yesT, eMeth, eMetP, eSMet, okRecv, iSeq, Option.bind_some, Option.bind_none, Option.map_some, Option.map_none, Option.join_some, Option.join_none, List.getElem?_cons_zero, List.getElem?_cons_succ, List.set_cons_zero, List.set_cons_succ, List.length_cons, List.length_nil, List.map_cons, List.map_nil, List.replicate_succ, List.replicate_zero, List.cons_append, List.nil_append, isImm, if_true, if_false, ite_true, ite_false, Bool.false_eq_true, List.all_cons, List.all_nil, Bool.and_true, Bool.true_and, Bool.and_self]
    · rcases List.mem_cons.mp mx with rfl | mx
      · exact Int.ediv_nonneg (hb' b List.mem_cons_self) (by omega)
      · exact hb' x (List.mem_cons_of_mem _ mx)

theorem Pool.imm {p : D} (h : Pool p) : isImm p = false := by obtain ⟨bs, m, rfl, _⟩ := h; rfl
theorem draw_w {p : D} {k : Int} {Q : D × List (Option D) → Prop} (hp : Pool p) (hk : 0 < k) (hk2 : k < 1073741824) (q : ∀ r p', 0 ≤ r → r < k → Pool p' → Q (.int r, [some p', some (.int k)])) : Ok (F__law_draw [p, .int k]) Q := by
  obtain ⟨r, p', h1, h2, h3, h4⟩ := draw_ok hp hk hk2
  exact ok_of h1 (q r p' h2 h3 h4)
theorem fzs_ints : ∀ l : List Int, fzs (l.map D.int) = l.map D.int
  | [] => rfl
  | x :: l => by show fz (.int x) :: fzs (l.map D.int) = _; rw [fzs_ints l]; rfl
theorem cut_map {f : Int → D} (l : List Int) (lo hi : Option Int) : ∃ l' : List Int, cutD (l.map f) lo hi = l'.map f ∧ l'.length ≤ l.length := ⟨_, by unfold cutD; rw [← List.map_drop, ← List.map_take], by simp; omega⟩
theorem pow18 : dPow (.int 10) (.int 18) = some (.int 1000000000000000000) := by simp [dPow]
theorem pool_w {ns : List Int} {Q : D × List (Option D) → Prop} (hl : ns.length ≤ 63) (q : ∀ p, Pool p → Q (p, [some (.scr (ns.map D.int))])) : Ok (F__law_pool [.scr (ns.map D.int)]) Q := by
  obtain ⟨ms, hms, hml⟩ := cut_map (f := D.int) ns none (some 63)
  refine fn_ok rfl ?_
  unfold B__law_pool
  simp only [List.map_cons, List.map_nil, List.replicate_succ, List.replicate_zero, List.cons_append, List.nil_append]
  refine seq_ok ?_
  simp only [w_pC, w_pVar, w_pOwn, w_p1, w_p2, w_pSl, w_oNo, w_oSome, w_pTup, w_pCall, w_aNil, w_aCons, w_pIsi, w_pIsi2, w_eP, w_eMove, w_e1, w_e2, w_eTup, w_eLst, w_eFz, w_eCall, w_aNilE, w_aConsE, w_eIf, w_eComp, w_eDc, w_eDef, w_cNil, w_cVal, w_cBor, w_eMeth, w_eMetP, w_plVar, w_plIx, w_eSMet, w_yesT, w_tP, w_p2t, w_e2t, w_tTruP, w_tTru, w_tNo, w_tAnd2, w_tOr2, w_iSeq, w_iRange1, w_iRange2, w_iEnumE, rngD_len, w_gNm, w_gTup, w_gsNil, w_gsCons, w_gPut, w_sNil, w_sRet, w_sExpr, w_sAsg, w_sIf, w_sFor, w_sFz, ok_some, ok_map, takeB, giveB, outsOf, wipeE, im_non, im_bl, im_int, im_str, im_tup, im_scr, im_lst, im_dcK, im_dcT, fz_non, fz_bl, fz_int, fz_str, fz_tup, fz_scr, fz_lstT, fz_lst, fz_dcT, fz_dcK, wk_tup, wk_lst, wk_scr, wk_str, sI_tup, sI_lst, tr_bl, lt_int, gt_int, le_int, ge_int, eq_int, ne_int, eq_str, ne_str, ne_bl, eq_bl, add_int, sub_int, neg_int, g_int, g_abs, ix_tup, ix_lst, at0, at1, at2, g_len_tup, g_len_lst, List.getElem?_cons_zero, List.getElem?_cons_succ, List.set_cons_zero, List.set_cons_succ, List.length_cons, List.length_nil, List.map_cons, List.map_nil, List.replicate_succ, List.replicate_zero, List.cons_append, List.nil_append, List.head?_cons, List.tail_cons, Option.join_some, Option.map_some, if_true, if_false, ite_true, ite_false, reduceIte, reduceCtorEq, BEq.rfl, Bool.false_eq_true, Bool.not_true, Bool.not_false, List.all_cons, List.all_nil, Bool.and_true, Bool.true_and, Bool.and_self, true_and, and_true, exists_eq_left, exists_eq_left', D.bl.injEq, D.int.injEq, D.str.injEq, D.tup.injEq, Out.rt.injEq, Nat.lt_add_left_iff_pos, Nat.zero_lt_succ, Nat.reduceAdd, Nat.reduceLT]
  refine seq_ok ?_
  simp only [w_pC, w_pVar, w_pOwn, w_p1, w_p2, w_pSl, w_oNo, w_oSome, w_pTup, w_pCall, w_aNil, w_aCons, w_pIsi, w_pIsi2, w_eP, w_eMove, w_e1, w_e2, w_eTup, w_eLst, w_eFz, w_eCall, w_aNilE, w_aConsE, w_eIf, w_eComp, w_eDc, w_eDef, w_cNil, w_cVal, w_cBor, w_eMeth, w_eMetP, w_plVar, w_plIx, w_eSMet, w_yesT, w_tP, w_p2t, w_e2t, w_tTruP, w_tTru, w_tNo, w_tAnd2, w_tOr2, w_iSeq, w_iRange1, w_iRange2, w_iEnumE, rngD_len, w_gNm, w_gTup, w_gsNil, w_gsCons, w_gPut, w_sNil, w_sRet, w_sExpr, w_sAsg, w_sIf, w_sFor, w_sFz, ok_some, ok_map, takeB, giveB, outsOf, wipeE, im_non, im_bl, im_int, im_str, im_tup, im_scr, im_lst, im_dcK, im_dcT, fz_non, fz_bl, fz_int, fz_str, fz_tup, fz_scr, fz_lstT, fz_lst, fz_dcT, fz_dcK, wk_tup, wk_lst, wk_scr, wk_str, sI_tup, sI_lst, tr_bl, lt_int, gt_int, le_int, ge_int, eq_int, ne_int, eq_str, ne_str, ne_bl, eq_bl, add_int, sub_int, neg_int, g_int, g_abs, ix_tup, ix_lst, at0, at1, at2, g_len_tup, g_len_lst, List.getElem?_cons_zero, List.getElem?_cons_succ, List.set_cons_zero, List.set_cons_succ, List.length_cons, List.length_nil, List.map_cons, List.map_nil, List.replicate_succ, List.replicate_zero, List.cons_append, List.nil_append, List.head?_cons, List.tail_cons, Option.join_some, Option.map_some, if_true, if_false, ite_true, ite_false, reduceIte, reduceCtorEq, BEq.rfl, Bool.false_eq_true, Bool.not_true, Bool.not_false, List.all_cons, List.all_nil, Bool.and_true, Bool.true_and, Bool.and_self, true_and, and_true, exists_eq_left, exists_eq_left', D.bl.injEq, D.int.injEq, D.str.injEq, D.tup.injEq, Out.rt.injEq, Nat.lt_add_left_iff_pos, Nat.zero_lt_succ, Nat.reduceAdd, Nat.reduceLT, dSl, hms, fzs_ints]
  refine for_ok (fun i e => ∃ m x, e = [some (.scr (ns.map D.int)), some (.int m), x, none] ∧ 0 ≤ m ∧ m < 1000033) ⟨37, none, rfl, by decide, by decide⟩ ?_ ?_
  · rintro i d e hi ⟨m, x, rfl, h0, h1⟩
    obtain ⟨c, rfl⟩ : ∃ c, d = .int c := by
      rw [List.getElem?_map] at hi
      obtain ⟨c, _, e⟩ := Option.map_eq_some_iff.mp hi
      exact ⟨c, e.symm⟩
    have a := mu_int (i := m) (j := 7121) (by omega) (by decide)
    have b1 := Int.emod_nonneg (m * 7121 + (if c < 0 then -c else c) % 99961 + 7) (by decide : (1000033 : Int) ≠ 0)
    have b2 := Int.emod_lt_of_pos (m * 7121 + (if c < 0 then -c else c) % 99961 + 7) (by decide : (0 : Int) < 1000033)
    simp only [w_pC, w_pVar, w_pOwn, w_p1, w_p2, w_pSl, w_oNo, w_oSome, w_pTup, w_pCall, w_aNil, w_aCons, w_pIsi, w_pIsi2, w_eP, w_eMove, w_e1, w_e2, w_eTup, w_eLst, w_eFz, w_eCall, w_aNilE, w_aConsE, w_eIf, w_eComp, w_eDc, w_eDef, w_cNil, w_cVal, w_cBor, w_eMeth, w_eMetP, w_plVar, w_plIx, w_eSMet, w_yesT, w_tP, w_p2t, w_e2t, w_tTruP, w_tTru, w_tNo, w_tAnd2, w_tOr2, w_iSeq, w_iRange1, w_iRange2, w_iEnumE, rngD_len, w_gNm, w_gTup, w_gsNil, w_gsCons, w_gPut, w_sNil, w_sRet, w_sExpr, w_sAsg, w_sIf, w_sFor, w_sFz, ok_some, ok_map, takeB, giveB, outsOf, wipeE, im_non, im_bl, im_int, im_str, im_tup, im_scr, im_lst, im_dcK, im_dcT, fz_non, fz_bl, fz_int, fz_str, fz_tup, fz_scr, fz_lstT, fz_lst, fz_dcT, fz_dcK, wk_tup, wk_lst, wk_scr, wk_str, sI_tup, sI_lst, tr_bl, lt_int, gt_int, le_int, ge_int, eq_int, ne_int, eq_str, ne_str, ne_bl, eq_bl, add_int, sub_int, neg_int, g_int, g_abs, ix_tup, ix_lst, at0, at1, at2, g_len_tup, g_len_lst, List.getElem?_cons_zero, List.getElem?_cons_succ, List.set_cons_zero, List.set_cons_succ, List.length_cons, List.length_nil, List.map_cons, List.map_nil, List.replicate_succ, List.replicate_zero, List.cons_append, List.nil_append, List.head?_cons, List.tail_cons, Option.join_some, Option.map_some, if_true, if_false, ite_true, ite_false, reduceIte, reduceCtorEq, BEq.rfl, Bool.false_eq_true, Bool.not_true, Bool.not_false, List.all_cons, List.all_nil, Bool.and_true, Bool.true_and, Bool.and_self, true_and, and_true, exists_eq_left, exists_eq_left', D.bl.injEq, D.int.injEq, D.str.injEq, D.tup.injEq, Out.rt.injEq, Nat.lt_add_left_iff_pos, Nat.zero_lt_succ, Nat.reduceAdd, Nat.reduceLT, a, mod_int (show (0 : Int) < 99961 by decide), mod_int (show (0 : Int) < 1000033 by decide)]
    exact ⟨_, _, rfl, b1, b2⟩
  · rintro e ⟨m, x, rfl, h0, h1⟩
    refine ⟨rfl, ?_⟩
    simp only [w_pC, w_pVar, w_pOwn, w_p1, w_p2, w_pSl, w_oNo, w_oSome, w_pTup, w_pCall, w_aNil, w_aCons, w_pIsi, w_pIsi2, w_eP, w_eMove, w_e1, w_e2, w_eTup, w_eLst, w_eFz, w_eCall, w_aNilE, w_aConsE, w_eIf, w_eComp, w_eDc, w_eDef, w_cNil, w_cVal, w_cBor, w_eMeth, w_eMetP, w_plVar, w_plIx, w_eSMet, w_yesT, w_tP, w_p2t, w_e2t, w_tTruP, w_tTru, w_tNo, w_tAnd2, w_tOr2, w_iSeq, w_iRange1, w_iRange2, w_iEnumE, rngD_len, w_gNm, w_gTup, w_gsNil, w_gsCons, w_gPut, w_sNil, w_sRet, w_sExpr, w_sAsg, w_sIf, w_sFor, w_sFz, ok_some, ok_map, takeB, giveB, outsOf, wipeE, im_non, im_bl, im_int, im_str, im_tup, im_scr, im_lst, im_dcK, im_dcT, fz_non, fz_bl, fz_int, fz_str, fz_tup, fz_scr, fz_lstT, fz_lst, fz_dcT, fz_dcK, wk_tup, wk_lst, wk_scr, wk_str, sI_tup, sI_lst, tr_bl, lt_int, gt_int, le_int, ge_int, eq_int, ne_int, eq_str, ne_str, ne_bl, eq_bl, add_int, sub_int, neg_int, g_int, g_abs, ix_tup, ix_lst, at0, at1, at2, g_len_tup, g_len_lst, List.getElem?_cons_zero, List.getElem?_cons_succ, List.set_cons_zero, List.set_cons_succ, List.length_cons, List.length_nil, List.map_cons, List.map_nil, List.replicate_succ, List.replicate_zero, List.cons_append, List.nil_append, List.head?_cons, List.tail_cons, Option.join_some, Option.map_some, if_true, if_false, ite_true, ite_false, reduceIte, reduceCtorEq, BEq.rfl, Bool.false_eq_true, Bool.not_true, Bool.not_false, List.all_cons, List.all_nil, Bool.and_true, Bool.true_and, Bool.and_self, true_and, and_true, exists_eq_left, exists_eq_left', D.bl.injEq, D.int.injEq, D.str.injEq, D.tup.injEq, Out.rt.injEq, Nat.lt_add_left_iff_pos, Nat.zero_lt_succ, Nat.reduceAdd, Nat.reduceLT, dSl, hms, fzs_ints, pow18]
    refine comp_ok (fun i e acc => ∃ x, e = [some (.scr (ns.map D.int)), some (.int m), x, none] ∧ ∃ bs : List Int, acc = bs.map D.int ∧ (∀ b ∈ bs, 0 ≤ b) ∧ bs.length ≤ i) ⟨x, rfl, [], rfl, fun _ m => (nomatch m), Nat.le_refl _⟩ ?_ ?_
    · rintro i d e acc hi ⟨x, rfl, bs, rfl, h2, h3⟩
      have hil : i < ms.length := by simpa using (List.getElem?_eq_some_iff.mp hi).1
      obtain ⟨c, rfl⟩ : ∃ c, d = .int c := by
        rw [List.getElem?_map] at hi
        obtain ⟨c, _, e⟩ := Option.map_eq_some_iff.mp hi
        exact ⟨c, e.symm⟩
      have hc : 0 ≤ if c < 0 then -c else c := by split <;> omega
      simp only [wipeE, w_pC, w_pVar, w_pOwn, w_p1, w_p2, w_pSl, w_oNo, w_oSome, w_pTup, w_pCall, w_aNil, w_aCons, w_pIsi, w_pIsi2, w_eP, w_eMove, w_e1, w_e2, w_eTup, w_eLst, w_eFz, w_eCall, w_aNilE, w_aConsE, w_eIf, w_eComp, w_eDc, w_eDef, w_cNil, w_cVal, w_cBor, w_eMeth, w_eMetP, w_plVar, w_plIx, w_eSMet, w_yesT, w_tP, w_p2t, w_e2t, w_tTruP, w_tTru, w_tNo, w_tAnd2, w_tOr2, w_iSeq, w_iRange1, w_iRange2, w_iEnumE, rngD_len, w_gNm, w_gTup, w_gsNil, w_gsCons, w_gPut, w_sNil, w_sRet, w_sExpr, w_sAsg, w_sIf, w_sFor, w_sFz, ok_some, ok_map, takeB, giveB, outsOf, wipeE, im_non, im_bl, im_int, im_str, im_tup, im_scr, im_lst, im_dcK, im_dcT, fz_non, fz_bl, fz_int, fz_str, fz_tup, fz_scr, fz_lstT, fz_lst, fz_dcT, fz_dcK, wk_tup, wk_lst, wk_scr, wk_str, sI_tup, sI_lst, tr_bl, lt_int, gt_int, le_int, ge_int, eq_int, ne_int, eq_str, ne_str, ne_bl, eq_bl, add_int, sub_int, neg_int, g_int, g_abs, ix_tup, ix_lst, at0, at1, at2, g_len_tup, g_len_lst, List.getElem?_cons_zero, List.getElem?_cons_succ, List.set_cons_zero, List.set_cons_succ, List.length_cons, List.length_nil, List.map_cons, List.map_nil, List.replicate_succ, List.replicate_zero, List.cons_append, List.nil_append, List.head?_cons, List.tail_cons, Option.join_some, Option.map_some, if_true, if_false, ite_true, ite_false, reduceIte, reduceCtorEq, BEq.rfl, Bool.false_eq_true, Bool.not_true, Bool.not_false, List.all_cons, List.all_nil, Bool.and_true, Bool.true_and, Bool.and_self, true_and, and_true, exists_eq_left, exists_eq_left', D.bl.injEq, D.int.injEq, D.str.injEq, D.tup.injEq, Out.rt.injEq, Nat.lt_add_left_iff_pos, Nat.zero_lt_succ, Nat.reduceAdd, Nat.reduceLT, pow18]
      generalize (if c < 0 then -c else c) = v at hc
      by_cases hv : 1000000000000000000 ≤ v
      · simp only [decide_eq_true hv, if_true]
        refine ⟨by rw [List.length_map]; show bs.length < 16777216; omega, _, rfl, bs ++ [v], by simp, fun b m => ?_, by simp; omega⟩
        rcases List.mem_append.mp m with m | m
        · exact h2 b m
        · have : b = v := by simpa using m
          omega
      · simp only [decide_eq_false hv, Bool.false_eq_true, if_false]
        exact ⟨_, rfl, bs, rfl, h2, by omega⟩
    · rintro e acc ⟨x, rfl, bs, rfl, h2, h3⟩
      simp only [w_pC, w_pVar, w_pOwn, w_p1, w_p2, w_pSl, w_oNo, w_oSome, w_pTup, w_pCall, w_aNil, w_aCons, w_pIsi, w_pIsi2, w_eP, w_eMove, w_e1, w_e2, w_eTup, w_eLst, w_eFz, w_eCall, w_aNilE, w_aConsE, w_eIf, w_eComp, w_eDc, w_eDef, w_cNil, w_cVal, w_cBor, w_eMeth, w_eMetP, w_plVar, w_plIx, w_eSMet, w_yesT, w_tP, w_p2t, w_e2t, w_tTruP, w_tTru, w_tNo, w_tAnd2, w_tOr2, w_iSeq, w_iRange1, w_iRange2, w_iEnumE, rngD_len, w_gNm, w_gTup, w_gsNil, w_gsCons, w_gPut, w_sNil, w_sRet, w_sExpr, w_sAsg, w_sIf, w_sFor, w_sFz, ok_some, ok_map, takeB, giveB, outsOf, wipeE, im_non, im_bl, im_int, im_str, im_tup, im_scr, im_lst, im_dcK, im_dcT, fz_non, fz_bl, fz_int, fz_str, fz_tup, fz_scr, fz_lstT, fz_lst, fz_dcT, fz_dcK, wk_tup, wk_lst, wk_scr, wk_str, sI_tup, sI_lst, tr_bl, lt_int, gt_int, le_int, ge_int, eq_int, ne_int, eq_str, ne_str, ne_bl, eq_bl, add_int, sub_int, neg_int, g_int, g_abs, ix_tup, ix_lst, at0, at1, at2, g_len_tup, g_len_lst, List.getElem?_cons_zero, List.getElem?_cons_succ, List.set_cons_zero, List.set_cons_succ, List.length_cons, List.length_nil, List.map_cons, List.map_nil, List.replicate_succ, List.replicate_zero, List.cons_append, List.nil_append, List.head?_cons, List.tail_cons, Option.join_some, Option.map_some, if_true, if_false, ite_true, ite_false, reduceIte, reduceCtorEq, BEq.rfl, Bool.false_eq_true, Bool.not_true, Bool.not_false, List.all_cons, List.all_nil, Bool.and_true, Bool.true_and, Bool.and_self, true_and, and_true, exists_eq_left, exists_eq_left', D.bl.injEq, D.int.injEq, D.str.injEq, D.tup.injEq, Out.rt.injEq, Nat.lt_add_left_iff_pos, Nat.zero_lt_succ, Nat.reduceAdd, Nat.reduceLT]
      exact ⟨by decide, q _ ⟨bs, m, rfl, h0, h1, h2⟩⟩
theorem ixi_of {a b d : D} (h : dIx a b = some d) (hi : isImm d = true) : dIxI a b = some d := by
  unfold dIxI
  rw [h]
  show (if isImm d = true then some d else none) = _
  rw [if_pos hi]
theorem pick_w {p : D} {s : Str} {Q : D × List (Option D) → Prop} (hp : Pool p) (h0 : 0 < s.length) (h1 : s.length ≤ 1000) (q : ∀ c p', Pool p' → Q (.str ⟨#[c]⟩, [some p', some (.str s)])) : Ok (F__law_pick [p, .str s]) Q := by
  refine fn_ok rfl ?_
  unfold B__law_pick
  simp only [List.map_cons, List.map_nil, List.replicate_succ, List.replicate_zero, List.cons_append, List.nil_append]
  simp only [w_pC, w_pVar, w_pOwn, w_p1, w_p2, w_pSl, w_oNo, w_oSome, w_pTup, w_pCall, w_aNil, w_aCons, w_pIsi, w_pIsi2, w_eP, w_eMove, w_e1, w_e2, w_eTup, w_eLst, w_eFz, w_eCall, w_aNilE, w_aConsE, w_eIf, w_eComp, w_eDc, w_eDef, w_cNil, w_cVal, w_cBor, w_eMeth, w_eMetP, w_plVar, w_plIx, w_eSMet, w_yesT, w_tP, w_p2t, w_e2t, w_tTruP, w_tTru, w_tNo, w_tAnd2, w_tOr2, w_iSeq, w_iRange1, w_iRange2, w_iEnumE, rngD_len, w_gNm, w_gTup, w_gsNil, w_gsCons, w_gPut, w_sNil, w_sRet, w_sExpr, w_sAsg, w_sIf, w_sFor, w_sFz, ok_some, ok_map, takeB, giveB, outsOf, wipeE, im_non, im_bl, im_int, im_str, im_tup, im_scr, im_lst, im_dcK, im_dcT, fz_non, fz_bl, fz_int, fz_str, fz_tup, fz_scr, fz_lstT, fz_lst, fz_dcT, fz_dcK, wk_tup, wk_lst, wk_scr, wk_str, sI_tup, sI_lst, tr_bl, lt_int, gt_int, le_int, ge_int, eq_int, ne_int, eq_str, ne_str, ne_bl, eq_bl, add_int, sub_int, neg_int, g_int, g_abs, ix_tup, ix_lst, at0, at1, at2, g_len_tup, g_len_lst, List.getElem?_cons_zero, List.getElem?_cons_succ, List.set_cons_zero, List.set_cons_succ, List.length_cons, List.length_nil, List.map_cons, List.map_nil, List.replicate_succ, List.replicate_zero, List.cons_append, List.nil_append, List.head?_cons, List.tail_cons, Option.join_some, Option.map_some, if_true, if_false, ite_true, ite_false, reduceIte, reduceCtorEq, BEq.rfl, Bool.false_eq_true, Bool.not_true, Bool.not_false, List.all_cons, List.all_nil, Bool.and_true, Bool.true_and, Bool.and_self, true_and, and_true, exists_eq_left, exists_eq_left', D.bl.injEq, D.int.injEq, D.str.injEq, D.tup.injEq, Out.rt.injEq, Nat.lt_add_left_iff_pos, Nat.zero_lt_succ, Nat.reduceAdd, Nat.reduceLT, hp.imm, g_len_str (show s.length ≤ 16777216 by omega)]
  refine draw_w hp (by omega) (by omega) fun r p' a b hp' => ?_
  obtain ⟨c, hc⟩ := ix_str a b (by omega)
  simp only [w_pC, w_pVar, w_pOwn, w_p1, w_p2, w_pSl, w_oNo, w_oSome, w_pTup, w_pCall, w_aNil, w_aCons, w_pIsi, w_pIsi2, w_eP, w_eMove, w_e1, w_e2, w_eTup, w_eLst, w_eFz, w_eCall, w_aNilE, w_aConsE, w_eIf, w_eComp, w_eDc, w_eDef, w_cNil, w_cVal, w_cBor, w_eMeth, w_eMetP, w_plVar, w_plIx, w_eSMet, w_yesT, w_tP, w_p2t, w_e2t, w_tTruP, w_tTru, w_tNo, w_tAnd2, w_tOr2, w_iSeq, w_iRange1, w_iRange2, w_iEnumE, rngD_len, w_gNm, w_gTup, w_gsNil, w_gsCons, w_gPut, w_sNil, w_sRet, w_sExpr, w_sAsg, w_sIf, w_sFor, w_sFz, ok_some, ok_map, takeB, giveB, outsOf, wipeE, im_non, im_bl, im_int, im_str, im_tup, im_scr, im_lst, im_dcK, im_dcT, fz_non, fz_bl, fz_int, fz_str, fz_tup, fz_scr, fz_lstT, fz_lst, fz_dcT, fz_dcK, wk_tup, wk_lst, wk_scr, wk_str, sI_tup, sI_lst, tr_bl, lt_int, gt_int, le_int, ge_int, eq_int, ne_int, eq_str, ne_str, ne_bl, eq_bl, add_int, sub_int, neg_int, g_int, g_abs, ix_tup, ix_lst, at0, at1, at2, g_len_tup, g_len_lst, List.getElem?_cons_zero, List.getElem?_cons_succ, List.set_cons_zero, List.set_cons_succ, List.length_cons, List.length_nil, List.map_cons, List.map_nil, List.replicate_succ, List.replicate_zero, List.cons_append, List.nil_append, List.head?_cons, List.tail_cons, Option.join_some, Option.map_some, if_true, if_false, ite_true, ite_false, reduceIte, reduceCtorEq, BEq.rfl, Bool.false_eq_true, Bool.not_true, Bool.not_false, List.all_cons, List.all_nil, Bool.and_true, Bool.true_and, Bool.and_self, true_and, and_true, exists_eq_left, exists_eq_left', D.bl.injEq, D.int.injEq, D.str.injEq, D.tup.injEq, Out.rt.injEq, Nat.lt_add_left_iff_pos, Nat.zero_lt_succ, Nat.reduceAdd, Nat.reduceLT, ixi_of hc rfl, hp.imm]
  exact q c p' hp'

/-! ### rows without their rests behind -/
def rstrip (r : Int) (l : List Int) : List Int := (l.reverse.dropWhile fun x => x == r).reverse
theorem rstrip_nil {r : Int} : rstrip r [] = [] := rfl
theorem rstrip_snoc {r x : Int} {l : List Int} : rstrip r (l ++ [x]) = if x = r then rstrip r l else l ++ [x] := by
  unfold rstrip
  rw [List.reverse_append]
  simp only [List.reverse_cons, List.reverse_nil, List.nil_append, List.cons_append, List.dropWhile_cons]
  by_cases h : x = r
  · simp [h]
  · simp [h]
theorem snoc_ind {P : List Int → Prop} (h0 : P []) (h1 : ∀ l x, P l → P (l ++ [x])) : ∀ l, P l := by
  intro l
  have : ∀ m : List Int, P m.reverse := fun m => by
    induction m with
    | nil => exact h0
    | cons x m ih => rw [List.reverse_cons]; exact h1 _ _ ih
  have z := this l.reverse
  rwa [List.reverse_reverse] at z
theorem rstrip_pre (r : Int) : ∀ l : List Int, ∃ t, l = rstrip r l ++ t := snoc_ind ⟨[], rfl⟩ fun l x ⟨t, h⟩ => by
  rw [rstrip_snoc]
  split
  · exact ⟨t ++ [x], by rw [← List.append_assoc, ← h]⟩
  · exact ⟨[], by simp⟩
theorem rstrip_le (r : Int) (l : List Int) : (rstrip r l).length ≤ l.length := by
  obtain ⟨t, h⟩ := rstrip_pre r l
  have := congrArg List.length h
  rw [List.length_append] at this
  omega
theorem at_last {α : Type} {l : List α} {x : α} : L2.atI (l ++ [x]) (-1) = some x := by
  unfold L2.atI L2.ixN
  rw [if_neg (by omega), if_pos (by simp; omega)]
  have e : (-1 + ((l ++ [x]).length : Int)).toNat = l.length := by simp; omega
  rw [Option.bind_some, e]
  simp
theorem pop_last {l : List D} {x : D} : mPop (.lst false (l ++ [x])) [] = some (x, .lst false l) := by
  simp [mPop]
theorem ints_imm (l : List Int) : (l.map D.int).all isImm = true := all_map _ fun _ => rfl
theorem plain_w {d : D} {l : List Int} {r : Int} {Q : D × List (Option D) → Prop} (hd : gList [d] = some (.lst false (l.map D.int))) (hl : l.length ≤ 100000) (q : Q (.tup [.tup ((rstrip r l).map D.int), .int r], [some d, some (.int r)])) : Ok (F__law_plain [d, .int r]) Q := by
  refine fn_ok rfl ?_
  unfold B__law_plain
  simp only [List.map_cons, List.map_nil, List.replicate_succ, List.replicate_zero, List.cons_append, List.nil_append]
  refine seq_ok ?_
  simp only [w_pC, w_pVar, w_pOwn, w_p1, w_p2, w_pSl, w_oNo, w_oSome, w_pTup, w_pCall, w_aNil, w_aCons, w_pIsi, w_pIsi2, w_eP, w_eMove, w_e1, w_e2, w_eTup, w_eLst, w_eFz, w_eCall, w_aNilE, w_aConsE, w_eIf, w_eComp, w_eDc, w_eDef, w_cNil, w_cVal, w_cBor, w_eMeth, w_eMetP, w_plVar, w_plIx, w_eSMet, w_yesT, w_tP, w_p2t, w_e2t, w_tTruP, w_tTru, w_tNo, w_tAnd2, w_tOr2, w_iSeq, w_iRange1, w_iRange2, w_iEnumE, rngD_len, w_gNm, w_gTup, w_gsNil, w_gsCons, w_gPut, w_sNil, w_sRet, w_sExpr, w_sAsg, w_sIf, w_sFor, w_sFz, ok_some, ok_map, takeB, giveB, outsOf, wipeE, im_non, im_bl, im_int, im_str, im_tup, im_scr, im_lst, im_dcK, im_dcT, fz_non, fz_bl, fz_int, fz_str, fz_tup, fz_scr, fz_lstT, fz_lst, fz_dcT, fz_dcK, wk_tup, wk_lst, wk_scr, wk_str, sI_tup, sI_lst, tr_bl, lt_int, gt_int, le_int, ge_int, eq_int, ne_int, eq_str, ne_str, ne_bl, eq_bl, add_int, sub_int, neg_int, g_int, g_abs, ix_tup, ix_lst, at0, at1, at2, g_len_tup, g_len_lst, List.getElem?_cons_zero, List.getElem?_cons_succ, List.set_cons_zero, List.set_cons_succ, List.length_cons, List.length_nil, List.map_cons, List.map_nil, List.replicate_succ, List.replicate_zero, List.cons_append, List.nil_append, List.head?_cons, List.tail_cons, Option.join_some, Option.map_some, if_true, if_false, ite_true, ite_false, reduceIte, reduceCtorEq, BEq.rfl, Bool.false_eq_true, Bool.not_true, Bool.not_false, List.all_cons, List.all_nil, Bool.and_true, Bool.true_and, Bool.and_self, true_and, and_true, exists_eq_left, exists_eq_left', D.bl.injEq, D.int.injEq, D.str.injEq, D.tup.injEq, Out.rt.injEq, Nat.lt_add_left_iff_pos, Nat.zero_lt_succ, Nat.reduceAdd, Nat.reduceLT, hd]
  have loop : ∀ l : List Int, sWhl (tAnd2 (tP (tTruP (pVar 2))) (tP (p2t dEq (p2 dIx (pVar 2) (p1 dNeg (pC (.int 1)))) (pVar 1)))) (sExpr (eMeth 2 "list" mPop aNilE)) [some d, some (.int r), some (.lst false (l.map D.int))] =
      some (.nx, [some d, some (.int r), some (.lst false ((rstrip r l).map D.int))]) := by
    refine snoc_ind ?_ fun l x ih => ?_
    · refine whl_stop ?_
      rfl
    · have e0 : (l ++ [x]).map D.int = l.map D.int ++ [.int x] := by simp
      have tr : tru (.lst false (l.map D.int ++ [.int x])) = some true := by simp [tru]
      have test : (tAnd2 (tP (tTruP (pVar 2))) (tP (p2t dEq (p2 dIx (pVar 2) (p1 dNeg (pC (.int 1)))) (pVar 1)))) [some d, some (.int r), some (.lst false ((l ++ [x]).map D.int))] = some (x == r, [some d, some (.int r), some (.lst false ((l ++ [x]).map D.int))]) := by
        rw [e0]
        have h : Ok ((tAnd2 (tP (tTruP (pVar 2))) (tP (p2t dEq (p2 dIx (pVar 2) (p1 dNeg (pC (.int 1)))) (pVar 1)))) [some d, some (.int r), some (.lst false (l.map D.int ++ [.int x]))]) fun z => z = (x == r, [some d, some (.int r), some (.lst false (l.map D.int ++ [.int x]))]) := by
          simp only [w_pC, w_pVar, w_pOwn, w_p1, w_p2, w_pSl, w_oNo, w_oSome, w_pTup, w_pCall, w_aNil, w_aCons, w_pIsi, w_pIsi2, w_eP, w_eMove, w_e1, w_e2, w_eTup, w_eLst, w_eFz, w_eCall, w_aNilE, w_aConsE, w_eIf, w_eComp, w_eDc, w_eDef, w_cNil, w_cVal, w_cBor, w_eMeth, w_eMetP, w_plVar, w_plIx, w_eSMet, w_yesT, w_tP, w_p2t, w_e2t, w_tTruP, w_tTru, w_tNo, w_tAnd2, w_tOr2, w_iSeq, w_iRange1, w_iRange2, w_iEnumE, rngD_len, w_gNm, w_gTup, w_gsNil, w_gsCons, w_gPut, w_sNil, w_sRet, w_sExpr, w_sAsg, w_sIf, w_sFor, w_sFz, ok_some, ok_map, takeB, giveB, outsOf, wipeE, im_non, im_bl, im_int, im_str, im_tup, im_scr, im_lst, im_dcK, im_dcT, fz_non, fz_bl, fz_int, fz_str, fz_tup, fz_scr, fz_lstT, fz_lst, fz_dcT, fz_dcK, wk_tup, wk_lst, wk_scr, wk_str, sI_tup, sI_lst, tr_bl, lt_int, gt_int, le_int, ge_int, eq_int, ne_int, eq_str, ne_str, ne_bl, eq_bl, add_int, sub_int, neg_int, g_int, g_abs, ix_tup, ix_lst, at0, at1, at2, g_len_tup, g_len_lst, List.getElem?_cons_zero, List.getElem?_cons_succ, List.set_cons_zero, List.set_cons_succ, List.length_cons, List.length_nil, List.map_cons, List.map_nil, List.replicate_succ, List.replicate_zero, List.cons_append, List.nil_append, List.head?_cons, List.tail_cons, Option.join_some, Option.map_some, if_true, if_false, ite_true, ite_false, reduceIte, reduceCtorEq, BEq.rfl, Bool.false_eq_true, Bool.not_true, Bool.not_false, List.all_cons, List.all_nil, Bool.and_true, Bool.true_and, Bool.and_self, true_and, and_true, exists_eq_left, exists_eq_left', D.bl.injEq, D.int.injEq, D.str.injEq, D.tup.injEq, Out.rt.injEq, Nat.lt_add_left_iff_pos, Nat.zero_lt_succ, Nat.reduceAdd, Nat.reduceLT, tr, at_last]
        obtain ⟨z, e1, e2⟩ := h
        rw [e1, e2]
      rw [rstrip_snoc]
      by_cases h : x = r
      · rw [if_pos h]
        refine whl_nx (e1 := [some d, some (.int r), some (.lst false ((l ++ [x]).map D.int))]) (by rw [test]; simp [h]) (e2 := [some d, some (.int r), some (.lst false (l.map D.int))]) ?_ ih
        have hb : Ok ((sExpr (eMeth 2 "list" mPop aNilE)) [some d, some (.int r), some (.lst false ((l ++ [x]).map D.int))]) fun z => z = (.nx, [some d, some (.int r), some (.lst false (l.map D.int))]) := by
          rw [e0]
          simp only [w_pC, w_pVar, w_pOwn, w_p1, w_p2, w_pSl, w_oNo, w_oSome, w_pTup, w_pCall, w_aNil, w_aCons, w_pIsi, w_pIsi2, w_eP, w_eMove, w_e1, w_e2, w_eTup, w_eLst, w_eFz, w_eCall, w_aNilE, w_aConsE, w_eIf, w_eComp, w_eDc, w_eDef, w_cNil, w_cVal, w_cBor, w_eMeth, w_eMetP, w_plVar, w_plIx, w_eSMet, w_yesT, w_tP, w_p2t, w_e2t, w_tTruP, w_tTru, w_tNo, w_tAnd2, w_tOr2, w_iSeq, w_iRange1, w_iRange2, w_iEnumE, rngD_len, w_gNm, w_gTup, w_gsNil, w_gsCons, w_gPut, w_sNil, w_sRet, w_sExpr, w_sAsg, w_sIf, w_sFor, w_sFz, ok_some, ok_map, takeB, giveB, outsOf, wipeE, im_non, im_bl, im_int, im_str, im_tup, im_scr, im_lst, im_dcK, im_dcT, fz_non, fz_bl, fz_int, fz_str, fz_tup, fz_scr, fz_lstT, fz_lst, fz_dcT, fz_dcK, wk_tup, wk_lst, wk_scr, wk_str, sI_tup, sI_lst, tr_bl, lt_int, gt_int, le_int, ge_int, eq_int, ne_int, eq_str, ne_str, ne_bl, eq_bl, add_int, sub_int, neg_int, g_int, g_abs, ix_tup, ix_lst, at0, at1, at2, g_len_tup, g_len_lst, List.getElem?_cons_zero, List.getElem?_cons_succ, List.set_cons_zero, List.set_cons_succ, List.length_cons, List.length_nil, List.map_cons, List.map_nil, List.replicate_succ, List.replicate_zero, List.cons_append, List.nil_append, List.head?_cons, List.tail_cons, Option.join_some, Option.map_some, if_true, if_false, ite_true, ite_false, reduceIte, reduceCtorEq, BEq.rfl, Bool.false_eq_true, Bool.not_true, Bool.not_false, List.all_cons, List.all_nil, Bool.and_true, Bool.true_and, Bool.and_self, true_and, and_true, exists_eq_left, exists_eq_left', D.bl.injEq, D.int.injEq, D.str.injEq, D.tup.injEq, Out.rt.injEq, Nat.lt_add_left_iff_pos, Nat.zero_lt_succ, Nat.reduceAdd, Nat.reduceLT, pop_last]
          rfl
        obtain ⟨z, e1, e2⟩ := hb
        rw [e1, e2]
      · rw [if_neg h]
        refine whl_stop ?_
        rw [test]
        simp [h]
  refine seq_ok (ok_of (loop l) ⟨rfl, ?_⟩)
  simp only [w_pC, w_pVar, w_pOwn, w_p1, w_p2, w_pSl, w_oNo, w_oSome, w_pTup, w_pCall, w_aNil, w_aCons, w_pIsi, w_pIsi2, w_eP, w_eMove, w_e1, w_e2, w_eTup, w_eLst, w_eFz, w_eCall, w_aNilE, w_aConsE, w_eIf, w_eComp, w_eDc, w_eDef, w_cNil, w_cVal, w_cBor, w_eMeth, w_eMetP, w_plVar, w_plIx, w_eSMet, w_yesT, w_tP, w_p2t, w_e2t, w_tTruP, w_tTru, w_tNo, w_tAnd2, w_tOr2, w_iSeq, w_iRange1, w_iRange2, w_iEnumE, rngD_len, w_gNm, w_gTup, w_gsNil, w_gsCons, w_gPut, w_sNil, w_sRet, w_sExpr, w_sAsg, w_sIf, w_sFor, w_sFz, ok_some, ok_map, takeB, giveB, outsOf, wipeE, im_non, im_bl, im_int, im_str, im_tup, im_scr, im_lst, im_dcK, im_dcT, fz_non, fz_bl, fz_int, fz_str, fz_tup, fz_scr, fz_lstT, fz_lst, fz_dcT, fz_dcK, wk_tup, wk_lst, wk_scr, wk_str, sI_tup, sI_lst, tr_bl, lt_int, gt_int, le_int, ge_int, eq_int, ne_int, eq_str, ne_str, ne_bl, eq_bl, add_int, sub_int, neg_int, g_int, g_abs, ix_tup, ix_lst, at0, at1, at2, g_len_tup, g_len_lst, List.getElem?_cons_zero, List.getElem?_cons_succ, List.set_cons_zero, List.set_cons_succ, List.length_cons, List.length_nil, List.map_cons, List.map_nil, List.replicate_succ, List.replicate_zero, List.cons_append, List.nil_append, List.head?_cons, List.tail_cons, Option.join_some, Option.map_some, if_true, if_false, ite_true, ite_false, reduceIte, reduceCtorEq, BEq.rfl, Bool.false_eq_true, Bool.not_true, Bool.not_false, List.all_cons, List.all_nil, Bool.and_true, Bool.true_and, Bool.and_self, true_and, and_true, exists_eq_left, exists_eq_left', D.bl.injEq, D.int.injEq, D.str.injEq, D.tup.injEq, Out.rt.injEq, Nat.lt_add_left_iff_pos, Nat.zero_lt_succ, Nat.reduceAdd, Nat.reduceLT, g_tuple (ints_imm _)]
  exact ⟨by decide, q⟩
theorem cut_take {l : List D} {n : Nat} (h : n ≤ l.length) : cutD l none (some (n : Int)) = l.take n := by
  unfold cutD
  have e1 : HT.sIx l.length 0 none = 0 := rfl
  have e2 : HT.sIx l.length l.length (some (n : Int)) = n := by
    rw [HT.sIx_nat]; omega
  rw [e1, e2]
  simp
theorem make_w {l : List Int} {r : Int} {Q : D × List (Option D) → Prop} (hl : l.length ≤ 100000) (q : Q (.tup [.tup ((rstrip r l).map D.int), .int r], [some (.tup (l.map D.int)), some (.int r)])) : Ok (F_make_hands [.tup (l.map D.int), .int r]) Q := by
  refine fn_ok rfl ?_
  unfold B_make_hands
  simp only [List.map_cons, List.map_nil, List.replicate_succ, List.replicate_zero, List.cons_append, List.nil_append]
  refine seq_ok ?_
  simp only [w_pC, w_pVar, w_pOwn, w_p1, w_p2, w_pSl, w_oNo, w_oSome, w_pTup, w_pCall, w_aNil, w_aCons, w_pIsi, w_pIsi2, w_eP, w_eMove, w_e1, w_e2, w_eTup, w_eLst, w_eFz, w_eCall, w_aNilE, w_aConsE, w_eIf, w_eComp, w_eDc, w_eDef, w_cNil, w_cVal, w_cBor, w_eMeth, w_eMetP, w_plVar, w_plIx, w_eSMet, w_yesT, w_tP, w_p2t, w_e2t, w_tTruP, w_tTru, w_tNo, w_tAnd2, w_tOr2, w_iSeq, w_iRange1, w_iRange2, w_iEnumE, rngD_len, w_gNm, w_gTup, w_gsNil, w_gsCons, w_gPut, w_sNil, w_sRet, w_sExpr, w_sAsg, w_sIf, w_sFor, w_sFz, ok_some, ok_map, takeB, giveB, outsOf, wipeE, im_non, im_bl, im_int, im_str, im_tup, im_scr, im_lst, im_dcK, im_dcT, fz_non, fz_bl, fz_int, fz_str, fz_tup, fz_scr, fz_lstT, fz_lst, fz_dcT, fz_dcK, wk_tup, wk_lst, wk_scr, wk_str, sI_tup, sI_lst, tr_bl, lt_int, gt_int, le_int, ge_int, eq_int, ne_int, eq_str, ne_str, ne_bl, eq_bl, add_int, sub_int, neg_int, g_int, g_abs, ix_tup, ix_lst, at0, at1, at2, g_len_tup, g_len_lst, List.getElem?_cons_zero, List.getElem?_cons_succ, List.set_cons_zero, List.set_cons_succ, List.length_cons, List.length_nil, List.map_cons, List.map_nil, List.replicate_succ, List.replicate_zero, List.cons_append, List.nil_append, List.head?_cons, List.tail_cons, Option.join_some, Option.map_some, if_true, if_false, ite_true, ite_false, reduceIte, reduceCtorEq, BEq.rfl, Bool.false_eq_true, Bool.not_true, Bool.not_false, List.all_cons, List.all_nil, Bool.and_true, Bool.true_and, Bool.and_self, true_and, and_true, exists_eq_left, exists_eq_left', D.bl.injEq, D.int.injEq, D.str.injEq, D.tup.injEq, Out.rt.injEq, Nat.lt_add_left_iff_pos, Nat.zero_lt_succ, Nat.reduceAdd, Nat.reduceLT, List.length_map]
  have loop : ∀ k : Nat, k ≤ l.length → sWhl (tAnd2 (tP (p2t dGt (pVar 2) (pC (.int 0)))) (tP (p2t dEq (p2 dIx (pVar 0) (p2 dSub (pVar 2) (pC (.int 1)))) (pVar 1)))) (sAug 2 (fun a b => a - b) (eP (pC (.int 1)))) [some (.tup (l.map D.int)), some (.int r), some (.int k)] =
      some (.nx, [some (.tup (l.map D.int)), some (.int r), some (.int (rstrip r (l.take k)).length)]) := by
    intro k
    induction k with
    | zero =>
      intro _
      refine whl_stop ?_
      rfl
    | succ k ih =>
      intro hk
      have e0 : l.take (k + 1) = l.take k ++ [l[k]] := by rw [List.take_succ]; simp [List.getElem?_eq_getElem (show k < l.length by omega)]
      have e1 : ((k + 1 : Nat) : Int) - 1 = (k : Int) := by omega
      have e2 : L2.atI (l.map D.int) (k : Int) = some (.int l[k]) := by rw [at_nat (by simp; omega)]; simp
      have test : (tAnd2 (tP (p2t dGt (pVar 2) (pC (.int 0)))) (tP (p2t dEq (p2 dIx (pVar 0) (p2 dSub (pVar 2) (pC (.int 1)))) (pVar 1)))) [some (.tup (l.map D.int)), some (.int r), some (.int ((k + 1 : Nat) : Int))] = some (l[k] == r, [some (.tup (l.map D.int)), some (.int r), some (.int ((k + 1 : Nat) : Int))]) := by
        have h : Ok ((tAnd2 (tP (p2t dGt (pVar 2) (pC (.int 0)))) (tP (p2t dEq (p2 dIx (pVar 0) (p2 dSub (pVar 2) (pC (.int 1)))) (pVar 1)))) [some (.tup (l.map D.int)), some (.int r), some (.int ((k + 1 : Nat) : Int))]) fun z => z = (l[k] == r, [some (.tup (l.map D.int)), some (.int r), some (.int ((k + 1 : Nat) : Int))]) := by
          simp only [w_pC, w_pVar, w_pOwn, w_p1, w_p2, w_pSl, w_oNo, w_oSome, w_pTup, w_pCall, w_aNil, w_aCons, w_pIsi, w_pIsi2, w_eP, w_eMove, w_e1, w_e2, w_eTup, w_eLst, w_eFz, w_eCall, w_aNilE, w_aConsE, w_eIf, w_eComp, w_eDc, w_eDef, w_cNil, w_cVal, w_cBor, w_eMeth, w_eMetP, w_plVar, w_plIx, w_eSMet, w_yesT, w_tP, w_p2t, w_e2t, w_tTruP, w_tTru, w_tNo, w_tAnd2, w_tOr2, w_iSeq, w_iRange1, w_iRange2, w_iEnumE, rngD_len, w_gNm, w_gTup, w_gsNil, w_gsCons, w_gPut, w_sNil, w_sRet, w_sExpr, w_sAsg, w_sIf, w_sFor, w_sFz, ok_some, ok_map, takeB, giveB, outsOf, wipeE, im_non, im_bl, im_int, im_str, im_tup, im_scr, im_lst, im_dcK, im_dcT, fz_non, fz_bl, fz_int, fz_str, fz_tup, fz_scr, fz_lstT, fz_lst, fz_dcT, fz_dcK, wk_tup, wk_lst, wk_scr, wk_str, sI_tup, sI_lst, tr_bl, lt_int, gt_int, le_int, ge_int, eq_int, ne_int, eq_str, ne_str, ne_bl, eq_bl, add_int, sub_int, neg_int, g_int, g_abs, ix_tup, ix_lst, at0, at1, at2, g_len_tup, g_len_lst, List.getElem?_cons_zero, List.getElem?_cons_succ, List.set_cons_zero, List.set_cons_succ, List.length_cons, List.length_nil, List.map_cons, List.map_nil, List.replicate_succ, List.replicate_zero, List.cons_append, List.nil_append, List.head?_cons, List.tail_cons, Option.join_some, Option.map_some, if_true, if_false, ite_true, ite_false, reduceIte, reduceCtorEq, BEq.rfl, Bool.false_eq_true, Bool.not_true, Bool.not_false, List.all_cons, List.all_nil, Bool.and_true, Bool.true_and, Bool.and_self, true_and, and_true, exists_eq_left, exists_eq_left', D.bl.injEq, D.int.injEq, D.str.injEq, D.tup.injEq, Out.rt.injEq, Nat.lt_add_left_iff_pos, Nat.zero_lt_succ, Nat.reduceAdd, Nat.reduceLT, e1, e2, decide_eq_true (show (0 : Int) < ((k + 1 : Nat) : Int) by omega)]
        obtain ⟨z, e1, e2⟩ := h
        rw [e1, e2]
      rw [e0, rstrip_snoc]
      by_cases h : l[k] = r
      · rw [if_pos h]
        refine whl_nx (e1 := [some (.tup (l.map D.int)), some (.int r), some (.int ((k + 1 : Nat) : Int))]) (by rw [test]; simp [h]) (e2 := [some (.tup (l.map D.int)), some (.int r), some (.int k)]) ?_ (ih (by omega))
        simp only [sAug, eP, pC, Option.map_some, Option.bind_some, List.getElem?_cons_zero, List.getElem?_cons_succ, List.length_cons, List.length_nil, List.set_cons_succ, List.set_cons_zero, e1]
        rfl
      · rw [if_neg h]
        refine whl_stop ?_
        rw [test]
        simp [h]
        omega
  refine seq_ok (ok_of (loop l.length (Nat.le_refl _)) ⟨rfl, ?_⟩)
  rw [List.take_length]
  have hle := rstrip_le r l
  have e3 : (l.map D.int).take (rstrip r l).length = (rstrip r l).map D.int := by
    obtain ⟨t, ht⟩ := rstrip_pre r l
    rw [← List.map_take]
    congr 1
    conv => lhs; rhs; rw [ht]
    simp
  simp only [w_pC, w_pVar, w_pOwn, w_p1, w_p2, w_pSl, w_oNo, w_oSome, w_pTup, w_pCall, w_aNil, w_aCons, w_pIsi, w_pIsi2, w_eP, w_eMove, w_e1, w_e2, w_eTup, w_eLst, w_eFz, w_eCall, w_aNilE, w_aConsE, w_eIf, w_eComp, w_eDc, w_eDef, w_cNil, w_cVal, w_cBor, w_eMeth, w_eMetP, w_plVar, w_plIx, w_eSMet, w_yesT, w_tP, w_p2t, w_e2t, w_tTruP, w_tTru, w_tNo, w_tAnd2, w_tOr2, w_iSeq, w_iRange1, w_iRange2, w_iEnumE, rngD_len, w_gNm, w_gTup, w_gsNil, w_gsCons, w_gPut, w_sNil, w_sRet, w_sExpr, w_sAsg, w_sIf, w_sFor, w_sFz, ok_some, ok_map, takeB, giveB, outsOf, wipeE, im_non, im_bl, im_int, im_str, im_tup, im_scr, im_lst, im_dcK, im_dcT, fz_non, fz_bl, fz_int, fz_str, fz_tup, fz_scr, fz_lstT, fz_lst, fz_dcT, fz_dcK, wk_tup, wk_lst, wk_scr, wk_str, sI_tup, sI_lst, tr_bl, lt_int, gt_int, le_int, ge_int, eq_int, ne_int, eq_str, ne_str, ne_bl, eq_bl, add_int, sub_int, neg_int, g_int, g_abs, ix_tup, ix_lst, at0, at1, at2, g_len_tup, g_len_lst, List.getElem?_cons_zero, List.getElem?_cons_succ, List.set_cons_zero, List.set_cons_succ, List.length_cons, List.length_nil, List.map_cons, List.map_nil, List.replicate_succ, List.replicate_zero, List.cons_append, List.nil_append, List.head?_cons, List.tail_cons, Option.join_some, Option.map_some, if_true, if_false, ite_true, ite_false, reduceIte, reduceCtorEq, BEq.rfl, Bool.false_eq_true, Bool.not_true, Bool.not_false, List.all_cons, List.all_nil, Bool.and_true, Bool.true_and, Bool.and_self, true_and, and_true, exists_eq_left, exists_eq_left', D.bl.injEq, D.int.injEq, D.str.injEq, D.tup.injEq, Out.rt.injEq, Nat.lt_add_left_iff_pos, Nat.zero_lt_succ, Nat.reduceAdd, Nat.reduceLT, dSl, cut_take (l := l.map D.int) (n := (rstrip r l).length) (by simp; exact hle), e3]
  refine ok_of (a := .tup ((rstrip r l).map D.int)) rfl ?_
  simp only [w_pC, w_pVar, w_pOwn, w_p1, w_p2, w_pSl, w_oNo, w_oSome, w_pTup, w_pCall, w_aNil, w_aCons, w_pIsi, w_pIsi2, w_eP, w_eMove, w_e1, w_e2, w_eTup, w_eLst, w_eFz, w_eCall, w_aNilE, w_aConsE, w_eIf, w_eComp, w_eDc, w_eDef, w_cNil, w_cVal, w_cBor, w_eMeth, w_eMetP, w_plVar, w_plIx, w_eSMet, w_yesT, w_tP, w_p2t, w_e2t, w_tTruP, w_tTru, w_tNo, w_tAnd2, w_tOr2, w_iSeq, w_iRange1, w_iRange2, w_iEnumE, rngD_len, w_gNm, w_gTup, w_gsNil, w_gsCons, w_gPut, w_sNil, w_sRet, w_sExpr, w_sAsg, w_sIf, w_sFor, w_sFz, ok_some, ok_map, takeB, giveB, outsOf, wipeE, im_non, im_bl, im_int, im_str, im_tup, im_scr, im_lst, im_dcK, im_dcT, fz_non, fz_bl, fz_int, fz_str, fz_tup, fz_scr, fz_lstT, fz_lst, fz_dcT, fz_dcK, wk_tup, wk_lst, wk_scr, wk_str, sI_tup, sI_lst, tr_bl, lt_int, gt_int, le_int, ge_int, eq_int, ne_int, eq_str, ne_str, ne_bl, eq_bl, add_int, sub_int, neg_int, g_int, g_abs, ix_tup, ix_lst, at0, at1, at2, g_len_tup, g_len_lst, List.getElem?_cons_zero, List.getElem?_cons_succ, List.set_cons_zero, List.set_cons_succ, List.length_cons, List.length_nil, List.map_cons, List.map_nil, List.replicate_succ, List.replicate_zero, List.cons_append, List.nil_append, List.head?_cons, List.tail_cons, Option.join_some, Option.map_some, if_true, if_false, ite_true, ite_false, reduceIte, reduceCtorEq, BEq.rfl, Bool.false_eq_true, Bool.not_true, Bool.not_false, List.all_cons, List.all_nil, Bool.and_true, Bool.true_and, Bool.and_self, true_and, and_true, exists_eq_left, exists_eq_left', D.bl.injEq, D.int.injEq, D.str.injEq, D.tup.injEq, Out.rt.injEq, Nat.lt_add_left_iff_pos, Nat.zero_lt_succ, Nat.reduceAdd, Nat.reduceLT]
  exact ⟨by decide, q⟩

/-! ### names -/
def signsS : Str := "abcdefghijklmnopqrstuvwxyz0123456789"
theorem signs_len : signsS.length = 36 := by decide +kernel
theorem signs_ok : PyData.strOk signsS = true := by decide +kernel
theorem one_ok {c : Nat} (h : c < 0x110000) : PyData.strOk ⟨#[c]⟩ = true := by simp [PyData.strOk, h]
theorem app_ok {a b : Str} (ha : PyData.strOk a = true) (hb : PyData.strOk b = true) : PyData.strOk (a ++ b) = true := by
  unfold PyData.strOk at *
  rw [Str.cps_append, Array.all_append, ha, hb]; rfl
theorem join_ok : ∀ {ss : List Str}, (∀ s ∈ ss, PyData.strOk s = true) → PyData.strOk (Str.join ("" : Str) ss) = true
  | [], _ => by decide +kernel
  | [x], h => h x List.mem_cons_self
  | x :: y :: r, h => by
    have ih := join_ok (ss := y :: r) fun s m => h s (List.mem_cons_of_mem _ m)
    show PyData.strOk (x ++ ("" : Str) ++ Str.join ("" : Str) (y :: r)) = true
    exact app_ok (app_ok (h x List.mem_cons_self) (by decide +kernel)) ih
theorem ix_strO {s : Str} {r : Int} (ok : PyData.strOk s = true) (h0 : 0 ≤ r) (h1 : r < s.length) (hz : s.length ≤ 16777216) : ∃ c, c < 0x110000 ∧ dIx (.str s) (.int r) = some (.str ⟨#[c]⟩) := by
  obtain ⟨n, rfl⟩ := Int.eq_ofNat_of_zero_le h0
  have hn : n < s.cps.toList.length := by rw [Array.length_toList]; exact_mod_cast h1
  refine ⟨s.cps.toList[n], ?_, ?_⟩
  · unfold PyData.strOk at ok
    rw [← Array.all_toList] at ok
    exact of_decide_eq_true (List.all_eq_true.mp ok _ (List.getElem_mem hn))
  show (if s.length ≤ szL then (L2.atI s.cps.toList (n : Int)).map fun c => D.str ⟨#[c]⟩ else none) = _
  rw [if_pos hz, at_nat hn]
  rfl
theorem pick_wO {p : D} {s : Str} {Q : D × List (Option D) → Prop} (hp : Pool p) (ok : PyData.strOk s = true) (h0 : 0 < s.length) (h1 : s.length ≤ 1000) (q : ∀ c p', c < 0x110000 → Pool p' → Q (.str ⟨#[c]⟩, [some p', some (.str s)])) : Ok (F__law_pick [p, .str s]) Q := by
  refine fn_ok rfl ?_
  unfold B__law_pick
  simp only [List.map_cons, List.map_nil, List.replicate_succ, List.replicate_zero, List.cons_append, List.nil_append]
  simp only [w_pC, w_pVar, w_pOwn, w_p1, w_p2, w_pSl, w_oNo, w_oSome, w_pTup, w_pCall, w_aNil, w_aCons, w_pIsi, w_pIsi2, w_eP, w_eMove, w_e1, w_e2, w_eTup, w_eLst, w_eFz, w_eCall, w_aNilE, w_aConsE, w_eIf, w_eComp, w_eDc, w_eDef, w_cNil, w_cVal, w_cBor, w_eMeth, w_eMetP, w_plVar, w_plIx, w_eSMet, w_yesT, w_tP, w_p2t, w_e2t, w_tTruP, w_tTru, w_tNo, w_tAnd2, w_tOr2, w_iSeq, w_iRange1, w_iRange2, w_iEnumE, rngD_len, w_gNm, w_gTup, w_gsNil, w_gsCons, w_gPut, w_sNil, w_sRet, w_sExpr, w_sAsg, w_sIf, w_sFor, w_sFz, ok_some, ok_map, takeB, giveB, outsOf, wipeE, im_non, im_bl, im_int, im_str, im_tup, im_scr, im_lst, im_dcK, im_dcT, fz_non, fz_bl, fz_int, fz_str, fz_tup, fz_scr, fz_lstT, fz_lst, fz_dcT, fz_dcK, wk_tup, wk_lst, wk_scr, wk_str, sI_tup, sI_lst, tr_bl, lt_int, gt_int, le_int, ge_int, eq_int, ne_int, eq_str, ne_str, ne_bl, eq_bl, add_int, sub_int, neg_int, g_int, g_abs, ix_tup, ix_lst, at0, at1, at2, g_len_tup, g_len_lst, List.getElem?_cons_zero, List.getElem?_cons_succ, List.set_cons_zero, List.set_cons_succ, List.length_cons, List.length_nil, List.map_cons, List.map_nil, List.replicate_succ, List.replicate_zero, List.cons_append, List.nil_append, List.head?_cons, List.tail_cons, Option.join_some, Option.map_some, if_true, if_false, ite_true, ite_false, reduceIte, reduceCtorEq, BEq.rfl, Bool.false_eq_true, Bool.not_true, Bool.not_false, List.all_cons, List.all_nil, Bool.and_true, Bool.true_and, Bool.and_self, true_and, and_true, exists_eq_left, exists_eq_left', D.bl.injEq, D.int.injEq, D.str.injEq, D.tup.injEq, Out.rt.injEq, Nat.lt_add_left_iff_pos, Nat.zero_lt_succ, Nat.reduceAdd, Nat.reduceLT, hp.imm, g_len_str (show s.length ≤ 16777216 by omega)]
  refine draw_w hp (by omega) (by omega) fun r p' a b hp' => ?_
  obtain ⟨c, hc0, hc⟩ := ix_strO ok a b (by omega)
  simp only [w_pC, w_pVar, w_pOwn, w_p1, w_p2, w_pSl, w_oNo, w_oSome, w_pTup, w_pCall, w_aNil, w_aCons, w_pIsi, w_pIsi2, w_eP, w_eMove, w_e1, w_e2, w_eTup, w_eLst, w_eFz, w_eCall, w_aNilE, w_aConsE, w_eIf, w_eComp, w_eDc, w_eDef, w_cNil, w_cVal, w_cBor, w_eMeth, w_eMetP, w_plVar, w_plIx, w_eSMet, w_yesT, w_tP, w_p2t, w_e2t, w_tTruP, w_tTru, w_tNo, w_tAnd2, w_tOr2, w_iSeq, w_iRange1, w_iRange2, w_iEnumE, rngD_len, w_gNm, w_gTup, w_gsNil, w_gsCons, w_gPut, w_sNil, w_sRet, w_sExpr, w_sAsg, w_sIf, w_sFor, w_sFz, ok_some, ok_map, takeB, giveB, outsOf, wipeE, im_non, im_bl, im_int, im_str, im_tup, im_scr, im_lst, im_dcK, im_dcT, fz_non, fz_bl, fz_int, fz_str, fz_tup, fz_scr, fz_lstT, fz_lst, fz_dcT, fz_dcK, wk_tup, wk_lst, wk_scr, wk_str, sI_tup, sI_lst, tr_bl, lt_int, gt_int, le_int, ge_int, eq_int, ne_int, eq_str, ne_str, ne_bl, eq_bl, add_int, sub_int, neg_int, g_int, g_abs, ix_tup, ix_lst, at0, at1, at2, g_len_tup, g_len_lst, List.getElem?_cons_zero, List.getElem?_cons_succ, List.set_cons_zero, List.set_cons_succ, List.length_cons, List.length_nil, List.map_cons, List.map_nil, List.replicate_succ, List.replicate_zero, List.cons_append, List.nil_append, List.head?_cons, List.tail_cons, Option.join_some, Option.map_some, if_true, if_false, ite_true, ite_false, reduceIte, reduceCtorEq, BEq.rfl, Bool.false_eq_true, Bool.not_true, Bool.not_false, List.all_cons, List.all_nil, Bool.and_true, Bool.true_and, Bool.and_self, true_and, and_true, exists_eq_left, exists_eq_left', D.bl.injEq, D.int.injEq, D.str.injEq, D.tup.injEq, Out.rt.injEq, Nat.lt_add_left_iff_pos, Nat.zero_lt_succ, Nat.reduceAdd, Nat.reduceLT, ixi_of hc rfl, hp.imm]
  exact q c p' hc0 hp'
theorem one_len {c : Nat} : (⟨#[c]⟩ : Str).length = 1 := rfl
theorem names_w {p : D} {n : Nat} {Q : D × List (Option D) → Prop} (hp : Pool p) (hn : n ≤ 40) (q : ∀ (l : List Str) p', l.length = n → (∀ s ∈ l, PyData.strOk s = true) → Pool p' → Q (.lst false (l.map D.str), [some p', some (.int n)])) : Ok (F__law_names [p, .int n]) Q := by
  refine fn_ok rfl ?_
  unfold B__law_names
  simp only [List.map_cons, List.map_nil, List.replicate_succ, List.replicate_zero, List.cons_append, List.nil_append]
  refine seq_ok ?_
  simp only [w_pC, w_pVar, w_pOwn, w_p1, w_p2, w_pSl, w_oNo, w_oSome, w_pTup, w_pCall, w_aNil, w_aCons, w_pIsi, w_pIsi2, w_eP, w_eMove, w_e1, w_e2, w_eTup, w_eLst, w_eFz, w_eCall, w_aNilE, w_aConsE, w_eIf, w_eComp, w_eDc, w_eDef, w_cNil, w_cVal, w_cBor, w_eMeth, w_eMetP, w_plVar, w_plIx, w_eSMet, w_yesT, w_tP, w_p2t, w_e2t, w_tTruP, w_tTru, w_tNo, w_tAnd2, w_tOr2, w_iSeq, w_iRange1, w_iRange2, w_iEnumE, rngD_len, w_gNm, w_gTup, w_gsNil, w_gsCons, w_gPut, w_sNil, w_sRet, w_sExpr, w_sAsg, w_sIf, w_sFor, w_sFz, ok_some, ok_map, takeB, giveB, outsOf, wipeE, im_non, im_bl, im_int, im_str, im_tup, im_scr, im_lst, im_dcK, im_dcT, fz_non, fz_bl, fz_int, fz_str, fz_tup, fz_scr, fz_lstT, fz_lst, fz_dcT, fz_dcK, wk_tup, wk_lst, wk_scr, wk_str, sI_tup, sI_lst, tr_bl, lt_int, gt_int, le_int, ge_int, eq_int, ne_int, eq_str, ne_str, ne_bl, eq_bl, add_int, sub_int, neg_int, g_int, g_abs, ix_tup, ix_lst, at0, at1, at2, g_len_tup, g_len_lst, List.getElem?_cons_zero, List.getElem?_cons_succ, List.set_cons_zero, List.set_cons_succ, List.length_cons, List.length_nil, List.map_cons, List.map_nil, List.replicate_succ, List.replicate_zero, List.cons_append, List.nil_append, List.head?_cons, List.tail_cons, Option.join_some, Option.map_some, if_true, if_false, ite_true, ite_false, reduceIte, reduceCtorEq, BEq.rfl, Bool.false_eq_true, Bool.not_true, Bool.not_false, List.all_cons, List.all_nil, Bool.and_true, Bool.true_and, Bool.and_self, true_and, and_true, exists_eq_left, exists_eq_left', D.bl.injEq, D.int.injEq, D.str.injEq, D.tup.injEq, Out.rt.injEq, Nat.lt_add_left_iff_pos, Nat.zero_lt_succ, Nat.reduceAdd, Nat.reduceLT]
  show Ok (sSeq _ _ [some p, some (.int n), some (.str signsS), none, none, none, none, none, none, none, none]) _
  refine seq_ok ?_
  simp only [w_pC, w_pVar, w_pOwn, w_p1, w_p2, w_pSl, w_oNo, w_oSome, w_pTup, w_pCall, w_aNil, w_aCons, w_pIsi, w_pIsi2, w_eP, w_eMove, w_e1, w_e2, w_eTup, w_eLst, w_eFz, w_eCall, w_aNilE, w_aConsE, w_eIf, w_eComp, w_eDc, w_eDef, w_cNil, w_cVal, w_cBor, w_eMeth, w_eMetP, w_plVar, w_plIx, w_eSMet, w_yesT, w_tP, w_p2t, w_e2t, w_tTruP, w_tTru, w_tNo, w_tAnd2, w_tOr2, w_iSeq, w_iRange1, w_iRange2, w_iEnumE, rngD_len, w_gNm, w_gTup, w_gsNil, w_gsCons, w_gPut, w_sNil, w_sRet, w_sExpr, w_sAsg, w_sIf, w_sFor, w_sFz, ok_some, ok_map, takeB, giveB, outsOf, wipeE, im_non, im_bl, im_int, im_str, im_tup, im_scr, im_lst, im_dcK, im_dcT, fz_non, fz_bl, fz_int, fz_str, fz_tup, fz_scr, fz_lstT, fz_lst, fz_dcT, fz_dcK, wk_tup, wk_lst, wk_scr, wk_str, sI_tup, sI_lst, tr_bl, lt_int, gt_int, le_int, ge_int, eq_int, ne_int, eq_str, ne_str, ne_bl, eq_bl, add_int, sub_int, neg_int, g_int, g_abs, ix_tup, ix_lst, at0, at1, at2, g_len_tup, g_len_lst, List.getElem?_cons_zero, List.getElem?_cons_succ, List.set_cons_zero, List.set_cons_succ, List.length_cons, List.length_nil, List.map_cons, List.map_nil, List.replicate_succ, List.replicate_zero, List.cons_append, List.nil_append, List.head?_cons, List.tail_cons, Option.join_some, Option.map_some, if_true, if_false, ite_true, ite_false, reduceIte, reduceCtorEq, BEq.rfl, Bool.false_eq_true, Bool.not_true, Bool.not_false, List.all_cons, List.all_nil, Bool.and_true, Bool.true_and, Bool.and_self, true_and, and_true, exists_eq_left, exists_eq_left', D.bl.injEq, D.int.injEq, D.str.injEq, D.tup.injEq, Out.rt.injEq, Nat.lt_add_left_iff_pos, Nat.zero_lt_succ, Nat.reduceAdd, Nat.reduceLT, hp.imm]
  refine draw_w hp (by decide) (by decide) fun kind pa k0 k1 hp1 => ?_
  simp only [w_pC, w_pVar, w_pOwn, w_p1, w_p2, w_pSl, w_oNo, w_oSome, w_pTup, w_pCall, w_aNil, w_aCons, w_pIsi, w_pIsi2, w_eP, w_eMove, w_e1, w_e2, w_eTup, w_eLst, w_eFz, w_eCall, w_aNilE, w_aConsE, w_eIf, w_eComp, w_eDc, w_eDef, w_cNil, w_cVal, w_cBor, w_eMeth, w_eMetP, w_plVar, w_plIx, w_eSMet, w_yesT, w_tP, w_p2t, w_e2t, w_tTruP, w_tTru, w_tNo, w_tAnd2, w_tOr2, w_iSeq, w_iRange1, w_iRange2, w_iEnumE, rngD_len, w_gNm, w_gTup, w_gsNil, w_gsCons, w_gPut, w_sNil, w_sRet, w_sExpr, w_sAsg, w_sIf, w_sFor, w_sFz, ok_some, ok_map, takeB, giveB, outsOf, wipeE, im_non, im_bl, im_int, im_str, im_tup, im_scr, im_lst, im_dcK, im_dcT, fz_non, fz_bl, fz_int, fz_str, fz_tup, fz_scr, fz_lstT, fz_lst, fz_dcT, fz_dcK, wk_tup, wk_lst, wk_scr, wk_str, sI_tup, sI_lst, tr_bl, lt_int, gt_int, le_int, ge_int, eq_int, ne_int, eq_str, ne_str, ne_bl, eq_bl, add_int, sub_int, neg_int, g_int, g_abs, ix_tup, ix_lst, at0, at1, at2, g_len_tup, g_len_lst, List.getElem?_cons_zero, List.getElem?_cons_succ, List.set_cons_zero, List.set_cons_succ, List.length_cons, List.length_nil, List.map_cons, List.map_nil, List.replicate_succ, List.replicate_zero, List.cons_append, List.nil_append, List.head?_cons, List.tail_cons, Option.join_some, Option.map_some, if_true, if_false, ite_true, ite_false, reduceIte, reduceCtorEq, BEq.rfl, Bool.false_eq_true, Bool.not_true, Bool.not_false, List.all_cons, List.all_nil, Bool.and_true, Bool.true_and, Bool.and_self, true_and, and_true, exists_eq_left, exists_eq_left', D.bl.injEq, D.int.injEq, D.str.injEq, D.tup.injEq, Out.rt.injEq, Nat.lt_add_left_iff_pos, Nat.zero_lt_succ, Nat.reduceAdd, Nat.reduceLT, hp.imm]
  refine seq_ok ?_
  simp only [w_pC, w_pVar, w_pOwn, w_p1, w_p2, w_pSl, w_oNo, w_oSome, w_pTup, w_pCall, w_aNil, w_aCons, w_pIsi, w_pIsi2, w_eP, w_eMove, w_e1, w_e2, w_eTup, w_eLst, w_eFz, w_eCall, w_aNilE, w_aConsE, w_eIf, w_eComp, w_eDc, w_eDef, w_cNil, w_cVal, w_cBor, w_eMeth, w_eMetP, w_plVar, w_plIx, w_eSMet, w_yesT, w_tP, w_p2t, w_e2t, w_tTruP, w_tTru, w_tNo, w_tAnd2, w_tOr2, w_iSeq, w_iRange1, w_iRange2, w_iEnumE, rngD_len, w_gNm, w_gTup, w_gsNil, w_gsCons, w_gPut, w_sNil, w_sRet, w_sExpr, w_sAsg, w_sIf, w_sFor, w_sFz, ok_some, ok_map, takeB, giveB, outsOf, wipeE, im_non, im_bl, im_int, im_str, im_tup, im_scr, im_lst, im_dcK, im_dcT, fz_non, fz_bl, fz_int, fz_str, fz_tup, fz_scr, fz_lstT, fz_lst, fz_dcT, fz_dcK, wk_tup, wk_lst, wk_scr, wk_str, sI_tup, sI_lst, tr_bl, lt_int, gt_int, le_int, ge_int, eq_int, ne_int, eq_str, ne_str, ne_bl, eq_bl, add_int, sub_int, neg_int, g_int, g_abs, ix_tup, ix_lst, at0, at1, at2, g_len_tup, g_len_lst, List.getElem?_cons_zero, List.getElem?_cons_succ, List.set_cons_zero, List.set_cons_succ, List.length_cons, List.length_nil, List.map_cons, List.map_nil, List.replicate_succ, List.replicate_zero, List.cons_append, List.nil_append, List.head?_cons, List.tail_cons, Option.join_some, Option.map_some, if_true, if_false, ite_true, ite_false, reduceIte, reduceCtorEq, BEq.rfl, Bool.false_eq_true, Bool.not_true, Bool.not_false, List.all_cons, List.all_nil, Bool.and_true, Bool.true_and, Bool.and_self, true_and, and_true, exists_eq_left, exists_eq_left', D.bl.injEq, D.int.injEq, D.str.injEq, D.tup.injEq, Out.rt.injEq, Nat.lt_add_left_iff_pos, Nat.zero_lt_succ, Nat.reduceAdd, Nat.reduceLT]
  refine ⟨by decide, ?_⟩
  refine seq_ok ?_
  simp only [w_pC, w_pVar, w_pOwn, w_p1, w_p2, w_pSl, w_oNo, w_oSome, w_pTup, w_pCall, w_aNil, w_aCons, w_pIsi, w_pIsi2, w_eP, w_eMove, w_e1, w_e2, w_eTup, w_eLst, w_eFz, w_eCall, w_aNilE, w_aConsE, w_eIf, w_eComp, w_eDc, w_eDef, w_cNil, w_cVal, w_cBor, w_eMeth, w_eMetP, w_plVar, w_plIx, w_eSMet, w_yesT, w_tP, w_p2t, w_e2t, w_tTruP, w_tTru, w_tNo, w_tAnd2, w_tOr2, w_iSeq, w_iRange1, w_iRange2, w_iEnumE, rngD_len, w_gNm, w_gTup, w_gsNil, w_gsCons, w_gPut, w_sNil, w_sRet, w_sExpr, w_sAsg, w_sIf, w_sFor, w_sFz, ok_some, ok_map, takeB, giveB, outsOf, wipeE, im_non, im_bl, im_int, im_str, im_tup, im_scr, im_lst, im_dcK, im_dcT, fz_non, fz_bl, fz_int, fz_str, fz_tup, fz_scr, fz_lstT, fz_lst, fz_dcT, fz_dcK, wk_tup, wk_lst, wk_scr, wk_str, sI_tup, sI_lst, tr_bl, lt_int, gt_int, le_int, ge_int, eq_int, ne_int, eq_str, ne_str, ne_bl, eq_bl, add_int, sub_int, neg_int, g_int, g_abs, ix_tup, ix_lst, at0, at1, at2, g_len_tup, g_len_lst, List.getElem?_cons_zero, List.getElem?_cons_succ, List.set_cons_zero, List.set_cons_succ, List.length_cons, List.length_nil, List.map_cons, List.map_nil, List.replicate_succ, List.replicate_zero, List.cons_append, List.nil_append, List.head?_cons, List.tail_cons, Option.join_some, Option.map_some, if_true, if_false, ite_true, ite_false, reduceIte, reduceCtorEq, BEq.rfl, Bool.false_eq_true, Bool.not_true, Bool.not_false, List.all_cons, List.all_nil, Bool.and_true, Bool.true_and, Bool.and_self, true_and, and_true, exists_eq_left, exists_eq_left', D.bl.injEq, D.int.injEq, D.str.injEq, D.tup.injEq, Out.rt.injEq, Nat.lt_add_left_iff_pos, Nat.zero_lt_succ, Nat.reduceAdd, Nat.reduceLT]
  refine ⟨_, rfl, small_nat (by omega), ?_⟩
  refine for_ok (fun i e => ∃ p x5 x6 x7 x8, ∃ l : List Str, e = [some p, some (.int n), some (.str signsS), some (.int kind), some (.lst false (l.map D.str)), x5, x6, x7, x8, none, none] ∧ Pool p ∧ l.length = i ∧ ∀ s ∈ l, PyData.strOk s = true) ⟨pa, none, none, none, none, [], rfl, hp1, rfl, fun _ m => (nomatch m)⟩ ?_ ?_
  · rintro i d e hi ⟨p, x5, x6, x7, x8, l, rfl, hp, hl, hlo⟩
    obtain ⟨rfl, hin⟩ := rngD_at hi
    have hin : i < n := by simpa using hin
    have e0 : (0 : Int) + (i : Int) = i := by omega
    rw [e0]
    simp only [w_pC, w_pVar, w_pOwn, w_p1, w_p2, w_pSl, w_oNo, w_oSome, w_pTup, w_pCall, w_aNil, w_aCons, w_pIsi, w_pIsi2, w_eP, w_eMove, w_e1, w_e2, w_eTup, w_eLst, w_eFz, w_eCall, w_aNilE, w_aConsE, w_eIf, w_eComp, w_eDc, w_eDef, w_cNil, w_cVal, w_cBor, w_eMeth, w_eMetP, w_plVar, w_plIx, w_eSMet, w_yesT, w_tP, w_p2t, w_e2t, w_tTruP, w_tTru, w_tNo, w_tAnd2, w_tOr2, w_iSeq, w_iRange1, w_iRange2, w_iEnumE, rngD_len, w_gNm, w_gTup, w_gsNil, w_gsCons, w_gPut, w_sNil, w_sRet, w_sExpr, w_sAsg, w_sIf, w_sFor, w_sFz, ok_some, ok_map, takeB, giveB, outsOf, wipeE, im_non, im_bl, im_int, im_str, im_tup, im_scr, im_lst, im_dcK, im_dcT, fz_non, fz_bl, fz_int, fz_str, fz_tup, fz_scr, fz_lstT, fz_lst, fz_dcT, fz_dcK, wk_tup, wk_lst, wk_scr, wk_str, sI_tup, sI_lst, tr_bl, lt_int, gt_int, le_int, ge_int, eq_int, ne_int, eq_str, ne_str, ne_bl, eq_bl, add_int, sub_int, neg_int, g_int, g_abs, ix_tup, ix_lst, at0, at1, at2, g_len_tup, g_len_lst, List.getElem?_cons_zero, List.getElem?_cons_succ, List.set_cons_zero, List.set_cons_succ, List.length_cons, List.length_nil, List.map_cons, List.map_nil, List.replicate_succ, List.replicate_zero, List.cons_append, List.nil_append, List.head?_cons, List.tail_cons, Option.join_some, Option.map_some, if_true, if_false, ite_true, ite_false, reduceIte, reduceCtorEq, BEq.rfl, Bool.false_eq_true, Bool.not_true, Bool.not_false, List.all_cons, List.all_nil, Bool.and_true, Bool.true_and, Bool.and_self, true_and, and_true, exists_eq_left, exists_eq_left', D.bl.injEq, D.int.injEq, D.str.injEq, D.tup.injEq, Out.rt.injEq, Nat.lt_add_left_iff_pos, Nat.zero_lt_succ, Nat.reduceAdd, Nat.reduceLT]
    have m1 := mu_int (i := (i : Int)) (j := 7) (by omega) (by decide)
    have m2 := mu_int (i := kind) (j := 5) (by omega) (by decide)
    have b0 := Int.emod_nonneg ((i : Int) * 7 + kind * 5) (by decide : (26 : Int) ≠ 0)
    have b1 := Int.emod_lt_of_pos ((i : Int) * 7 + kind * 5) (by decide : (0 : Int) < 26)
    obtain ⟨c1, hc0, hc1⟩ := ix_strO (s := signsS) signs_ok b0 (by rw [signs_len]; omega) (by rw [signs_len]; decide)
    refine seq_ok ?_
    simp only [w_pC, w_pVar, w_pOwn, w_p1, w_p2, w_pSl, w_oNo, w_oSome, w_pTup, w_pCall, w_aNil, w_aCons, w_pIsi, w_pIsi2, w_eP, w_eMove, w_e1, w_e2, w_eTup, w_eLst, w_eFz, w_eCall, w_aNilE, w_aConsE, w_eIf, w_eComp, w_eDc, w_eDef, w_cNil, w_cVal, w_cBor, w_eMeth, w_eMetP, w_plVar, w_plIx, w_eSMet, w_yesT, w_tP, w_p2t, w_e2t, w_tTruP, w_tTru, w_tNo, w_tAnd2, w_tOr2, w_iSeq, w_iRange1, w_iRange2, w_iEnumE, rngD_len, w_gNm, w_gTup, w_gsNil, w_gsCons, w_gPut, w_sNil, w_sRet, w_sExpr, w_sAsg, w_sIf, w_sFor, w_sFz, ok_some, ok_map, takeB, giveB, outsOf, wipeE, im_non, im_bl, im_int, im_str, im_tup, im_scr, im_lst, im_dcK, im_dcT, fz_non, fz_bl, fz_int, fz_str, fz_tup, fz_scr, fz_lstT, fz_lst, fz_dcT, fz_dcK, wk_tup, wk_lst, wk_scr, wk_str, sI_tup, sI_lst, tr_bl, lt_int, gt_int, le_int, ge_int, eq_int, ne_int, eq_str, ne_str, ne_bl, eq_bl, add_int, sub_int, neg_int, g_int, g_abs, ix_tup, ix_lst, at0, at1, at2, g_len_tup, g_len_lst, List.getElem?_cons_zero, List.getElem?_cons_succ, List.set_cons_zero, List.set_cons_succ, List.length_cons, List.length_nil, List.map_cons, List.map_nil, List.replicate_succ, List.replicate_zero, List.cons_append, List.nil_append, List.head?_cons, List.tail_cons, Option.join_some, Option.map_some, if_true, if_false, ite_true, ite_false, reduceIte, reduceCtorEq, BEq.rfl, Bool.false_eq_true, Bool.not_true, Bool.not_false, List.all_cons, List.all_nil, Bool.and_true, Bool.true_and, Bool.and_self, true_and, and_true, exists_eq_left, exists_eq_left', D.bl.injEq, D.int.injEq, D.str.injEq, D.tup.injEq, Out.rt.injEq, Nat.lt_add_left_iff_pos, Nat.zero_lt_succ, Nat.reduceAdd, Nat.reduceLT, m1, m2, mod_int (show (0 : Int) < 26 by decide), hc1]
    refine seq_ok ?_
    simp only [w_pC, w_pVar, w_pOwn, w_p1, w_p2, w_pSl, w_oNo, w_oSome, w_pTup, w_pCall, w_aNil, w_aCons, w_pIsi, w_pIsi2, w_eP, w_eMove, w_e1, w_e2, w_eTup, w_eLst, w_eFz, w_eCall, w_aNilE, w_aConsE, w_eIf, w_eComp, w_eDc, w_eDef, w_cNil, w_cVal, w_cBor, w_eMeth, w_eMetP, w_plVar, w_plIx, w_eSMet, w_yesT, w_tP, w_p2t, w_e2t, w_tTruP, w_tTru, w_tNo, w_tAnd2, w_tOr2, w_iSeq, w_iRange1, w_iRange2, w_iEnumE, rngD_len, w_gNm, w_gTup, w_gsNil, w_gsCons, w_gPut, w_sNil, w_sRet, w_sExpr, w_sAsg, w_sIf, w_sFor, w_sFz, ok_some, ok_map, takeB, giveB, outsOf, wipeE, im_non, im_bl, im_int, im_str, im_tup, im_scr, im_lst, im_dcK, im_dcT, fz_non, fz_bl, fz_int, fz_str, fz_tup, fz_scr, fz_lstT, fz_lst, fz_dcT, fz_dcK, wk_tup, wk_lst, wk_scr, wk_str, sI_tup, sI_lst, tr_bl, lt_int, gt_int, le_int, ge_int, eq_int, ne_int, eq_str, ne_str, ne_bl, eq_bl, add_int, sub_int, neg_int, g_int, g_abs, ix_tup, ix_lst, at0, at1, at2, g_len_tup, g_len_lst, List.getElem?_cons_zero, List.getElem?_cons_succ, List.set_cons_zero, List.set_cons_succ, List.length_cons, List.length_nil, List.map_cons, List.map_nil, List.replicate_succ, List.replicate_zero, List.cons_append, List.nil_append, List.head?_cons, List.tail_cons, Option.join_some, Option.map_some, if_true, if_false, ite_true, ite_false, reduceIte, reduceCtorEq, BEq.rfl, Bool.false_eq_true, Bool.not_true, Bool.not_false, List.all_cons, List.all_nil, Bool.and_true, Bool.true_and, Bool.and_self, true_and, and_true, exists_eq_left, exists_eq_left', D.bl.injEq, D.int.injEq, D.str.injEq, D.tup.injEq, Out.rt.injEq, Nat.lt_add_left_iff_pos, Nat.zero_lt_succ, Nat.reduceAdd, Nat.reduceLT, hp.imm]
    refine ⟨by decide, draw_w hp (by decide) (by decide) fun r pb r0 r1 hp2 => ?_⟩
    obtain ⟨d, hd1, hd2⟩ := pick_list (ds := [.int 0, .int 0, .int 1, .int 2, .int 5]) (r := r) rfl r0 (by simpa using r1)
    obtain ⟨v, rfl, hv⟩ : ∃ v : Nat, d = .int v ∧ v ≤ 5 := by
      simp at hd1
      rcases hd1 with rfl | rfl | rfl | rfl
      · exact ⟨0, rfl, by omega⟩
      · exact ⟨1, rfl, by omega⟩
      · exact ⟨2, rfl, by omega⟩
      · exact ⟨5, rfl, by omega⟩
    simp only [w_pC, w_pVar, w_pOwn, w_p1, w_p2, w_pSl, w_oNo, w_oSome, w_pTup, w_pCall, w_aNil, w_aCons, w_pIsi, w_pIsi2, w_eP, w_eMove, w_e1, w_e2, w_eTup, w_eLst, w_eFz, w_eCall, w_aNilE, w_aConsE, w_eIf, w_eComp, w_eDc, w_eDef, w_cNil, w_cVal, w_cBor, w_eMeth, w_eMetP, w_plVar, w_plIx, w_eSMet, w_yesT, w_tP, w_p2t, w_e2t, w_tTruP, w_tTru, w_tNo, w_tAnd2, w_tOr2, w_iSeq, w_iRange1, w_iRange2, w_iEnumE, rngD_len, w_gNm, w_gTup, w_gsNil, w_gsCons, w_gPut, w_sNil, w_sRet, w_sExpr, w_sAsg, w_sIf, w_sFor, w_sFz, ok_some, ok_map, takeB, giveB, outsOf, wipeE, im_non, im_bl, im_int, im_str, im_tup, im_scr, im_lst, im_dcK, im_dcT, fz_non, fz_bl, fz_int, fz_str, fz_tup, fz_scr, fz_lstT, fz_lst, fz_dcT, fz_dcK, wk_tup, wk_lst, wk_scr, wk_str, sI_tup, sI_lst, tr_bl, lt_int, gt_int, le_int, ge_int, eq_int, ne_int, eq_str, ne_str, ne_bl, eq_bl, add_int, sub_int, neg_int, g_int, g_abs, ix_tup, ix_lst, at0, at1, at2, g_len_tup, g_len_lst, List.getElem?_cons_zero, List.getElem?_cons_succ, List.set_cons_zero, List.set_cons_succ, List.length_cons, List.length_nil, List.map_cons, List.map_nil, List.replicate_succ, List.replicate_zero, List.cons_append, List.nil_append, List.head?_cons, List.tail_cons, Option.join_some, Option.map_some, if_true, if_false, ite_true, ite_false, reduceIte, reduceCtorEq, BEq.rfl, Bool.false_eq_true, Bool.not_true, Bool.not_false, List.all_cons, List.all_nil, Bool.and_true, Bool.true_and, Bool.and_self, true_and, and_true, exists_eq_left, exists_eq_left', D.bl.injEq, D.int.injEq, D.str.injEq, D.tup.injEq, Out.rt.injEq, Nat.lt_add_left_iff_pos, Nat.zero_lt_succ, Nat.reduceAdd, Nat.reduceLT, hp.imm, hd2]
    refine ⟨_, rfl, small_nat (by omega), ?_⟩
    refine comp_ok (fun j e acc => ∃ p x10, ∃ ss : List Str, e = [some p, some (.int n), some (.str signsS), some (.int kind), some (.lst false (l.map D.str)), some (.int i), some (.str ⟨#[c1]⟩), x7, x8, none, x10] ∧ Pool p ∧ acc = ss.map D.str ∧ ss.length = j ∧ (ss.map (·.length)).sum = j ∧ ∀ s ∈ ss, PyData.strOk s = true) ⟨pb, none, [], rfl, hp2, rfl, rfl, rfl, fun _ m => (nomatch m)⟩ ?_ ?_
    · rintro j d e acc hj ⟨p, x10, ss, rfl, hp, rfl, hs, hs2, hso⟩
      obtain ⟨_, hjv⟩ := rngD_at hj
      simp only [wipeE, w_pC, w_pVar, w_pOwn, w_p1, w_p2, w_pSl, w_oNo, w_oSome, w_pTup, w_pCall, w_aNil, w_aCons, w_pIsi, w_pIsi2, w_eP, w_eMove, w_e1, w_e2, w_eTup, w_eLst, w_eFz, w_eCall, w_aNilE, w_aConsE, w_eIf, w_eComp, w_eDc, w_eDef, w_cNil, w_cVal, w_cBor, w_eMeth, w_eMetP, w_plVar, w_plIx, w_eSMet, w_yesT, w_tP, w_p2t, w_e2t, w_tTruP, w_tTru, w_tNo, w_tAnd2, w_tOr2, w_iSeq, w_iRange1, w_iRange2, w_iEnumE, rngD_len, w_gNm, w_gTup, w_gsNil, w_gsCons, w_gPut, w_sNil, w_sRet, w_sExpr, w_sAsg, w_sIf, w_sFor, w_sFz, ok_some, ok_map, takeB, giveB, outsOf, wipeE, im_non, im_bl, im_int, im_str, im_tup, im_scr, im_lst, im_dcK, im_dcT, fz_non, fz_bl, fz_int, fz_str, fz_tup, fz_scr, fz_lstT, fz_lst, fz_dcT, fz_dcK, wk_tup, wk_lst, wk_scr, wk_str, sI_tup, sI_lst, tr_bl, lt_int, gt_int, le_int, ge_int, eq_int, ne_int, eq_str, ne_str, ne_bl, eq_bl, add_int, sub_int, neg_int, g_int, g_abs, ix_tup, ix_lst, at0, at1, at2, g_len_tup, g_len_lst, List.getElem?_cons_zero, List.getElem?_cons_succ, List.set_cons_zero, List.set_cons_succ, List.length_cons, List.length_nil, List.map_cons, List.map_nil, List.replicate_succ, List.replicate_zero, List.cons_append, List.nil_append, List.head?_cons, List.tail_cons, Option.join_some, Option.map_some, if_true, if_false, ite_true, ite_false, reduceIte, reduceCtorEq, BEq.rfl, Bool.false_eq_true, Bool.not_true, Bool.not_false, List.all_cons, List.all_nil, Bool.and_true, Bool.true_and, Bool.and_self, true_and, and_true, exists_eq_left, exists_eq_left', D.bl.injEq, D.int.injEq, D.str.injEq, D.tup.injEq, Out.rt.injEq, Nat.lt_add_left_iff_pos, Nat.zero_lt_succ, Nat.reduceAdd, Nat.reduceLT, hp.imm]
      refine pick_wO hp signs_ok (by rw [signs_len]; decide) (by rw [signs_len]; decide) fun c p' hcc hp' => ?_
      simp only [w_pC, w_pVar, w_pOwn, w_p1, w_p2, w_pSl, w_oNo, w_oSome, w_pTup, w_pCall, w_aNil, w_aCons, w_pIsi, w_pIsi2, w_eP, w_eMove, w_e1, w_e2, w_eTup, w_eLst, w_eFz, w_eCall, w_aNilE, w_aConsE, w_eIf, w_eComp, w_eDc, w_eDef, w_cNil, w_cVal, w_cBor, w_eMeth, w_eMetP, w_plVar, w_plIx, w_eSMet, w_yesT, w_tP, w_p2t, w_e2t, w_tTruP, w_tTru, w_tNo, w_tAnd2, w_tOr2, w_iSeq, w_iRange1, w_iRange2, w_iEnumE, rngD_len, w_gNm, w_gTup, w_gsNil, w_gsCons, w_gPut, w_sNil, w_sRet, w_sExpr, w_sAsg, w_sIf, w_sFor, w_sFz, ok_some, ok_map, takeB, giveB, outsOf, wipeE, im_non, im_bl, im_int, im_str, im_tup, im_scr, im_lst, im_dcK, im_dcT, fz_non, fz_bl, fz_int, fz_str, fz_tup, fz_scr, fz_lstT, fz_lst, fz_dcT, fz_dcK, wk_tup, wk_lst, wk_scr, wk_str, sI_tup, sI_lst, tr_bl, lt_int, gt_int, le_int, ge_int, eq_int, ne_int, eq_str, ne_str, ne_bl, eq_bl, add_int, sub_int, neg_int, g_int, g_abs, ix_tup, ix_lst, at0, at1, at2, g_len_tup, g_len_lst, List.getElem?_cons_zero, List.getElem?_cons_succ, List.set_cons_zero, List.set_cons_succ, List.length_cons, List.length_nil, List.map_cons, List.map_nil, List.replicate_succ, List.replicate_zero, List.cons_append, List.nil_append, List.head?_cons, List.tail_cons, Option.join_some, Option.map_some, if_true, if_false, ite_true, ite_false, reduceIte, reduceCtorEq, BEq.rfl, Bool.false_eq_true, Bool.not_true, Bool.not_false, List.all_cons, List.all_nil, Bool.and_true, Bool.true_and, Bool.and_self, true_and, and_true, exists_eq_left, exists_eq_left', D.bl.injEq, D.int.injEq, D.str.injEq, D.tup.injEq, Out.rt.injEq, Nat.lt_add_left_iff_pos, Nat.zero_lt_succ, Nat.reduceAdd, Nat.reduceLT, hp.imm]
      refine ⟨by rw [List.length_map]; show ss.length < 16777216; omega, p', _, ss ++ [⟨#[c]⟩], rfl, hp', by simp, by simp [hs], by simp [hs2, one_len], fun s m => ?_⟩
      rcases List.mem_append.mp m with m | m
      · exact hso s m
      · have : s = ⟨#[c]⟩ := by simpa using m
        rw [this]; exact one_ok hcc
    · rintro e acc ⟨p3, x10, ss, rfl, hp3, rfl, hs, hs2, hso⟩
      rw [rngD_len] at hs hs2
      have hs3 : (ss.map (·.length)).sum ≤ 5 := by rw [hs2]; simpa using hv
      obtain ⟨body, hb1, hb2⟩ := join_str (z := false) (ss := ss) (by omega)
      have hbo : PyData.strOk body = true := by
        have e : body = Str.join ("" : Str) ss := by
          have z : mJoin "" [.lst false (ss.map D.str)] = some (.str (Txt.join "" ss)) := by
            show ((strsD (ss.map D.str)).bind fun ys => if (ys.map (·.length)).sum + ys.length * ("" : Str).length ≤ 16777216 then some (D.str (Txt.join "" ys)) else none) = _
            rw [strsD_map, Option.bind_some, if_pos (by rw [show ("" : Str).length = 0 by decide +kernel]; omega)]
          rw [hb1] at z
          have z := D.str.inj (Option.some.inj z)
          rw [z]
          exact eq_of_beq (PyProof.Rows.join_plain_closes ("" : Str) ss)
        rw [e]; exact join_ok hso
      simp only [w_pC, w_pVar, w_pOwn, w_p1, w_p2, w_pSl, w_oNo, w_oSome, w_pTup, w_pCall, w_aNil, w_aCons, w_pIsi, w_pIsi2, w_eP, w_eMove, w_e1, w_e2, w_eTup, w_eLst, w_eFz, w_eCall, w_aNilE, w_aConsE, w_eIf, w_eComp, w_eDc, w_eDef, w_cNil, w_cVal, w_cBor, w_eMeth, w_eMetP, w_plVar, w_plIx, w_eSMet, w_yesT, w_tP, w_p2t, w_e2t, w_tTruP, w_tTru, w_tNo, w_tAnd2, w_tOr2, w_iSeq, w_iRange1, w_iRange2, w_iEnumE, rngD_len, w_gNm, w_gTup, w_gsNil, w_gsCons, w_gPut, w_sNil, w_sRet, w_sExpr, w_sAsg, w_sIf, w_sFor, w_sFz, ok_some, ok_map, takeB, giveB, outsOf, wipeE, im_non, im_bl, im_int, im_str, im_tup, im_scr, im_lst, im_dcK, im_dcT, fz_non, fz_bl, fz_int, fz_str, fz_tup, fz_scr, fz_lstT, fz_lst, fz_dcT, fz_dcK, wk_tup, wk_lst, wk_scr, wk_str, sI_tup, sI_lst, tr_bl, lt_int, gt_int, le_int, ge_int, eq_int, ne_int, eq_str, ne_str, ne_bl, eq_bl, add_int, sub_int, neg_int, g_int, g_abs, ix_tup, ix_lst, at0, at1, at2, g_len_tup, g_len_lst, List.getElem?_cons_zero, List.getElem?_cons_succ, List.set_cons_zero, List.set_cons_succ, List.length_cons, List.length_nil, List.map_cons, List.map_nil, List.replicate_succ, List.replicate_zero, List.cons_append, List.nil_append, List.head?_cons, List.tail_cons, Option.join_some, Option.map_some, if_true, if_false, ite_true, ite_false, reduceIte, reduceCtorEq, BEq.rfl, Bool.false_eq_true, Bool.not_true, Bool.not_false, List.all_cons, List.all_nil, Bool.and_true, Bool.true_and, Bool.and_self, true_and, and_true, exists_eq_left, exists_eq_left', D.bl.injEq, D.int.injEq, D.str.injEq, D.tup.injEq, Out.rt.injEq, Nat.lt_add_left_iff_pos, Nat.zero_lt_succ, Nat.reduceAdd, Nat.reduceLT, wipeE, hb1]
      have b2 := Int.emod_nonneg (i : Int) (by decide : (36 : Int) ≠ 0)
      have b3 := Int.emod_lt_of_pos (i : Int) (by decide : (0 : Int) < 36)
      obtain ⟨c2, hc3, hc2⟩ := ix_strO (s := signsS) signs_ok b2 (by rw [signs_len]; omega) (by rw [signs_len]; decide)
      have b4 : (0 : Int) ≤ (i : Int) / 26 := by omega
      have b5 : (i : Int) / 26 < 2 := by omega
      obtain ⟨d, hd3, hd4⟩ := pick_list (ds := [.str "", .str "0"]) (r := (i : Int) / 26) rfl b4 (by simpa using b5)
      obtain ⟨t, rfl, ht, hto⟩ : ∃ t : Str, d = .str t ∧ t.length ≤ 1 ∧ PyData.strOk t = true := by
        simp at hd3
        rcases hd3 with rfl | rfl
        · exact ⟨"", rfl, by decide +kernel, by decide +kernel⟩
        · exact ⟨"0", rfl, by decide +kernel, by decide +kernel⟩
      have hbl : body.length ≤ 5 := by omega
      -- the name
      have name : ∀ R : Out × Env → Prop, (∀ nm : Str, PyData.strOk nm = true → R (.nx, [some p3, some (.int n), some (.str signsS), some (.int kind), some (.lst false (l.map D.str)), some (.int i), some (.str ⟨#[c1]⟩), some (.str body), some (.str nm), none, none])) →
          Ok ((sAsg (eFz (eIf (tP (p2t dEq (pVar 3) (pC (.int 0)))) (eP (p2 dAdd (p2 dAdd (pVar 6) (p2 dIx (pVar 2) (p2 dMod (pVar 5) (pC (.int 36))))) (pVar 7))) (e2 dAdd (e2 dAdd (eP (p2 dAdd (pVar 6) (pVar 7))) (e2 dIxI (eLst (aConsE (eP (pC (.str ""))) (aConsE (eP (pC (.str "0"))) aNilE))) (eP (p2 dDiv (pVar 5) (pC (.int 26)))))) (eP (pOwn (p2 dIx (pVar 2) (p2 dMod (pVar 5) (pC (.int 36))))))))) (gNm 8))
            [some p3, some (.int n), some (.str signsS), some (.int kind), some (.lst false (l.map D.str)), some (.int i), some (.str ⟨#[c1]⟩), some (.str body), x8, none, none]) R := by
        intro R hR
        by_cases hk : kind = 0
        · have a1 := add_str (a := ⟨#[c1]⟩) (b := ⟨#[c2]⟩) (by rw [one_len, one_len]; decide)
          have a2 := add_str (a := ⟨#[c1]⟩ ++ ⟨#[c2]⟩) (b := body) (by rw [Str.length_append, one_len, one_len]; omega)
          simp only [w_pC, w_pVar, w_pOwn, w_p1, w_p2, w_pSl, w_oNo, w_oSome, w_pTup, w_pCall, w_aNil, w_aCons, w_pIsi, w_pIsi2, w_eP, w_eMove, w_e1, w_e2, w_eTup, w_eLst, w_eFz, w_eCall, w_aNilE, w_aConsE, w_eIf, w_eComp, w_eDc, w_eDef, w_cNil, w_cVal, w_cBor, w_eMeth, w_eMetP, w_plVar, w_plIx, w_eSMet, w_yesT, w_tP, w_p2t, w_e2t, w_tTruP, w_tTru, w_tNo, w_tAnd2, w_tOr2, w_iSeq, w_iRange1, w_iRange2, w_iEnumE, rngD_len, w_gNm, w_gTup, w_gsNil, w_gsCons, w_gPut, w_sNil, w_sRet, w_sExpr, w_sAsg, w_sIf, w_sFor, w_sFz, ok_some, ok_map, takeB, giveB, outsOf, wipeE, im_non, im_bl, im_int, im_str, im_tup, im_scr, im_lst, im_dcK, im_dcT, fz_non, fz_bl, fz_int, fz_str, fz_tup, fz_scr, fz_lstT, fz_lst, fz_dcT, fz_dcK, wk_tup, wk_lst, wk_scr, wk_str, sI_tup, sI_lst, tr_bl, lt_int, gt_int, le_int, ge_int, eq_int, ne_int, eq_str, ne_str, ne_bl, eq_bl, add_int, sub_int, neg_int, g_int, g_abs, ix_tup, ix_lst, at0, at1, at2, g_len_tup, g_len_lst, List.getElem?_cons_zero, List.getElem?_cons_succ, List.set_cons_zero, List.set_cons_succ, List.length_cons, List.length_nil, List.map_cons, List.map_nil, List.replicate_succ, List.replicate_zero, List.cons_append, List.nil_append, List.head?_cons, List.tail_cons, Option.join_some, Option.map_some, if_true, if_false, ite_true, ite_false, reduceIte, reduceCtorEq, BEq.rfl, Bool.false_eq_true, Bool.not_true, Bool.not_false, List.all_cons, List.all_nil, Bool.and_true, Bool.true_and, Bool.and_self, true_and, and_true, exists_eq_left, exists_eq_left', D.bl.injEq, D.int.injEq, D.str.injEq, D.tup.injEq, Out.rt.injEq, Nat.lt_add_left_iff_pos, Nat.zero_lt_succ, Nat.reduceAdd, Nat.reduceLT, beq_iff_eq.mpr hk, mod_int (show (0 : Int) < 36 by decide), hc2, a1, a2]
          exact hR _ (app_ok (app_ok (one_ok hc0) (one_ok hc3)) hbo)
        · have a1 := add_str (a := ⟨#[c1]⟩) (b := body) (by rw [one_len]; omega)
          have a2 := add_str (a := ⟨#[c1]⟩ ++ body) (b := t) (by rw [Str.length_append, one_len]; omega)
          have a3 := add_str (a := ⟨#[c1]⟩ ++ body ++ t) (b := ⟨#[c2]⟩) (by rw [Str.length_append, Str.length_append, one_len, one_len]; omega)
          simp only [w_pC, w_pVar, w_pOwn, w_p1, w_p2, w_pSl, w_oNo, w_oSome, w_pTup, w_pCall, w_aNil, w_aCons, w_pIsi, w_pIsi2, w_eP, w_eMove, w_e1, w_e2, w_eTup, w_eLst, w_eFz, w_eCall, w_aNilE, w_aConsE, w_eIf, w_eComp, w_eDc, w_eDef, w_cNil, w_cVal, w_cBor, w_eMeth, w_eMetP, w_plVar, w_plIx, w_eSMet, w_yesT, w_tP, w_p2t, w_e2t, w_tTruP, w_tTru, w_tNo, w_tAnd2, w_tOr2, w_iSeq, w_iRange1, w_iRange2, w_iEnumE, rngD_len, w_gNm, w_gTup, w_gsNil, w_gsCons, w_gPut, w_sNil, w_sRet, w_sExpr, w_sAsg, w_sIf, w_sFor, w_sFz, ok_some, ok_map, takeB, giveB, outsOf, wipeE, im_non, im_bl, im_int, im_str, im_tup, im_scr, im_lst, im_dcK, im_dcT, fz_non, fz_bl, fz_int, fz_str, fz_tup, fz_scr, fz_lstT, fz_lst, fz_dcT, fz_dcK, wk_tup, wk_lst, wk_scr, wk_str, sI_tup, sI_lst, tr_bl, lt_int, gt_int, le_int, ge_int, eq_int, ne_int, eq_str, ne_str, ne_bl, eq_bl, add_int, sub_int, neg_int, g_int, g_abs, ix_tup, ix_lst, at0, at1, at2, g_len_tup, g_len_lst, List.getElem?_cons_zero, List.getElem?_cons_succ, List.set_cons_zero, List.set_cons_succ, List.length_cons, List.length_nil, List.map_cons, List.map_nil, List.replicate_succ, List.replicate_zero, List.cons_append, List.nil_append, List.head?_cons, List.tail_cons, Option.join_some, Option.map_some, if_true, if_false, ite_true, ite_false, reduceIte, reduceCtorEq, BEq.rfl, Bool.false_eq_true, Bool.not_true, Bool.not_false, List.all_cons, List.all_nil, Bool.and_true, Bool.true_and, Bool.and_self, true_and, and_true, exists_eq_left, exists_eq_left', D.bl.injEq, D.int.injEq, D.str.injEq, D.tup.injEq, Out.rt.injEq, Nat.lt_add_left_iff_pos, Nat.zero_lt_succ, Nat.reduceAdd, Nat.reduceLT, beq_eq_false_iff_ne.mpr hk, mod_int (show (0 : Int) < 36 by decide), div_int (show (0 : Int) < 26 by decide) (by decide), hc2, a1, a2, a3, hd4]
          exact ⟨by decide, hR _ (app_ok (app_ok (app_ok (one_ok hc0) hbo) hto) (one_ok hc3))⟩
      refine seq_ok (name _ fun nm hnm => ⟨rfl, ?_⟩)
      have hll : (l.map D.str).length < 16777216 := by rw [List.length_map]; omega
      have fin : ∀ (p4 : D) (z : Str), Pool p4 → PyData.strOk z = true → ∃ p x5 x6 x7 x8, ∃ l' : List Str, [some p4, some (D.int n), some (.str signsS), some (.int kind), some (.lst false (l.map D.str ++ [.str z])), some (.int i), some (.str ⟨#[c1]⟩), some (.str body), some (.str nm), none, none] = [some p, some (D.int n), some (.str signsS), some (.int kind), some (.lst false (l'.map D.str)), x5, x6, x7, x8, none, none] ∧ Pool p ∧ l'.length = i + 1 ∧ ∀ s ∈ l', PyData.strOk s = true :=
        fun p4 z h4 hzo => ⟨p4, some (.int i), some (.str ⟨#[c1]⟩), some (.str body), some (.str nm), l ++ [z], by simp, h4, by simp [hl], fun s m => by
          rcases List.mem_append.mp m with m | m
          · exact hlo s m
          · have : s = z := by simpa using m
            rw [this]; exact hzo⟩
      have rl : okRecv "list" (.lst false (l.map D.str)) = true := rfl
      by_cases hk : kind = 2
      · by_cases hi26 : (i : Int) < 26
        · simp only [w_pC, w_pVar, w_pOwn, w_p1, w_p2, w_pSl, w_oNo, w_oSome, w_pTup, w_pCall, w_aNil, w_aCons, w_pIsi, w_pIsi2, w_eP, w_eMove, w_e1, w_e2, w_eTup, w_eLst, w_eFz, w_eCall, w_aNilE, w_aConsE, w_eIf, w_eComp, w_eDc, w_eDef, w_cNil, w_cVal, w_cBor, w_eMeth, w_eMetP, w_plVar, w_plIx, w_eSMet, w_yesT, w_tP, w_p2t, w_e2t, w_tTruP, w_tTru, w_tNo, w_tAnd2, w_tOr2, w_iSeq, w_iRange1, w_iRange2, w_iEnumE, rngD_len, w_gNm, w_gTup, w_gsNil, w_gsCons, w_gPut, w_sNil, w_sRet, w_sExpr, w_sAsg, w_sIf, w_sFor, w_sFz, ok_some, ok_map, takeB, giveB, outsOf, wipeE, im_non, im_bl, im_int, im_str, im_tup, im_scr, im_lst, im_dcK, im_dcT, fz_non, fz_bl, fz_int, fz_str, fz_tup, fz_scr, fz_lstT, fz_lst, fz_dcT, fz_dcK, wk_tup, wk_lst, wk_scr, wk_str, sI_tup, sI_lst, tr_bl, lt_int, gt_int, le_int, ge_int, eq_int, ne_int, eq_str, ne_str, ne_bl, eq_bl, add_int, sub_int, neg_int, g_int, g_abs, ix_tup, ix_lst, at0, at1, at2, g_len_tup, g_len_lst, List.getElem?_cons_zero, List.getElem?_cons_succ, List.set_cons_zero, List.set_cons_succ, List.length_cons, List.length_nil, List.map_cons, List.map_nil, List.replicate_succ, List.replicate_zero, List.cons_append, List.nil_append, List.head?_cons, List.tail_cons, Option.join_some, Option.map_some, if_true, if_false, ite_true, ite_false, reduceIte, reduceCtorEq, BEq.rfl, Bool.false_eq_true, Bool.not_true, Bool.not_false, List.all_cons, List.all_nil, Bool.and_true, Bool.true_and, Bool.and_self, true_and, and_true, exists_eq_left, exists_eq_left', D.bl.injEq, D.int.injEq, D.str.injEq, D.tup.injEq, Out.rt.injEq, Nat.lt_add_left_iff_pos, Nat.zero_lt_succ, Nat.reduceAdd, Nat.reduceLT, beq_iff_eq.mpr hk, hi26, decide_true, hp3.imm, rl]
          refine draw_w hp3 (by decide) (by decide) fun r4 p4 _ _ hp4 => ?_
          by_cases hr : r4 = 0
          · simp only [w_pC, w_pVar, w_pOwn, w_p1, w_p2, w_pSl, w_oNo, w_oSome, w_pTup, w_pCall, w_aNil, w_aCons, w_pIsi, w_pIsi2, w_eP, w_eMove, w_e1, w_e2, w_eTup, w_eLst, w_eFz, w_eCall, w_aNilE, w_aConsE, w_eIf, w_eComp, w_eDc, w_eDef, w_cNil, w_cVal, w_cBor, w_eMeth, w_eMetP, w_plVar, w_plIx, w_eSMet, w_yesT, w_tP, w_p2t, w_e2t, w_tTruP, w_tTru, w_tNo, w_tAnd2, w_tOr2, w_iSeq, w_iRange1, w_iRange2, w_iEnumE, rngD_len, w_gNm, w_gTup, w_gsNil, w_gsCons, w_gPut, w_sNil, w_sRet, w_sExpr, w_sAsg, w_sIf, w_sFor, w_sFz, ok_some, ok_map, takeB, giveB, outsOf, wipeE, im_non, im_bl, im_int, im_str, im_tup, im_scr, im_lst, im_dcK, im_dcT, fz_non, fz_bl, fz_int, fz_str, fz_tup, fz_scr, fz_lstT, fz_lst, fz_dcT, fz_dcK, wk_tup, wk_lst, wk_scr, wk_str, sI_tup, sI_lst, tr_bl, lt_int, gt_int, le_int, ge_int, eq_int, ne_int, eq_str, ne_str, ne_bl, eq_bl, add_int, sub_int, neg_int, g_int, g_abs, ix_tup, ix_lst, at0, at1, at2, g_len_tup, g_len_lst, List.getElem?_cons_zero, List.getElem?_cons_succ, List.set_cons_zero, List.set_cons_succ, List.length_cons, List.length_nil, List.map_cons, List.map_nil, List.replicate_succ, List.replicate_zero, List.cons_append, List.nil_append, List.head?_cons, List.tail_cons, Option.join_some, Option.map_some, if_true, if_false, ite_true, ite_false, reduceIte, reduceCtorEq, BEq.rfl, Bool.false_eq_true, Bool.not_true, Bool.not_false, List.all_cons, List.all_nil, Bool.and_true, Bool.true_and, Bool.and_self, true_and, and_true, exists_eq_left, exists_eq_left', D.bl.injEq, D.int.injEq, D.str.injEq, D.tup.injEq, Out.rt.injEq, Nat.lt_add_left_iff_pos, Nat.zero_lt_succ, Nat.reduceAdd, Nat.reduceLT, beq_iff_eq.mpr hr, hp3.imm, app_lst hll]
            exact fin p4 _ hp4 (one_ok hc0)
          · simp only [w_pC, w_pVar, w_pOwn, w_p1, w_p2, w_pSl, w_oNo, w_oSome, w_pTup, w_pCall, w_aNil, w_aCons, w_pIsi, w_pIsi2, w_eP, w_eMove, w_e1, w_e2, w_eTup, w_eLst, w_eFz, w_eCall, w_aNilE, w_aConsE, w_eIf, w_eComp, w_eDc, w_eDef, w_cNil, w_cVal, w_cBor, w_eMeth, w_eMetP, w_plVar, w_plIx, w_eSMet, w_yesT, w_tP, w_p2t, w_e2t, w_tTruP, w_tTru, w_tNo, w_tAnd2, w_tOr2, w_iSeq, w_iRange1, w_iRange2, w_iEnumE, rngD_len, w_gNm, w_gTup, w_gsNil, w_gsCons, w_gPut, w_sNil, w_sRet, w_sExpr, w_sAsg, w_sIf, w_sFor, w_sFz, ok_some, ok_map, takeB, giveB, outsOf, wipeE, im_non, im_bl, im_int, im_str, im_tup, im_scr, im_lst, im_dcK, im_dcT, fz_non, fz_bl, fz_int, fz_str, fz_tup, fz_scr, fz_lstT, fz_lst, fz_dcT, fz_dcK, wk_tup, wk_lst, wk_scr, wk_str, sI_tup, sI_lst, tr_bl, lt_int, gt_int, le_int, ge_int, eq_int, ne_int, eq_str, ne_str, ne_bl, eq_bl, add_int, sub_int, neg_int, g_int, g_abs, ix_tup, ix_lst, at0, at1, at2, g_len_tup, g_len_lst, List.getElem?_cons_zero, List.getElem?_cons_succ, List.set_cons_zero, List.set_cons_succ, List.length_cons, List.length_nil, List.map_cons, List.map_nil, List.replicate_succ, List.replicate_zero, List.cons_append, List.nil_append, List.head?_cons, List.tail_cons, Option.join_some, Option.map_some, if_true, if_false, ite_true, ite_false, reduceIte, reduceCtorEq, BEq.rfl, Bool.false_eq_true, Bool.not_true, Bool.not_false, List.all_cons, List.all_nil, Bool.and_true, Bool.true_and, Bool.and_self, true_and, and_true, exists_eq_left, exists_eq_left', D.bl.injEq, D.int.injEq, D.str.injEq, D.tup.injEq, Out.rt.injEq, Nat.lt_add_left_iff_pos, Nat.zero_lt_succ, Nat.reduceAdd, Nat.reduceLT, beq_eq_false_iff_ne.mpr hr, hp3.imm, app_lst hll]
            exact fin p4 _ hp4 hnm
        · simp only [w_pC, w_pVar, w_pOwn, w_p1, w_p2, w_pSl, w_oNo, w_oSome, w_pTup, w_pCall, w_aNil, w_aCons, w_pIsi, w_pIsi2, w_eP, w_eMove, w_e1, w_e2, w_eTup, w_eLst, w_eFz, w_eCall, w_aNilE, w_aConsE, w_eIf, w_eComp, w_eDc, w_eDef, w_cNil, w_cVal, w_cBor, w_eMeth, w_eMetP, w_plVar, w_plIx, w_eSMet, w_yesT, w_tP, w_p2t, w_e2t, w_tTruP, w_tTru, w_tNo, w_tAnd2, w_tOr2, w_iSeq, w_iRange1, w_iRange2, w_iEnumE, rngD_len, w_gNm, w_gTup, w_gsNil, w_gsCons, w_gPut, w_sNil, w_sRet, w_sExpr, w_sAsg, w_sIf, w_sFor, w_sFz, ok_some, ok_map, takeB, giveB, outsOf, wipeE, im_non, im_bl, im_int, im_str, im_tup, im_scr, im_lst, im_dcK, im_dcT, fz_non, fz_bl, fz_int, fz_str, fz_tup, fz_scr, fz_lstT, fz_lst, fz_dcT, fz_dcK, wk_tup, wk_lst, wk_scr, wk_str, sI_tup, sI_lst, tr_bl, lt_int, gt_int, le_int, ge_int, eq_int, ne_int, eq_str, ne_str, ne_bl, eq_bl, add_int, sub_int, neg_int, g_int, g_abs, ix_tup, ix_lst, at0, at1, at2, g_len_tup, g_len_lst, List.getElem?_cons_zero, List.getElem?_cons_succ, List.set_cons_zero, List.set_cons_succ, List.length_cons, List.length_nil, List.map_cons, List.map_nil, List.replicate_succ, List.replicate_zero, List.cons_append, List.nil_append, List.head?_cons, List.tail_cons, Option.join_some, Option.map_some, if_true, if_false, ite_true, ite_false, reduceIte, reduceCtorEq, BEq.rfl, Bool.false_eq_true, Bool.not_true, Bool.not_false, List.all_cons, List.all_nil, Bool.and_true, Bool.true_and, Bool.and_self, true_and, and_true, exists_eq_left, exists_eq_left', D.bl.injEq, D.int.injEq, D.str.injEq, D.tup.injEq, Out.rt.injEq, Nat.lt_add_left_iff_pos, Nat.zero_lt_succ, Nat.reduceAdd, Nat.reduceLT, beq_iff_eq.mpr hk, hi26, decide_false, hp3.imm, rl, app_lst hll]
          exact fin p3 _ hp3 hnm
      · simp only [w_pC, w_pVar, w_pOwn, w_p1, w_p2, w_pSl, w_oNo, w_oSome, w_pTup, w_pCall, w_aNil, w_aCons, w_pIsi, w_pIsi2, w_eP, w_eMove, w_e1, w_e2, w_eTup, w_eLst, w_eFz, w_eCall, w_aNilE, w_aConsE, w_eIf, w_eComp, w_eDc, w_eDef, w_cNil, w_cVal, w_cBor, w_eMeth, w_eMetP, w_plVar, w_plIx, w_eSMet, w_yesT, w_tP, w_p2t, w_e2t, w_tTruP, w_tTru, w_tNo, w_tAnd2, w_tOr2, w_iSeq, w_iRange1, w_iRange2, w_iEnumE, rngD_len, w_gNm, w_gTup, w_gsNil, w_gsCons, w_gPut, w_sNil, w_sRet, w_sExpr, w_sAsg, w_sIf, w_sFor, w_sFz, ok_some, ok_map, takeB, giveB, outsOf, wipeE, im_non, im_bl, im_int, im_str, im_tup, im_scr, im_lst, im_dcK, im_dcT, fz_non, fz_bl, fz_int, fz_str, fz_tup, fz_scr, fz_lstT, fz_lst, fz_dcT, fz_dcK, wk_tup, wk_lst, wk_scr, wk_str, sI_tup, sI_lst, tr_bl, lt_int, gt_int, le_int, ge_int, eq_int, ne_int, eq_str, ne_str, ne_bl, eq_bl, add_int, sub_int, neg_int, g_int, g_abs, ix_tup, ix_lst, at0, at1, at2, g_len_tup, g_len_lst, List.getElem?_cons_zero, List.getElem?_cons_succ, List.set_cons_zero, List.set_cons_succ, List.length_cons, List.length_nil, List.map_cons, List.map_nil, List.replicate_succ, List.replicate_zero, List.cons_append, List.nil_append, List.head?_cons, List.tail_cons, Option.join_some, Option.map_some, if_true, if_false, ite_true, ite_false, reduceIte, reduceCtorEq, BEq.rfl, Bool.false_eq_true, Bool.not_true, Bool.not_false, List.all_cons, List.all_nil, Bool.and_true, Bool.true_and, Bool.and_self, true_and, and_true, exists_eq_left, exists_eq_left', D.bl.injEq, D.int.injEq, D.str.injEq, D.tup.injEq, Out.rt.injEq, Nat.lt_add_left_iff_pos, Nat.zero_lt_succ, Nat.reduceAdd, Nat.reduceLT, beq_eq_false_iff_ne.mpr hk, hp3.imm, rl, app_lst hll]
        exact fin p3 _ hp3 hnm
  · rintro e ⟨p5, x5, x6, x7, x8, l, rfl, hp5, hl, hlo⟩
    refine ⟨rfl, ?_⟩
    rw [rngD_len] at hl
    have hl : l.length = n := by simpa using hl
    obtain ⟨l', h1, h2, h3⟩ := sorted_strs l (by omega)
    simp only [w_pC, w_pVar, w_pOwn, w_p1, w_p2, w_pSl, w_oNo, w_oSome, w_pTup, w_pCall, w_aNil, w_aCons, w_pIsi, w_pIsi2, w_eP, w_eMove, w_e1, w_e2, w_eTup, w_eLst, w_eFz, w_eCall, w_aNilE, w_aConsE, w_eIf, w_eComp, w_eDc, w_eDef, w_cNil, w_cVal, w_cBor, w_eMeth, w_eMetP, w_plVar, w_plIx, w_eSMet, w_yesT, w_tP, w_p2t, w_e2t, w_tTruP, w_tTru, w_tNo, w_tAnd2, w_tOr2, w_iSeq, w_iRange1, w_iRange2, w_iEnumE, rngD_len, w_gNm, w_gTup, w_gsNil, w_gsCons, w_gPut, w_sNil, w_sRet, w_sExpr, w_sAsg, w_sIf, w_sFor, w_sFz, ok_some, ok_map, takeB, giveB, outsOf, wipeE, im_non, im_bl, im_int, im_str, im_tup, im_scr, im_lst, im_dcK, im_dcT, fz_non, fz_bl, fz_int, fz_str, fz_tup, fz_scr, fz_lstT, fz_lst, fz_dcT, fz_dcK, wk_tup, wk_lst, wk_scr, wk_str, sI_tup, sI_lst, tr_bl, lt_int, gt_int, le_int, ge_int, eq_int, ne_int, eq_str, ne_str, ne_bl, eq_bl, add_int, sub_int, neg_int, g_int, g_abs, ix_tup, ix_lst, at0, at1, at2, g_len_tup, g_len_lst, List.getElem?_cons_zero, List.getElem?_cons_succ, List.set_cons_zero, List.set_cons_succ, List.length_cons, List.length_nil, List.map_cons, List.map_nil, List.replicate_succ, List.replicate_zero, List.cons_append, List.nil_append, List.head?_cons, List.tail_cons, Option.join_some, Option.map_some, if_true, if_false, ite_true, ite_false, reduceIte, reduceCtorEq, BEq.rfl, Bool.false_eq_true, Bool.not_true, Bool.not_false, List.all_cons, List.all_nil, Bool.and_true, Bool.true_and, Bool.and_self, true_and, and_true, exists_eq_left, exists_eq_left', D.bl.injEq, D.int.injEq, D.str.injEq, D.tup.injEq, Out.rt.injEq, Nat.lt_add_left_iff_pos, Nat.zero_lt_succ, Nat.reduceAdd, Nat.reduceLT, h2]
    exact q l' p5 (by rw [h1, hl]) (fun s m => hlo s (h3 s m)) hp5

/-! ### sheets -/
structure Sheet where
  row : List Int
  rest : Int
  works : List (Str × Int × Int)
  ties : List (Str × Str × Int)
def workD (w : Str × Int × Int) : D := .tup [.str w.1, .int w.2.1, .int w.2.2]
def tieD (t : Str × Str × Int) : D := .tup [.str t.1, .str t.2.1, .int t.2.2]
def sheetD (S : Sheet) : D := .tup [.tup [.tup (S.row.map D.int), .int S.rest], .tup (S.works.map workD), .tup (S.ties.map tieD)]
structure Sheet.Fine (S : Sheet) : Prop where
  row : S.row.length ≤ 1000
  pos : ∀ x ∈ S.row, 0 ≤ x
  sml : ∀ x ∈ S.row, x ≤ 1000
  works : S.works.length ≤ 40
  ties : S.ties.length ≤ 200
  oks : ∀ t ∈ S.ties, PyData.strOk t.1 = true ∧ PyData.strOk t.2.1 = true
theorem fzs_map {α : Type} {f : α → D} (l : List α) (h : ∀ a, fz (f a) = f a) : fzs (l.map f) = l.map f := fzs_imm fun d m => by
  obtain ⟨a, _, rfl⟩ := List.mem_map.mp m
  exact h a
theorem sorted_any {α : Type} {f : α → D} (l : List α) (h : l.length ≤ 16777216) (hi : ∀ a, isImm (f a) = true) (hn : ∀ a, nodic (f a) = true) (hal : ∀ a b, PySem.W.alike (py (f a)) (py (f b)) = true) (ht : ∀ a, tupNe (f a) = true) (hd : ∀ a, (py (f a)).depth ≤ 20) :
    ∃ l' : List α, l'.length = l.length ∧ gSorted [.lst false (l.map f)] = some (.lst false (l'.map f)) ∧ ∀ d ∈ l'.map f, d ∈ l.map f := by
  have h1 : ((l.map f).all isImm = true ∧ nodics (l.map f) = true) ∧ alikeB (l.map f) = true ∧ ((l.map f).all tupNe = true ∨ (l.map f).all notTup = true) ∧ (l.map f).length ≤ szL ∧ ((l.map f).all fun z => decide ((py z).depth ≤ 20)) = true :=
    ⟨⟨all_map _ hi, nodics_all fun d m => by obtain ⟨a, _, rfl⟩ := List.mem_map.mp m; exact hn a⟩, by unfold alikeB; simp [List.all_eq_true, hal], .inl (all_map _ ht), by rw [List.length_map]; exact h, all_map _ fun a => by simp [hd a]⟩
  have key : ∀ ds : List D, (∀ d ∈ ds, ∃ a, d = f a) → ∃ l' : List α, ds = l'.map f := fun ds => by
    induction ds with
    | nil => exact fun _ => ⟨[], rfl⟩
    | cons d ds ih =>
      intro h
      obtain ⟨s, rfl⟩ := h d List.mem_cons_self
      obtain ⟨l', rfl⟩ := ih fun e m => h e (List.mem_cons_of_mem _ m)
      exact ⟨s :: l', rfl⟩
  obtain ⟨l', hl'⟩ := key ((l.map f).mergeSort leD) fun d m => by
    obtain ⟨a, _, rfl⟩ := List.mem_map.mp (List.mem_mergeSort.mp m)
    exact ⟨a, rfl⟩
  refine ⟨l', ?_, ?_, fun d m => ?_⟩
  · have := congrArg List.length hl'
    simpa using this.symm
  · show (if _ then some (D.lst false ((l.map f).mergeSort leD)) else none) = _
    rw [if_pos h1, hl']
  · rw [← hl'] at m
    exact List.mem_mergeSort.mp m
theorem pick_ints {r : Int} (vs : List Int) (h0 : 0 ≤ r) (h1 : r < vs.length) : ∃ v : Int, dIxI (.lst false (vs.map D.int)) (.int r) = some (.int v) := by
  obtain ⟨d, m, e⟩ := pick_list (ds := vs.map D.int) (ints_imm vs) h0 (by simpa using h1)
  obtain ⟨v, _, rfl⟩ := List.mem_map.mp m
  exact ⟨v, e⟩
theorem at_map {α : Type} {f : α → D} {l : List α} {i : Nat} (h : i < l.length) : L2.atI (l.map f) (i : Int) = some (f l[i]) := by
  rw [at_nat (by simpa using h)]; simp
theorem g_max {i j : Int} : gMax [.int i, .int j] = some (.int (if i < j then j else i)) := rfl
theorem g_min {i j : Int} : gMin [.int i, .int j] = some (.int (if j < i then j else i)) := rfl
theorem lt_tup {a b c d : Int} : dLtX (.tup [.int a, .int b]) (.tup [.int c, .int d]) = some (.bl (HT.lexLt [a, b] [c, d])) := rfl
theorem sheet_w {p : D} {n L most : Nat} {Q : D × List (Option D) → Prop} (hp : Pool p) (hn : n ≤ 40) (hL : L ≤ 1000) (hm : most ≤ 1000) (q : ∀ (S : Sheet) p', S.Fine → Pool p' → Q (sheetD S, [some p', some (.int n), some (.int L), some (.int most)])) : Ok (F__law_sheet [p, .int n, .int L, .int most]) Q := by
  refine fn_ok rfl ?_
  unfold B__law_sheet
  simp only [List.map_cons, List.map_nil, List.replicate_succ, List.replicate_zero, List.cons_append, List.nil_append]
  refine seq_ok ?_
  simp only [w_pC, w_pVar, w_pOwn, w_p1, w_p2, w_pSl, w_oNo, w_oSome, w_pTup, w_pCall, w_aNil, w_aCons, w_pIsi, w_pIsi2, w_eP, w_eMove, w_e1, w_e2, w_eTup, w_eLst, w_eFz, w_eCall, w_aNilE, w_aConsE, w_eIf, w_eComp, w_eDc, w_eDef, w_cNil, w_cVal, w_cBor, w_eMeth, w_eMetP, w_plVar, w_plIx, w_eSMet, w_yesT, w_tP, w_p2t, w_e2t, w_tTruP, w_tTru, w_tNo, w_tAnd2, w_tOr2, w_iSeq, w_iRange1, w_iRange2, w_iEnumE, rngD_len, w_gNm, w_gTup, w_gsNil, w_gsCons, w_gPut, w_sNil, w_sRet, w_sExpr, w_sAsg, w_sIf, w_sFor, w_sFz, ok_some, ok_map, takeB, giveB, outsOf, wipeE, im_non, im_bl, im_int, im_str, im_tup, im_scr, im_lst, im_dcK, im_dcT, fz_non, fz_bl, fz_int, fz_str, fz_tup, fz_scr, fz_lstT, fz_lst, fz_dcT, fz_dcK, wk_tup, wk_lst, wk_scr, wk_str, sI_tup, sI_lst, tr_bl, lt_int, gt_int, le_int, ge_int, eq_int, ne_int, eq_str, ne_str, ne_bl, eq_bl, add_int, sub_int, neg_int, g_int, g_abs, ix_tup, ix_lst, at0, at1, at2, g_len_tup, g_len_lst, List.getElem?_cons_zero, List.getElem?_cons_succ, List.set_cons_zero, List.set_cons_succ, List.length_cons, List.length_nil, List.map_cons, List.map_nil, List.replicate_succ, List.replicate_zero, List.cons_append, List.nil_append, List.head?_cons, List.tail_cons, Option.join_some, Option.map_some, if_true, if_false, ite_true, ite_false, reduceIte, reduceCtorEq, BEq.rfl, Bool.false_eq_true, Bool.not_true, Bool.not_false, List.all_cons, List.all_nil, Bool.and_true, Bool.true_and, Bool.and_self, true_and, and_true, exists_eq_left, exists_eq_left', D.bl.injEq, D.int.injEq, D.str.injEq, D.tup.injEq, Out.rt.injEq, Nat.lt_add_left_iff_pos, Nat.zero_lt_succ, Nat.reduceAdd, Nat.reduceLT, hp.imm]
  refine names_w hp hn fun l p1 hl hlo hp1 => ?_
  simp only [w_pC, w_pVar, w_pOwn, w_p1, w_p2, w_pSl, w_oNo, w_oSome, w_pTup, w_pCall, w_aNil, w_aCons, w_pIsi, w_pIsi2, w_eP, w_eMove, w_e1, w_e2, w_eTup, w_eLst, w_eFz, w_eCall, w_aNilE, w_aConsE, w_eIf, w_eComp, w_eDc, w_eDef, w_cNil, w_cVal, w_cBor, w_eMeth, w_eMetP, w_plVar, w_plIx, w_eSMet, w_yesT, w_tP, w_p2t, w_e2t, w_tTruP, w_tTru, w_tNo, w_tAnd2, w_tOr2, w_iSeq, w_iRange1, w_iRange2, w_iEnumE, rngD_len, w_gNm, w_gTup, w_gsNil, w_gsCons, w_gPut, w_sNil, w_sRet, w_sExpr, w_sAsg, w_sIf, w_sFor, w_sFz, ok_some, ok_map, takeB, giveB, outsOf, wipeE, im_non, im_bl, im_int, im_str, im_tup, im_scr, im_lst, im_dcK, im_dcT, fz_non, fz_bl, fz_int, fz_str, fz_tup, fz_scr, fz_lstT, fz_lst, fz_dcT, fz_dcK, wk_tup, wk_lst, wk_scr, wk_str, sI_tup, sI_lst, tr_bl, lt_int, gt_int, le_int, ge_int, eq_int, ne_int, eq_str, ne_str, ne_bl, eq_bl, add_int, sub_int, neg_int, g_int, g_abs, ix_tup, ix_lst, at0, at1, at2, g_len_tup, g_len_lst, List.getElem?_cons_zero, List.getElem?_cons_succ, List.set_cons_zero, List.set_cons_succ, List.length_cons, List.length_nil, List.map_cons, List.map_nil, List.replicate_succ, List.replicate_zero, List.cons_append, List.nil_append, List.head?_cons, List.tail_cons, Option.join_some, Option.map_some, if_true, if_false, ite_true, ite_false, reduceIte, reduceCtorEq, BEq.rfl, Bool.false_eq_true, Bool.not_true, Bool.not_false, List.all_cons, List.all_nil, Bool.and_true, Bool.true_and, Bool.and_self, true_and, and_true, exists_eq_left, exists_eq_left', D.bl.injEq, D.int.injEq, D.str.injEq, D.tup.injEq, Out.rt.injEq, Nat.lt_add_left_iff_pos, Nat.zero_lt_succ, Nat.reduceAdd, Nat.reduceLT, hp.imm, fzs_map l (fun _ => fz_str)]
  refine seq_ok ?_
  simp only [w_pC, w_pVar, w_pOwn, w_p1, w_p2, w_pSl, w_oNo, w_oSome, w_pTup, w_pCall, w_aNil, w_aCons, w_pIsi, w_pIsi2, w_eP, w_eMove, w_e1, w_e2, w_eTup, w_eLst, w_eFz, w_eCall, w_aNilE, w_aConsE, w_eIf, w_eComp, w_eDc, w_eDef, w_cNil, w_cVal, w_cBor, w_eMeth, w_eMetP, w_plVar, w_plIx, w_eSMet, w_yesT, w_tP, w_p2t, w_e2t, w_tTruP, w_tTru, w_tNo, w_tAnd2, w_tOr2, w_iSeq, w_iRange1, w_iRange2, w_iEnumE, rngD_len, w_gNm, w_gTup, w_gsNil, w_gsCons, w_gPut, w_sNil, w_sRet, w_sExpr, w_sAsg, w_sIf, w_sFor, w_sFz, ok_some, ok_map, takeB, giveB, outsOf, wipeE, im_non, im_bl, im_int, im_str, im_tup, im_scr, im_lst, im_dcK, im_dcT, fz_non, fz_bl, fz_int, fz_str, fz_tup, fz_scr, fz_lstT, fz_lst, fz_dcT, fz_dcK, wk_tup, wk_lst, wk_scr, wk_str, sI_tup, sI_lst, tr_bl, lt_int, gt_int, le_int, ge_int, eq_int, ne_int, eq_str, ne_str, ne_bl, eq_bl, add_int, sub_int, neg_int, g_int, g_abs, ix_tup, ix_lst, at0, at1, at2, g_len_tup, g_len_lst, List.getElem?_cons_zero, List.getElem?_cons_succ, List.set_cons_zero, List.set_cons_succ, List.length_cons, List.length_nil, List.map_cons, List.map_nil, List.replicate_succ, List.replicate_zero, List.cons_append, List.nil_append, List.head?_cons, List.tail_cons, Option.join_some, Option.map_some, if_true, if_false, ite_true, ite_false, reduceIte, reduceCtorEq, BEq.rfl, Bool.false_eq_true, Bool.not_true, Bool.not_false, List.all_cons, List.all_nil, Bool.and_true, Bool.true_and, Bool.and_self, true_and, and_true, exists_eq_left, exists_eq_left', D.bl.injEq, D.int.injEq, D.str.injEq, D.tup.injEq, Out.rt.injEq, Nat.lt_add_left_iff_pos, Nat.zero_lt_succ, Nat.reduceAdd, Nat.reduceLT]
  refine comp_ok (fun j e acc => ∃ p x15, ∃ hs : List Int, e = [some p, some (.int n), some (.int L), some (.int most), some (.lst true (l.map D.str)), none, none, none, none, none, none, none, none, none, none, x15, none] ∧ Pool p ∧ acc = hs.map D.int ∧ hs.length = j) ⟨p1, none, [], rfl, hp1, rfl, rfl⟩ ?_ ?_
  · rintro j d e acc hj ⟨p, x15, hs, rfl, hp, rfl, hh⟩
    have hjl : j < l.length := by simpa using (List.getElem?_eq_some_iff.mp hj).1
    simp only [wipeE, w_pC, w_pVar, w_pOwn, w_p1, w_p2, w_pSl, w_oNo, w_oSome, w_pTup, w_pCall, w_aNil, w_aCons, w_pIsi, w_pIsi2, w_eP, w_eMove, w_e1, w_e2, w_eTup, w_eLst, w_eFz, w_eCall, w_aNilE, w_aConsE, w_eIf, w_eComp, w_eDc, w_eDef, w_cNil, w_cVal, w_cBor, w_eMeth, w_eMetP, w_plVar, w_plIx, w_eSMet, w_yesT, w_tP, w_p2t, w_e2t, w_tTruP, w_tTru, w_tNo, w_tAnd2, w_tOr2, w_iSeq, w_iRange1, w_iRange2, w_iEnumE, rngD_len, w_gNm, w_gTup, w_gsNil, w_gsCons, w_gPut, w_sNil, w_sRet, w_sExpr, w_sAsg, w_sIf, w_sFor, w_sFz, ok_some, ok_map, takeB, giveB, outsOf, wipeE, im_non, im_bl, im_int, im_str, im_tup, im_scr, im_lst, im_dcK, im_dcT, fz_non, fz_bl, fz_int, fz_str, fz_tup, fz_scr, fz_lstT, fz_lst, fz_dcT, fz_dcK, wk_tup, wk_lst, wk_scr, wk_str, sI_tup, sI_lst, tr_bl, lt_int, gt_int, le_int, ge_int, eq_int, ne_int, eq_str, ne_str, ne_bl, eq_bl, add_int, sub_int, neg_int, g_int, g_abs, ix_tup, ix_lst, at0, at1, at2, g_len_tup, g_len_lst, List.getElem?_cons_zero, List.getElem?_cons_succ, List.set_cons_zero, List.set_cons_succ, List.length_cons, List.length_nil, List.map_cons, List.map_nil, List.replicate_succ, List.replicate_zero, List.cons_append, List.nil_append, List.head?_cons, List.tail_cons, Option.join_some, Option.map_some, if_true, if_false, ite_true, ite_false, reduceIte, reduceCtorEq, BEq.rfl, Bool.false_eq_true, Bool.not_true, Bool.not_false, List.all_cons, List.all_nil, Bool.and_true, Bool.true_and, Bool.and_self, true_and, and_true, exists_eq_left, exists_eq_left', D.bl.injEq, D.int.injEq, D.str.injEq, D.tup.injEq, Out.rt.injEq, Nat.lt_add_left_iff_pos, Nat.zero_lt_succ, Nat.reduceAdd, Nat.reduceLT, hp.imm]
    refine draw_w hp (by omega) (by omega) fun r p' r0 r1 hp' => ?_
    simp only [w_pC, w_pVar, w_pOwn, w_p1, w_p2, w_pSl, w_oNo, w_oSome, w_pTup, w_pCall, w_aNil, w_aCons, w_pIsi, w_pIsi2, w_eP, w_eMove, w_e1, w_e2, w_eTup, w_eLst, w_eFz, w_eCall, w_aNilE, w_aConsE, w_eIf, w_eComp, w_eDc, w_eDef, w_cNil, w_cVal, w_cBor, w_eMeth, w_eMetP, w_plVar, w_plIx, w_eSMet, w_yesT, w_tP, w_p2t, w_e2t, w_tTruP, w_tTru, w_tNo, w_tAnd2, w_tOr2, w_iSeq, w_iRange1, w_iRange2, w_iEnumE, rngD_len, w_gNm, w_gTup, w_gsNil, w_gsCons, w_gPut, w_sNil, w_sRet, w_sExpr, w_sAsg, w_sIf, w_sFor, w_sFz, ok_some, ok_map, takeB, giveB, outsOf, wipeE, im_non, im_bl, im_int, im_str, im_tup, im_scr, im_lst, im_dcK, im_dcT, fz_non, fz_bl, fz_int, fz_str, fz_tup, fz_scr, fz_lstT, fz_lst, fz_dcT, fz_dcK, wk_tup, wk_lst, wk_scr, wk_str, sI_tup, sI_lst, tr_bl, lt_int, gt_int, le_int, ge_int, eq_int, ne_int, eq_str, ne_str, ne_bl, eq_bl, add_int, sub_int, neg_int, g_int, g_abs, ix_tup, ix_lst, at0, at1, at2, g_len_tup, g_len_lst, List.getElem?_cons_zero, List.getElem?_cons_succ, List.set_cons_zero, List.set_cons_succ, List.length_cons, List.length_nil, List.map_cons, List.map_nil, List.replicate_succ, List.replicate_zero, List.cons_append, List.nil_append, List.head?_cons, List.tail_cons, Option.join_some, Option.map_some, if_true, if_false, ite_true, ite_false, reduceIte, reduceCtorEq, BEq.rfl, Bool.false_eq_true, Bool.not_true, Bool.not_false, List.all_cons, List.all_nil, Bool.and_true, Bool.true_and, Bool.and_self, true_and, and_true, exists_eq_left, exists_eq_left', D.bl.injEq, D.int.injEq, D.str.injEq, D.tup.injEq, Out.rt.injEq, Nat.lt_add_left_iff_pos, Nat.zero_lt_succ, Nat.reduceAdd, Nat.reduceLT, hp.imm]
    exact ⟨by rw [List.length_map]; show hs.length < 16777216; omega, _, _, hs ++ [r], rfl, hp', by simp, by simp [hh]⟩
  rintro e acc ⟨p2, x15, hs, rfl, hp2, rfl, hh⟩
  rw [List.length_map] at hh
  have hh : hs.length = n := by omega
  simp only [wipeE, w_pC, w_pVar, w_pOwn, w_p1, w_p2, w_pSl, w_oNo, w_oSome, w_pTup, w_pCall, w_aNil, w_aCons, w_pIsi, w_pIsi2, w_eP, w_eMove, w_e1, w_e2, w_eTup, w_eLst, w_eFz, w_eCall, w_aNilE, w_aConsE, w_eIf, w_eComp, w_eDc, w_eDef, w_cNil, w_cVal, w_cBor, w_eMeth, w_eMetP, w_plVar, w_plIx, w_eSMet, w_yesT, w_tP, w_p2t, w_e2t, w_tTruP, w_tTru, w_tNo, w_tAnd2, w_tOr2, w_iSeq, w_iRange1, w_iRange2, w_iEnumE, rngD_len, w_gNm, w_gTup, w_gsNil, w_gsCons, w_gPut, w_sNil, w_sRet, w_sExpr, w_sAsg, w_sIf, w_sFor, w_sFz, ok_some, ok_map, takeB, giveB, outsOf, wipeE, im_non, im_bl, im_int, im_str, im_tup, im_scr, im_lst, im_dcK, im_dcT, fz_non, fz_bl, fz_int, fz_str, fz_tup, fz_scr, fz_lstT, fz_lst, fz_dcT, fz_dcK, wk_tup, wk_lst, wk_scr, wk_str, sI_tup, sI_lst, tr_bl, lt_int, gt_int, le_int, ge_int, eq_int, ne_int, eq_str, ne_str, ne_bl, eq_bl, add_int, sub_int, neg_int, g_int, g_abs, ix_tup, ix_lst, at0, at1, at2, g_len_tup, g_len_lst, List.getElem?_cons_zero, List.getElem?_cons_succ, List.set_cons_zero, List.set_cons_succ, List.length_cons, List.length_nil, List.map_cons, List.map_nil, List.replicate_succ, List.replicate_zero, List.cons_append, List.nil_append, List.head?_cons, List.tail_cons, Option.join_some, Option.map_some, if_true, if_false, ite_true, ite_false, reduceIte, reduceCtorEq, BEq.rfl, Bool.false_eq_true, Bool.not_true, Bool.not_false, List.all_cons, List.all_nil, Bool.and_true, Bool.true_and, Bool.and_self, true_and, and_true, exists_eq_left, exists_eq_left', D.bl.injEq, D.int.injEq, D.str.injEq, D.tup.injEq, Out.rt.injEq, Nat.lt_add_left_iff_pos, Nat.zero_lt_succ, Nat.reduceAdd, Nat.reduceLT]
  refine seq_ok ?_
  simp only [w_pC, w_pVar, w_pOwn, w_p1, w_p2, w_pSl, w_oNo, w_oSome, w_pTup, w_pCall, w_aNil, w_aCons, w_pIsi, w_pIsi2, w_eP, w_eMove, w_e1, w_e2, w_eTup, w_eLst, w_eFz, w_eCall, w_aNilE, w_aConsE, w_eIf, w_eComp, w_eDc, w_eDef, w_cNil, w_cVal, w_cBor, w_eMeth, w_eMetP, w_plVar, w_plIx, w_eSMet, w_yesT, w_tP, w_p2t, w_e2t, w_tTruP, w_tTru, w_tNo, w_tAnd2, w_tOr2, w_iSeq, w_iRange1, w_iRange2, w_iEnumE, rngD_len, w_gNm, w_gTup, w_gsNil, w_gsCons, w_gPut, w_sNil, w_sRet, w_sExpr, w_sAsg, w_sIf, w_sFor, w_sFz, ok_some, ok_map, takeB, giveB, outsOf, wipeE, im_non, im_bl, im_int, im_str, im_tup, im_scr, im_lst, im_dcK, im_dcT, fz_non, fz_bl, fz_int, fz_str, fz_tup, fz_scr, fz_lstT, fz_lst, fz_dcT, fz_dcK, wk_tup, wk_lst, wk_scr, wk_str, sI_tup, sI_lst, tr_bl, lt_int, gt_int, le_int, ge_int, eq_int, ne_int, eq_str, ne_str, ne_bl, eq_bl, add_int, sub_int, neg_int, g_int, g_abs, ix_tup, ix_lst, at0, at1, at2, g_len_tup, g_len_lst, List.getElem?_cons_zero, List.getElem?_cons_succ, List.set_cons_zero, List.set_cons_succ, List.length_cons, List.length_nil, List.map_cons, List.map_nil, List.replicate_succ, List.replicate_zero, List.cons_append, List.nil_append, List.head?_cons, List.tail_cons, Option.join_some, Option.map_some, if_true, if_false, ite_true, ite_false, reduceIte, reduceCtorEq, BEq.rfl, Bool.false_eq_true, Bool.not_true, Bool.not_false, List.all_cons, List.all_nil, Bool.and_true, Bool.true_and, Bool.and_self, true_and, and_true, exists_eq_left, exists_eq_left', D.bl.injEq, D.int.injEq, D.str.injEq, D.tup.injEq, Out.rt.injEq, Nat.lt_add_left_iff_pos, Nat.zero_lt_succ, Nat.reduceAdd, Nat.reduceLT, fzs_map hs (fun _ => fz_int)]
  refine ⟨by decide, ?_⟩
  refine seq_ok ?_
  simp only [w_pC, w_pVar, w_pOwn, w_p1, w_p2, w_pSl, w_oNo, w_oSome, w_pTup, w_pCall, w_aNil, w_aCons, w_pIsi, w_pIsi2, w_eP, w_eMove, w_e1, w_e2, w_eTup, w_eLst, w_eFz, w_eCall, w_aNilE, w_aConsE, w_eIf, w_eComp, w_eDc, w_eDef, w_cNil, w_cVal, w_cBor, w_eMeth, w_eMetP, w_plVar, w_plIx, w_eSMet, w_yesT, w_tP, w_p2t, w_e2t, w_tTruP, w_tTru, w_tNo, w_tAnd2, w_tOr2, w_iSeq, w_iRange1, w_iRange2, w_iEnumE, rngD_len, w_gNm, w_gTup, w_gsNil, w_gsCons, w_gPut, w_sNil, w_sRet, w_sExpr, w_sAsg, w_sIf, w_sFor, w_sFz, ok_some, ok_map, takeB, giveB, outsOf, wipeE, im_non, im_bl, im_int, im_str, im_tup, im_scr, im_lst, im_dcK, im_dcT, fz_non, fz_bl, fz_int, fz_str, fz_tup, fz_scr, fz_lstT, fz_lst, fz_dcT, fz_dcK, wk_tup, wk_lst, wk_scr, wk_str, sI_tup, sI_lst, tr_bl, lt_int, gt_int, le_int, ge_int, eq_int, ne_int, eq_str, ne_str, ne_bl, eq_bl, add_int, sub_int, neg_int, g_int, g_abs, ix_tup, ix_lst, at0, at1, at2, g_len_tup, g_len_lst, List.getElem?_cons_zero, List.getElem?_cons_succ, List.set_cons_zero, List.set_cons_succ, List.length_cons, List.length_nil, List.map_cons, List.map_nil, List.replicate_succ, List.replicate_zero, List.cons_append, List.nil_append, List.head?_cons, List.tail_cons, Option.join_some, Option.map_some, if_true, if_false, ite_true, ite_false, reduceIte, reduceCtorEq, BEq.rfl, Bool.false_eq_true, Bool.not_true, Bool.not_false, List.all_cons, List.all_nil, Bool.and_true, Bool.true_and, Bool.and_self, true_and, and_true, exists_eq_left, exists_eq_left', D.bl.injEq, D.int.injEq, D.str.injEq, D.tup.injEq, Out.rt.injEq, Nat.lt_add_left_iff_pos, Nat.zero_lt_succ, Nat.reduceAdd, Nat.reduceLT]
  refine ⟨_, rfl, small_nat (by omega), ?_⟩
  refine for_ok (fun i e => ∃ p x7 x8 x9, ∃ ws : List (Str × Int × Int), e = [some p, some (.int n), some (.int L), some (.int most), some (.lst true (l.map D.str)), some (.lst true (hs.map D.int)), some (.lst false (ws.map workD)), x7, x8, x9, none, none, none, none, none, none, none] ∧ Pool p ∧ ws.length = i) ⟨p2, none, none, none, [], rfl, hp2, rfl⟩ ?_ ?_
  · rintro i d e hi ⟨p, x7, x8, x9, ws, rfl, hp, hw⟩
    obtain ⟨rfl, hin⟩ := rngD_at hi
    have hin : i < n := by simpa using hin
    have e0 : (0 : Int) + (i : Int) = i := by omega
    rw [e0]
    have ha : L2.atI (hs.map D.int) (i : Int) = some (.int hs[i]) := at_map (by omega)
    have hb : L2.atI (l.map D.str) (i : Int) = some (.str l[i]) := at_map (by omega)
    simp only [w_pC, w_pVar, w_pOwn, w_p1, w_p2, w_pSl, w_oNo, w_oSome, w_pTup, w_pCall, w_aNil, w_aCons, w_pIsi, w_pIsi2, w_eP, w_eMove, w_e1, w_e2, w_eTup, w_eLst, w_eFz, w_eCall, w_aNilE, w_aConsE, w_eIf, w_eComp, w_eDc, w_eDef, w_cNil, w_cVal, w_cBor, w_eMeth, w_eMetP, w_plVar, w_plIx, w_eSMet, w_yesT, w_tP, w_p2t, w_e2t, w_tTruP, w_tTru, w_tNo, w_tAnd2, w_tOr2, w_iSeq, w_iRange1, w_iRange2, w_iEnumE, rngD_len, w_gNm, w_gTup, w_gsNil, w_gsCons, w_gPut, w_sNil, w_sRet, w_sExpr, w_sAsg, w_sIf, w_sFor, w_sFz, ok_some, ok_map, takeB, giveB, outsOf, wipeE, im_non, im_bl, im_int, im_str, im_tup, im_scr, im_lst, im_dcK, im_dcT, fz_non, fz_bl, fz_int, fz_str, fz_tup, fz_scr, fz_lstT, fz_lst, fz_dcT, fz_dcK, wk_tup, wk_lst, wk_scr, wk_str, sI_tup, sI_lst, tr_bl, lt_int, gt_int, le_int, ge_int, eq_int, ne_int, eq_str, ne_str, ne_bl, eq_bl, add_int, sub_int, neg_int, g_int, g_abs, ix_tup, ix_lst, at0, at1, at2, g_len_tup, g_len_lst, List.getElem?_cons_zero, List.getElem?_cons_succ, List.set_cons_zero, List.set_cons_succ, List.length_cons, List.length_nil, List.map_cons, List.map_nil, List.replicate_succ, List.replicate_zero, List.cons_append, List.nil_append, List.head?_cons, List.tail_cons, Option.join_some, Option.map_some, if_true, if_false, ite_true, ite_false, reduceIte, reduceCtorEq, BEq.rfl, Bool.false_eq_true, Bool.not_true, Bool.not_false, List.all_cons, List.all_nil, Bool.and_true, Bool.true_and, Bool.and_self, true_and, and_true, exists_eq_left, exists_eq_left', D.bl.injEq, D.int.injEq, D.str.injEq, D.tup.injEq, Out.rt.injEq, Nat.lt_add_left_iff_pos, Nat.zero_lt_succ, Nat.reduceAdd, Nat.reduceLT]
    refine seq_ok ?_
    simp only [w_pC, w_pVar, w_pOwn, w_p1, w_p2, w_pSl, w_oNo, w_oSome, w_pTup, w_pCall, w_aNil, w_aCons, w_pIsi, w_pIsi2, w_eP, w_eMove, w_e1, w_e2, w_eTup, w_eLst, w_eFz, w_eCall, w_aNilE, w_aConsE, w_eIf, w_eComp, w_eDc, w_eDef, w_cNil, w_cVal, w_cBor, w_eMeth, w_eMetP, w_plVar, w_plIx, w_eSMet, w_yesT, w_tP, w_p2t, w_e2t, w_tTruP, w_tTru, w_tNo, w_tAnd2, w_tOr2, w_iSeq, w_iRange1, w_iRange2, w_iEnumE, rngD_len, w_gNm, w_gTup, w_gsNil, w_gsCons, w_gPut, w_sNil, w_sRet, w_sExpr, w_sAsg, w_sIf, w_sFor, w_sFz, ok_some, ok_map, takeB, giveB, outsOf, wipeE, im_non, im_bl, im_int, im_str, im_tup, im_scr, im_lst, im_dcK, im_dcT, fz_non, fz_bl, fz_int, fz_str, fz_tup, fz_scr, fz_lstT, fz_lst, fz_dcT, fz_dcK, wk_tup, wk_lst, wk_scr, wk_str, sI_tup, sI_lst, tr_bl, lt_int, gt_int, le_int, ge_int, eq_int, ne_int, eq_str, ne_str, ne_bl, eq_bl, add_int, sub_int, neg_int, g_int, g_abs, ix_tup, ix_lst, at0, at1, at2, g_len_tup, g_len_lst, List.getElem?_cons_zero, List.getElem?_cons_succ, List.set_cons_zero, List.set_cons_succ, List.length_cons, List.length_nil, List.map_cons, List.map_nil, List.replicate_succ, List.replicate_zero, List.cons_append, List.nil_append, List.head?_cons, List.tail_cons, Option.join_some, Option.map_some, if_true, if_false, ite_true, ite_false, reduceIte, reduceCtorEq, BEq.rfl, Bool.false_eq_true, Bool.not_true, Bool.not_false, List.all_cons, List.all_nil, Bool.and_true, Bool.true_and, Bool.and_self, true_and, and_true, exists_eq_left, exists_eq_left', D.bl.injEq, D.int.injEq, D.str.injEq, D.tup.injEq, Out.rt.injEq, Nat.lt_add_left_iff_pos, Nat.zero_lt_succ, Nat.reduceAdd, Nat.reduceLT, ha, hp.imm]
    refine draw_w hp (by decide) (by decide) fun r1 q1 _ _ hq1 => ?_
    simp only [w_pC, w_pVar, w_pOwn, w_p1, w_p2, w_pSl, w_oNo, w_oSome, w_pTup, w_pCall, w_aNil, w_aCons, w_pIsi, w_pIsi2, w_eP, w_eMove, w_e1, w_e2, w_eTup, w_eLst, w_eFz, w_eCall, w_aNilE, w_aConsE, w_eIf, w_eComp, w_eDc, w_eDef, w_cNil, w_cVal, w_cBor, w_eMeth, w_eMetP, w_plVar, w_plIx, w_eSMet, w_yesT, w_tP, w_p2t, w_e2t, w_tTruP, w_tTru, w_tNo, w_tAnd2, w_tOr2, w_iSeq, w_iRange1, w_iRange2, w_iEnumE, rngD_len, w_gNm, w_gTup, w_gsNil, w_gsCons, w_gPut, w_sNil, w_sRet, w_sExpr, w_sAsg, w_sIf, w_sFor, w_sFz, ok_some, ok_map, takeB, giveB, outsOf, wipeE, im_non, im_bl, im_int, im_str, im_tup, im_scr, im_lst, im_dcK, im_dcT, fz_non, fz_bl, fz_int, fz_str, fz_tup, fz_scr, fz_lstT, fz_lst, fz_dcT, fz_dcK, wk_tup, wk_lst, wk_scr, wk_str, sI_tup, sI_lst, tr_bl, lt_int, gt_int, le_int, ge_int, eq_int, ne_int, eq_str, ne_str, ne_bl, eq_bl, add_int, sub_int, neg_int, g_int, g_abs, ix_tup, ix_lst, at0, at1, at2, g_len_tup, g_len_lst, List.getElem?_cons_zero, List.getElem?_cons_succ, List.set_cons_zero, List.set_cons_succ, List.length_cons, List.length_nil, List.map_cons, List.map_nil, List.replicate_succ, List.replicate_zero, List.cons_append, List.nil_append, List.head?_cons, List.tail_cons, Option.join_some, Option.map_some, if_true, if_false, ite_true, ite_false, reduceIte, reduceCtorEq, BEq.rfl, Bool.false_eq_true, Bool.not_true, Bool.not_false, List.all_cons, List.all_nil, Bool.and_true, Bool.true_and, Bool.and_self, true_and, and_true, exists_eq_left, exists_eq_left', D.bl.injEq, D.int.injEq, D.str.injEq, D.tup.injEq, Out.rt.injEq, Nat.lt_add_left_iff_pos, Nat.zero_lt_succ, Nat.reduceAdd, Nat.reduceLT, g_max, hp.imm]
    refine ⟨by decide, draw_w hq1 (by decide) (by decide) fun r2 q2 a2 b2 hq2 => ?_⟩
    obtain ⟨v, hv⟩ := pick_ints [0, hs[i], if 0 < hs[i] - 1 - r1 then hs[i] - 1 - r1 else 0] a2 (by simpa using b2)
    simp only [List.map_cons, List.map_nil] at hv
    simp only [w_pC, w_pVar, w_pOwn, w_p1, w_p2, w_pSl, w_oNo, w_oSome, w_pTup, w_pCall, w_aNil, w_aCons, w_pIsi, w_pIsi2, w_eP, w_eMove, w_e1, w_e2, w_eTup, w_eLst, w_eFz, w_eCall, w_aNilE, w_aConsE, w_eIf, w_eComp, w_eDc, w_eDef, w_cNil, w_cVal, w_cBor, w_eMeth, w_eMetP, w_plVar, w_plIx, w_eSMet, w_yesT, w_tP, w_p2t, w_e2t, w_tTruP, w_tTru, w_tNo, w_tAnd2, w_tOr2, w_iSeq, w_iRange1, w_iRange2, w_iEnumE, rngD_len, w_gNm, w_gTup, w_gsNil, w_gsCons, w_gPut, w_sNil, w_sRet, w_sExpr, w_sAsg, w_sIf, w_sFor, w_sFz, ok_some, ok_map, takeB, giveB, outsOf, wipeE, im_non, im_bl, im_int, im_str, im_tup, im_scr, im_lst, im_dcK, im_dcT, fz_non, fz_bl, fz_int, fz_str, fz_tup, fz_scr, fz_lstT, fz_lst, fz_dcT, fz_dcK, wk_tup, wk_lst, wk_scr, wk_str, sI_tup, sI_lst, tr_bl, lt_int, gt_int, le_int, ge_int, eq_int, ne_int, eq_str, ne_str, ne_bl, eq_bl, add_int, sub_int, neg_int, g_int, g_abs, ix_tup, ix_lst, at0, at1, at2, g_len_tup, g_len_lst, List.getElem?_cons_zero, List.getElem?_cons_succ, List.set_cons_zero, List.set_cons_succ, List.length_cons, List.length_nil, List.map_cons, List.map_nil, List.replicate_succ, List.replicate_zero, List.cons_append, List.nil_append, List.head?_cons, List.tail_cons, Option.join_some, Option.map_some, if_true, if_false, ite_true, ite_false, reduceIte, reduceCtorEq, BEq.rfl, Bool.false_eq_true, Bool.not_true, Bool.not_false, List.all_cons, List.all_nil, Bool.and_true, Bool.true_and, Bool.and_self, true_and, and_true, exists_eq_left, exists_eq_left', D.bl.injEq, D.int.injEq, D.str.injEq, D.tup.injEq, Out.rt.injEq, Nat.lt_add_left_iff_pos, Nat.zero_lt_succ, Nat.reduceAdd, Nat.reduceLT, hq1.imm, hv]
    refine seq_ok ?_
    simp only [w_pC, w_pVar, w_pOwn, w_p1, w_p2, w_pSl, w_oNo, w_oSome, w_pTup, w_pCall, w_aNil, w_aCons, w_pIsi, w_pIsi2, w_eP, w_eMove, w_e1, w_e2, w_eTup, w_eLst, w_eFz, w_eCall, w_aNilE, w_aConsE, w_eIf, w_eComp, w_eDc, w_eDef, w_cNil, w_cVal, w_cBor, w_eMeth, w_eMetP, w_plVar, w_plIx, w_eSMet, w_yesT, w_tP, w_p2t, w_e2t, w_tTruP, w_tTru, w_tNo, w_tAnd2, w_tOr2, w_iSeq, w_iRange1, w_iRange2, w_iEnumE, rngD_len, w_gNm, w_gTup, w_gsNil, w_gsCons, w_gPut, w_sNil, w_sRet, w_sExpr, w_sAsg, w_sIf, w_sFor, w_sFz, ok_some, ok_map, takeB, giveB, outsOf, wipeE, im_non, im_bl, im_int, im_str, im_tup, im_scr, im_lst, im_dcK, im_dcT, fz_non, fz_bl, fz_int, fz_str, fz_tup, fz_scr, fz_lstT, fz_lst, fz_dcT, fz_dcK, wk_tup, wk_lst, wk_scr, wk_str, sI_tup, sI_lst, tr_bl, lt_int, gt_int, le_int, ge_int, eq_int, ne_int, eq_str, ne_str, ne_bl, eq_bl, add_int, sub_int, neg_int, g_int, g_abs, ix_tup, ix_lst, at0, at1, at2, g_len_tup, g_len_lst, List.getElem?_cons_zero, List.getElem?_cons_succ, List.set_cons_zero, List.set_cons_succ, List.length_cons, List.length_nil, List.map_cons, List.map_nil, List.replicate_succ, List.replicate_zero, List.cons_append, List.nil_append, List.head?_cons, List.tail_cons, Option.join_some, Option.map_some, if_true, if_false, ite_true, ite_false, reduceIte, reduceCtorEq, BEq.rfl, Bool.false_eq_true, Bool.not_true, Bool.not_false, List.all_cons, List.all_nil, Bool.and_true, Bool.true_and, Bool.and_self, true_and, and_true, exists_eq_left, exists_eq_left', D.bl.injEq, D.int.injEq, D.str.injEq, D.tup.injEq, Out.rt.injEq, Nat.lt_add_left_iff_pos, Nat.zero_lt_succ, Nat.reduceAdd, Nat.reduceLT, ha, hq2.imm]
    refine draw_w hq2 (by decide) (by decide) fun r3 q3 _ _ hq3 => ?_
    simp only [w_pC, w_pVar, w_pOwn, w_p1, w_p2, w_pSl, w_oNo, w_oSome, w_pTup, w_pCall, w_aNil, w_aCons, w_pIsi, w_pIsi2, w_eP, w_eMove, w_e1, w_e2, w_eTup, w_eLst, w_eFz, w_eCall, w_aNilE, w_aConsE, w_eIf, w_eComp, w_eDc, w_eDef, w_cNil, w_cVal, w_cBor, w_eMeth, w_eMetP, w_plVar, w_plIx, w_eSMet, w_yesT, w_tP, w_p2t, w_e2t, w_tTruP, w_tTru, w_tNo, w_tAnd2, w_tOr2, w_iSeq, w_iRange1, w_iRange2, w_iEnumE, rngD_len, w_gNm, w_gTup, w_gsNil, w_gsCons, w_gPut, w_sNil, w_sRet, w_sExpr, w_sAsg, w_sIf, w_sFor, w_sFz, ok_some, ok_map, takeB, giveB, outsOf, wipeE, im_non, im_bl, im_int, im_str, im_tup, im_scr, im_lst, im_dcK, im_dcT, fz_non, fz_bl, fz_int, fz_str, fz_tup, fz_scr, fz_lstT, fz_lst, fz_dcT, fz_dcK, wk_tup, wk_lst, wk_scr, wk_str, sI_tup, sI_lst, tr_bl, lt_int, gt_int, le_int, ge_int, eq_int, ne_int, eq_str, ne_str, ne_bl, eq_bl, add_int, sub_int, neg_int, g_int, g_abs, ix_tup, ix_lst, at0, at1, at2, g_len_tup, g_len_lst, List.getElem?_cons_zero, List.getElem?_cons_succ, List.set_cons_zero, List.set_cons_succ, List.length_cons, List.length_nil, List.map_cons, List.map_nil, List.replicate_succ, List.replicate_zero, List.cons_append, List.nil_append, List.head?_cons, List.tail_cons, Option.join_some, Option.map_some, if_true, if_false, ite_true, ite_false, reduceIte, reduceCtorEq, BEq.rfl, Bool.false_eq_true, Bool.not_true, Bool.not_false, List.all_cons, List.all_nil, Bool.and_true, Bool.true_and, Bool.and_self, true_and, and_true, exists_eq_left, exists_eq_left', D.bl.injEq, D.int.injEq, D.str.injEq, D.tup.injEq, Out.rt.injEq, Nat.lt_add_left_iff_pos, Nat.zero_lt_succ, Nat.reduceAdd, Nat.reduceLT, g_min, hq2.imm]
    refine ⟨by decide, draw_w hq3 (by decide) (by decide) fun r4 q4 a4 b4 hq4 => ?_⟩
    obtain ⟨u, hu⟩ := pick_ints [1000, hs[i] + 1, if hs[i] + 1 + r3 < 1000 then hs[i] + 1 + r3 else 1000] a4 (by simpa using b4)
    simp only [List.map_cons, List.map_nil] at hu
    simp only [w_pC, w_pVar, w_pOwn, w_p1, w_p2, w_pSl, w_oNo, w_oSome, w_pTup, w_pCall, w_aNil, w_aCons, w_pIsi, w_pIsi2, w_eP, w_eMove, w_e1, w_e2, w_eTup, w_eLst, w_eFz, w_eCall, w_aNilE, w_aConsE, w_eIf, w_eComp, w_eDc, w_eDef, w_cNil, w_cVal, w_cBor, w_eMeth, w_eMetP, w_plVar, w_plIx, w_eSMet, w_yesT, w_tP, w_p2t, w_e2t, w_tTruP, w_tTru, w_tNo, w_tAnd2, w_tOr2, w_iSeq, w_iRange1, w_iRange2, w_iEnumE, rngD_len, w_gNm, w_gTup, w_gsNil, w_gsCons, w_gPut, w_sNil, w_sRet, w_sExpr, w_sAsg, w_sIf, w_sFor, w_sFz, ok_some, ok_map, takeB, giveB, outsOf, wipeE, im_non, im_bl, im_int, im_str, im_tup, im_scr, im_lst, im_dcK, im_dcT, fz_non, fz_bl, fz_int, fz_str, fz_tup, fz_scr, fz_lstT, fz_lst, fz_dcT, fz_dcK, wk_tup, wk_lst, wk_scr, wk_str, sI_tup, sI_lst, tr_bl, lt_int, gt_int, le_int, ge_int, eq_int, ne_int, eq_str, ne_str, ne_bl, eq_bl, add_int, sub_int, neg_int, g_int, g_abs, ix_tup, ix_lst, at0, at1, at2, g_len_tup, g_len_lst, List.getElem?_cons_zero, List.getElem?_cons_succ, List.set_cons_zero, List.set_cons_succ, List.length_cons, List.length_nil, List.map_cons, List.map_nil, List.replicate_succ, List.replicate_zero, List.cons_append, List.nil_append, List.head?_cons, List.tail_cons, Option.join_some, Option.map_some, if_true, if_false, ite_true, ite_false, reduceIte, reduceCtorEq, BEq.rfl, Bool.false_eq_true, Bool.not_true, Bool.not_false, List.all_cons, List.all_nil, Bool.and_true, Bool.true_and, Bool.and_self, true_and, and_true, exists_eq_left, exists_eq_left', D.bl.injEq, D.int.injEq, D.str.injEq, D.tup.injEq, Out.rt.injEq, Nat.lt_add_left_iff_pos, Nat.zero_lt_succ, Nat.reduceAdd, Nat.reduceLT, hq3.imm, hu]
    refine ⟨rfl, ?_⟩
    simp only [w_pC, w_pVar, w_pOwn, w_p1, w_p2, w_pSl, w_oNo, w_oSome, w_pTup, w_pCall, w_aNil, w_aCons, w_pIsi, w_pIsi2, w_eP, w_eMove, w_e1, w_e2, w_eTup, w_eLst, w_eFz, w_eCall, w_aNilE, w_aConsE, w_eIf, w_eComp, w_eDc, w_eDef, w_cNil, w_cVal, w_cBor, w_eMeth, w_eMetP, w_plVar, w_plIx, w_eSMet, w_yesT, w_tP, w_p2t, w_e2t, w_tTruP, w_tTru, w_tNo, w_tAnd2, w_tOr2, w_iSeq, w_iRange1, w_iRange2, w_iEnumE, rngD_len, w_gNm, w_gTup, w_gsNil, w_gsCons, w_gPut, w_sNil, w_sRet, w_sExpr, w_sAsg, w_sIf, w_sFor, w_sFz, ok_some, ok_map, takeB, giveB, outsOf, wipeE, im_non, im_bl, im_int, im_str, im_tup, im_scr, im_lst, im_dcK, im_dcT, fz_non, fz_bl, fz_int, fz_str, fz_tup, fz_scr, fz_lstT, fz_lst, fz_dcT, fz_dcK, wk_tup, wk_lst, wk_scr, wk_str, sI_tup, sI_lst, tr_bl, lt_int, gt_int, le_int, ge_int, eq_int, ne_int, eq_str, ne_str, ne_bl, eq_bl, add_int, sub_int, neg_int, g_int, g_abs, ix_tup, ix_lst, at0, at1, at2, g_len_tup, g_len_lst, List.getElem?_cons_zero, List.getElem?_cons_succ, List.set_cons_zero, List.set_cons_succ, List.length_cons, List.length_nil, List.map_cons, List.map_nil, List.replicate_succ, List.replicate_zero, List.cons_append, List.nil_append, List.head?_cons, List.tail_cons, Option.join_some, Option.map_some, if_true, if_false, ite_true, ite_false, reduceIte, reduceCtorEq, BEq.rfl, Bool.false_eq_true, Bool.not_true, Bool.not_false, List.all_cons, List.all_nil, Bool.and_true, Bool.true_and, Bool.and_self, true_and, and_true, exists_eq_left, exists_eq_left', D.bl.injEq, D.int.injEq, D.str.injEq, D.tup.injEq, Out.rt.injEq, Nat.lt_add_left_iff_pos, Nat.zero_lt_succ, Nat.reduceAdd, Nat.reduceLT, hb, app_lst (a := ws.map workD) (by rw [List.length_map]; omega)]
    exact ⟨by decide, q4, some (.int i), some (.int v), some (.int u), ws ++ [(l[i], v, u)], by simp [workD], hq4, by simp [hw]⟩
  rintro e ⟨p3, x7, x8, x9, ws, rfl, hp3, hw⟩
  rw [rngD_len] at hw
  have hw : ws.length = n := by simpa using hw
  refine ⟨rfl, ?_⟩
  refine seq_ok ?_
  simp only [w_pC, w_pVar, w_pOwn, w_p1, w_p2, w_pSl, w_oNo, w_oSome, w_pTup, w_pCall, w_aNil, w_aCons, w_pIsi, w_pIsi2, w_eP, w_eMove, w_e1, w_e2, w_eTup, w_eLst, w_eFz, w_eCall, w_aNilE, w_aConsE, w_eIf, w_eComp, w_eDc, w_eDef, w_cNil, w_cVal, w_cBor, w_eMeth, w_eMetP, w_plVar, w_plIx, w_eSMet, w_yesT, w_tP, w_p2t, w_e2t, w_tTruP, w_tTru, w_tNo, w_tAnd2, w_tOr2, w_iSeq, w_iRange1, w_iRange2, w_iEnumE, rngD_len, w_gNm, w_gTup, w_gsNil, w_gsCons, w_gPut, w_sNil, w_sRet, w_sExpr, w_sAsg, w_sIf, w_sFor, w_sFz, ok_some, ok_map, takeB, giveB, outsOf, wipeE, im_non, im_bl, im_int, im_str, im_tup, im_scr, im_lst, im_dcK, im_dcT, fz_non, fz_bl, fz_int, fz_str, fz_tup, fz_scr, fz_lstT, fz_lst, fz_dcT, fz_dcK, wk_tup, wk_lst, wk_scr, wk_str, sI_tup, sI_lst, tr_bl, lt_int, gt_int, le_int, ge_int, eq_int, ne_int, eq_str, ne_str, ne_bl, eq_bl, add_int, sub_int, neg_int, g_int, g_abs, ix_tup, ix_lst, at0, at1, at2, g_len_tup, g_len_lst, List.getElem?_cons_zero, List.getElem?_cons_succ, List.set_cons_zero, List.set_cons_succ, List.length_cons, List.length_nil, List.map_cons, List.map_nil, List.replicate_succ, List.replicate_zero, List.cons_append, List.nil_append, List.head?_cons, List.tail_cons, Option.join_some, Option.map_some, if_true, if_false, ite_true, ite_false, reduceIte, reduceCtorEq, BEq.rfl, Bool.false_eq_true, Bool.not_true, Bool.not_false, List.all_cons, List.all_nil, Bool.and_true, Bool.true_and, Bool.and_self, true_and, and_true, exists_eq_left, exists_eq_left', D.bl.injEq, D.int.injEq, D.str.injEq, D.tup.injEq, Out.rt.injEq, Nat.lt_add_left_iff_pos, Nat.zero_lt_succ, Nat.reduceAdd, Nat.reduceLT]
  refine ⟨by decide, ?_⟩
  refine seq_ok ?_
  simp only [w_pC, w_pVar, w_pOwn, w_p1, w_p2, w_pSl, w_oNo, w_oSome, w_pTup, w_pCall, w_aNil, w_aCons, w_pIsi, w_pIsi2, w_eP, w_eMove, w_e1, w_e2, w_eTup, w_eLst, w_eFz, w_eCall, w_aNilE, w_aConsE, w_eIf, w_eComp, w_eDc, w_eDef, w_cNil, w_cVal, w_cBor, w_eMeth, w_eMetP, w_plVar, w_plIx, w_eSMet, w_yesT, w_tP, w_p2t, w_e2t, w_tTruP, w_tTru, w_tNo, w_tAnd2, w_tOr2, w_iSeq, w_iRange1, w_iRange2, w_iEnumE, rngD_len, w_gNm, w_gTup, w_gsNil, w_gsCons, w_gPut, w_sNil, w_sRet, w_sExpr, w_sAsg, w_sIf, w_sFor, w_sFz, ok_some, ok_map, takeB, giveB, outsOf, wipeE, im_non, im_bl, im_int, im_str, im_tup, im_scr, im_lst, im_dcK, im_dcT, fz_non, fz_bl, fz_int, fz_str, fz_tup, fz_scr, fz_lstT, fz_lst, fz_dcT, fz_dcK, wk_tup, wk_lst, wk_scr, wk_str, sI_tup, sI_lst, tr_bl, lt_int, gt_int, le_int, ge_int, eq_int, ne_int, eq_str, ne_str, ne_bl, eq_bl, add_int, sub_int, neg_int, g_int, g_abs, ix_tup, ix_lst, at0, at1, at2, g_len_tup, g_len_lst, List.getElem?_cons_zero, List.getElem?_cons_succ, List.set_cons_zero, List.set_cons_succ, List.length_cons, List.length_nil, List.map_cons, List.map_nil, List.replicate_succ, List.replicate_zero, List.cons_append, List.nil_append, List.head?_cons, List.tail_cons, Option.join_some, Option.map_some, if_true, if_false, ite_true, ite_false, reduceIte, reduceCtorEq, BEq.rfl, Bool.false_eq_true, Bool.not_true, Bool.not_false, List.all_cons, List.all_nil, Bool.and_true, Bool.true_and, Bool.and_self, true_and, and_true, exists_eq_left, exists_eq_left', D.bl.injEq, D.int.injEq, D.str.injEq, D.tup.injEq, Out.rt.injEq, Nat.lt_add_left_iff_pos, Nat.zero_lt_succ, Nat.reduceAdd, Nat.reduceLT]
  refine ⟨_, rfl, small_nat (by omega), ?_⟩
  refine for_ok (fun i e => ∃ p x11 x12, ∃ ts : List (Str × Str × Int), e = [some p, some (.int n), some (.int L), some (.int most), some (.lst true (l.map D.str)), some (.lst true (hs.map D.int)), some (.lst false (ws.map workD)), x7, x8, x9, some (.lst false (ts.map tieD)), x11, x12, none, none, none, none] ∧ Pool p ∧ ts.length ≤ 200 ∧ ∀ t ∈ ts, PyData.strOk t.1 = true ∧ PyData.strOk t.2.1 = true) ⟨p3, none, none, [], rfl, hp3, by decide, fun _ m => (nomatch m)⟩ ?_ ?_
  · rintro i d e hi ⟨p, x11, x12, ts, rfl, hp, ht, hto⟩
    obtain ⟨rfl, hin⟩ := rngD_at hi
    have hin : i < n := by simpa using hin
    have e0 : (0 : Int) + (i : Int) = i := by omega
    rw [e0]
    simp only [w_pC, w_pVar, w_pOwn, w_p1, w_p2, w_pSl, w_oNo, w_oSome, w_pTup, w_pCall, w_aNil, w_aCons, w_pIsi, w_pIsi2, w_eP, w_eMove, w_e1, w_e2, w_eTup, w_eLst, w_eFz, w_eCall, w_aNilE, w_aConsE, w_eIf, w_eComp, w_eDc, w_eDef, w_cNil, w_cVal, w_cBor, w_eMeth, w_eMetP, w_plVar, w_plIx, w_eSMet, w_yesT, w_tP, w_p2t, w_e2t, w_tTruP, w_tTru, w_tNo, w_tAnd2, w_tOr2, w_iSeq, w_iRange1, w_iRange2, w_iEnumE, rngD_len, w_gNm, w_gTup, w_gsNil, w_gsCons, w_gPut, w_sNil, w_sRet, w_sExpr, w_sAsg, w_sIf, w_sFor, w_sFz, ok_some, ok_map, takeB, giveB, outsOf, wipeE, im_non, im_bl, im_int, im_str, im_tup, im_scr, im_lst, im_dcK, im_dcT, fz_non, fz_bl, fz_int, fz_str, fz_tup, fz_scr, fz_lstT, fz_lst, fz_dcT, fz_dcK, wk_tup, wk_lst, wk_scr, wk_str, sI_tup, sI_lst, tr_bl, lt_int, gt_int, le_int, ge_int, eq_int, ne_int, eq_str, ne_str, ne_bl, eq_bl, add_int, sub_int, neg_int, g_int, g_abs, ix_tup, ix_lst, at0, at1, at2, g_len_tup, g_len_lst, List.getElem?_cons_zero, List.getElem?_cons_succ, List.set_cons_zero, List.set_cons_succ, List.length_cons, List.length_nil, List.map_cons, List.map_nil, List.replicate_succ, List.replicate_zero, List.cons_append, List.nil_append, List.head?_cons, List.tail_cons, Option.join_some, Option.map_some, if_true, if_false, ite_true, ite_false, reduceIte, reduceCtorEq, BEq.rfl, Bool.false_eq_true, Bool.not_true, Bool.not_false, List.all_cons, List.all_nil, Bool.and_true, Bool.true_and, Bool.and_self, true_and, and_true, exists_eq_left, exists_eq_left', D.bl.injEq, D.int.injEq, D.str.injEq, D.tup.injEq, Out.rt.injEq, Nat.lt_add_left_iff_pos, Nat.zero_lt_succ, Nat.reduceAdd, Nat.reduceLT]
    refine ⟨_, rfl, small_nat (by omega), ?_⟩
    refine for_ok (fun j e => ∃ p x12, ∃ ts : List (Str × Str × Int), e = [some p, some (.int n), some (.int L), some (.int most), some (.lst true (l.map D.str)), some (.lst true (hs.map D.int)), some (.lst false (ws.map workD)), x7, x8, x9, some (.lst false (ts.map tieD)), some (.int i), x12, none, none, none, none] ∧ Pool p ∧ ts.length ≤ 200 ∧ ∀ t ∈ ts, PyData.strOk t.1 = true ∧ PyData.strOk t.2.1 = true) ⟨p, x12, ts, rfl, hp, ht, hto⟩ ?_ ?_
    · rintro j d e hj ⟨p, x12, ts, rfl, hp, ht, hto⟩
      obtain ⟨rfl, hjn⟩ := rngD_at hj
      have hjn : j < n := by simpa using hjn
      have e1 : (0 : Int) + (j : Int) = j := by omega
      rw [e1]
      have ha : L2.atI (hs.map D.int) (i : Int) = some (.int hs[i]) := at_map (by omega)
      have hb : L2.atI (hs.map D.int) (j : Int) = some (.int hs[j]) := at_map (by omega)
      have hc : L2.atI (l.map D.str) (i : Int) = some (.str l[i]) := at_map (by omega)
      have hd : L2.atI (l.map D.str) (j : Int) = some (.str l[j]) := at_map (by omega)
      have keep : ∃ p' x12', ∃ ts' : List (Str × Str × Int), [some p, some (.int n), some (.int L), some (.int most), some (.lst true (l.map D.str)), some (.lst true (hs.map D.int)), some (.lst false (ws.map workD)), x7, x8, x9, some (.lst false (ts.map tieD)), some (.int i), some (.int j), none, none, none, none] = [some p', some (.int n), some (.int L), some (.int most), some (.lst true (l.map D.str)), some (.lst true (hs.map D.int)), some (.lst false (ws.map workD)), x7, x8, x9, some (.lst false (ts'.map tieD)), some (.int i), x12', none, none, none, none] ∧ Pool p' ∧ ts'.length ≤ 200 ∧ ∀ t ∈ ts', PyData.strOk t.1 = true ∧ PyData.strOk t.2.1 = true := ⟨p, _, ts, rfl, hp, ht, hto⟩
      simp only [w_pC, w_pVar, w_pOwn, w_p1, w_p2, w_pSl, w_oNo, w_oSome, w_pTup, w_pCall, w_aNil, w_aCons, w_pIsi, w_pIsi2, w_eP, w_eMove, w_e1, w_e2, w_eTup, w_eLst, w_eFz, w_eCall, w_aNilE, w_aConsE, w_eIf, w_eComp, w_eDc, w_eDef, w_cNil, w_cVal, w_cBor, w_eMeth, w_eMetP, w_plVar, w_plIx, w_eSMet, w_yesT, w_tP, w_p2t, w_e2t, w_tTruP, w_tTru, w_tNo, w_tAnd2, w_tOr2, w_iSeq, w_iRange1, w_iRange2, w_iEnumE, rngD_len, w_gNm, w_gTup, w_gsNil, w_gsCons, w_gPut, w_sNil, w_sRet, w_sExpr, w_sAsg, w_sIf, w_sFor, w_sFz, ok_some, ok_map, takeB, giveB, outsOf, wipeE, im_non, im_bl, im_int, im_str, im_tup, im_scr, im_lst, im_dcK, im_dcT, fz_non, fz_bl, fz_int, fz_str, fz_tup, fz_scr, fz_lstT, fz_lst, fz_dcT, fz_dcK, wk_tup, wk_lst, wk_scr, wk_str, sI_tup, sI_lst, tr_bl, lt_int, gt_int, le_int, ge_int, eq_int, ne_int, eq_str, ne_str, ne_bl, eq_bl, add_int, sub_int, neg_int, g_int, g_abs, ix_tup, ix_lst, at0, at1, at2, g_len_tup, g_len_lst, List.getElem?_cons_zero, List.getElem?_cons_succ, List.set_cons_zero, List.set_cons_succ, List.length_cons, List.length_nil, List.map_cons, List.map_nil, List.replicate_succ, List.replicate_zero, List.cons_append, List.nil_append, List.head?_cons, List.tail_cons, Option.join_some, Option.map_some, if_true, if_false, ite_true, ite_false, reduceIte, reduceCtorEq, BEq.rfl, Bool.false_eq_true, Bool.not_true, Bool.not_false, List.all_cons, List.all_nil, Bool.and_true, Bool.true_and, Bool.and_self, true_and, and_true, exists_eq_left, exists_eq_left', D.bl.injEq, D.int.injEq, D.str.injEq, D.tup.injEq, Out.rt.injEq, Nat.lt_add_left_iff_pos, Nat.zero_lt_succ, Nat.reduceAdd, Nat.reduceLT, ha, hb, lt_tup, hp.imm, List.length_map]
      refine ⟨by decide, by decide, ?_⟩
      cases HT.lexLt [hs[i], (i : Int)] [hs[j], (j : Int)] with
      | false => simp only [w_pC, w_pVar, w_pOwn, w_p1, w_p2, w_pSl, w_oNo, w_oSome, w_pTup, w_pCall, w_aNil, w_aCons, w_pIsi, w_pIsi2, w_eP, w_eMove, w_e1, w_e2, w_eTup, w_eLst, w_eFz, w_eCall, w_aNilE, w_aConsE, w_eIf, w_eComp, w_eDc, w_eDef, w_cNil, w_cVal, w_cBor, w_eMeth, w_eMetP, w_plVar, w_plIx, w_eSMet, w_yesT, w_tP, w_p2t, w_e2t, w_tTruP, w_tTru, w_tNo, w_tAnd2, w_tOr2, w_iSeq, w_iRange1, w_iRange2, w_iEnumE, rngD_len, w_gNm, w_gTup, w_gsNil, w_gsCons, w_gPut, w_sNil, w_sRet, w_sExpr, w_sAsg, w_sIf, w_sFor, w_sFz, ok_some, ok_map, takeB, giveB, outsOf, wipeE, im_non, im_bl, im_int, im_str, im_tup, im_scr, im_lst, im_dcK, im_dcT, fz_non, fz_bl, fz_int, fz_str, fz_tup, fz_scr, fz_lstT, fz_lst, fz_dcT, fz_dcK, wk_tup, wk_lst, wk_scr, wk_str, sI_tup, sI_lst, tr_bl, lt_int, gt_int, le_int, ge_int, eq_int, ne_int, eq_str, ne_str, ne_bl, eq_bl, add_int, sub_int, neg_int, g_int, g_abs, ix_tup, ix_lst, at0, at1, at2, g_len_tup, g_len_lst, List.getElem?_cons_zero, List.getElem?_cons_succ, List.set_cons_zero, List.set_cons_succ, List.length_cons, List.length_nil, List.map_cons, List.map_nil, List.replicate_succ, List.replicate_zero, List.cons_append, List.nil_append, List.head?_cons, List.tail_cons, Option.join_some, Option.map_some, if_true, if_false, ite_true, ite_false, reduceIte, reduceCtorEq, BEq.rfl, Bool.false_eq_true, Bool.not_true, Bool.not_false, List.all_cons, List.all_nil, Bool.and_true, Bool.true_and, Bool.and_self, true_and, and_true, exists_eq_left, exists_eq_left', D.bl.injEq, D.int.injEq, D.str.injEq, D.tup.injEq, Out.rt.injEq, Nat.lt_add_left_iff_pos, Nat.zero_lt_succ, Nat.reduceAdd, Nat.reduceLT]; exact keep
      | true =>
        by_cases ht2 : (ts.length : Int) < 200
        · simp only [w_pC, w_pVar, w_pOwn, w_p1, w_p2, w_pSl, w_oNo, w_oSome, w_pTup, w_pCall, w_aNil, w_aCons, w_pIsi, w_pIsi2, w_eP, w_eMove, w_e1, w_e2, w_eTup, w_eLst, w_eFz, w_eCall, w_aNilE, w_aConsE, w_eIf, w_eComp, w_eDc, w_eDef, w_cNil, w_cVal, w_cBor, w_eMeth, w_eMetP, w_plVar, w_plIx, w_eSMet, w_yesT, w_tP, w_p2t, w_e2t, w_tTruP, w_tTru, w_tNo, w_tAnd2, w_tOr2, w_iSeq, w_iRange1, w_iRange2, w_iEnumE, rngD_len, w_gNm, w_gTup, w_gsNil, w_gsCons, w_gPut, w_sNil, w_sRet, w_sExpr, w_sAsg, w_sIf, w_sFor, w_sFz, ok_some, ok_map, takeB, giveB, outsOf, wipeE, im_non, im_bl, im_int, im_str, im_tup, im_scr, im_lst, im_dcK, im_dcT, fz_non, fz_bl, fz_int, fz_str, fz_tup, fz_scr, fz_lstT, fz_lst, fz_dcT, fz_dcK, wk_tup, wk_lst, wk_scr, wk_str, sI_tup, sI_lst, tr_bl, lt_int, gt_int, le_int, ge_int, eq_int, ne_int, eq_str, ne_str, ne_bl, eq_bl, add_int, sub_int, neg_int, g_int, g_abs, ix_tup, ix_lst, at0, at1, at2, g_len_tup, g_len_lst, List.getElem?_cons_zero, List.getElem?_cons_succ, List.set_cons_zero, List.set_cons_succ, List.length_cons, List.length_nil, List.map_cons, List.map_nil, List.replicate_succ, List.replicate_zero, List.cons_append, List.nil_append, List.head?_cons, List.tail_cons, Option.join_some, Option.map_some, if_true, if_false, ite_true, ite_false, reduceIte, reduceCtorEq, BEq.rfl, Bool.false_eq_true, Bool.not_true, Bool.not_false, List.all_cons, List.all_nil, Bool.and_true, Bool.true_and, Bool.and_self, true_and, and_true, exists_eq_left, exists_eq_left', D.bl.injEq, D.int.injEq, D.str.injEq, D.tup.injEq, Out.rt.injEq, Nat.lt_add_left_iff_pos, Nat.zero_lt_succ, Nat.reduceAdd, Nat.reduceLT, ht2, decide_true]
          refine draw_w hp (by decide) (by decide) fun r1 q1 _ _ hq1 => ?_
          by_cases hr : r1 = 0
          · simp only [w_pC, w_pVar, w_pOwn, w_p1, w_p2, w_pSl, w_oNo, w_oSome, w_pTup, w_pCall, w_aNil, w_aCons, w_pIsi, w_pIsi2, w_eP, w_eMove, w_e1, w_e2, w_eTup, w_eLst, w_eFz, w_eCall, w_aNilE, w_aConsE, w_eIf, w_eComp, w_eDc, w_eDef, w_cNil, w_cVal, w_cBor, w_eMeth, w_eMetP, w_plVar, w_plIx, w_eSMet, w_yesT, w_tP, w_p2t, w_e2t, w_tTruP, w_tTru, w_tNo, w_tAnd2, w_tOr2, w_iSeq, w_iRange1, w_iRange2, w_iEnumE, rngD_len, w_gNm, w_gTup, w_gsNil, w_gsCons, w_gPut, w_sNil, w_sRet, w_sExpr, w_sAsg, w_sIf, w_sFor, w_sFz, ok_some, ok_map, takeB, giveB, outsOf, wipeE, im_non, im_bl, im_int, im_str, im_tup, im_scr, im_lst, im_dcK, im_dcT, fz_non, fz_bl, fz_int, fz_str, fz_tup, fz_scr, fz_lstT, fz_lst, fz_dcT, fz_dcK, wk_tup, wk_lst, wk_scr, wk_str, sI_tup, sI_lst, tr_bl, lt_int, gt_int, le_int, ge_int, eq_int, ne_int, eq_str, ne_str, ne_bl, eq_bl, add_int, sub_int, neg_int, g_int, g_abs, ix_tup, ix_lst, at0, at1, at2, g_len_tup, g_len_lst, List.getElem?_cons_zero, List.getElem?_cons_succ, List.set_cons_zero, List.set_cons_succ, List.length_cons, List.length_nil, List.map_cons, List.map_nil, List.replicate_succ, List.replicate_zero, List.cons_append, List.nil_append, List.head?_cons, List.tail_cons, Option.join_some, Option.map_some, if_true, if_false, ite_true, ite_false, reduceIte, reduceCtorEq, BEq.rfl, Bool.false_eq_true, Bool.not_true, Bool.not_false, List.all_cons, List.all_nil, Bool.and_true, Bool.true_and, Bool.and_self, true_and, and_true, exists_eq_left, exists_eq_left', D.bl.injEq, D.int.injEq, D.str.injEq, D.tup.injEq, Out.rt.injEq, Nat.lt_add_left_iff_pos, Nat.zero_lt_succ, Nat.reduceAdd, Nat.reduceLT, beq_iff_eq.mpr hr, hc, hd, hp.imm, hq1.imm]
            refine ⟨rfl, draw_w hq1 (by decide) (by decide) fun r2 q2 _ _ hq2 => ?_⟩
            simp only [w_pC, w_pVar, w_pOwn, w_p1, w_p2, w_pSl, w_oNo, w_oSome, w_pTup, w_pCall, w_aNil, w_aCons, w_pIsi, w_pIsi2, w_eP, w_eMove, w_e1, w_e2, w_eTup, w_eLst, w_eFz, w_eCall, w_aNilE, w_aConsE, w_eIf, w_eComp, w_eDc, w_eDef, w_cNil, w_cVal, w_cBor, w_eMeth, w_eMetP, w_plVar, w_plIx, w_eSMet, w_yesT, w_tP, w_p2t, w_e2t, w_tTruP, w_tTru, w_tNo, w_tAnd2, w_tOr2, w_iSeq, w_iRange1, w_iRange2, w_iEnumE, rngD_len, w_gNm, w_gTup, w_gsNil, w_gsCons, w_gPut, w_sNil, w_sRet, w_sExpr, w_sAsg, w_sIf, w_sFor, w_sFz, ok_some, ok_map, takeB, giveB, outsOf, wipeE, im_non, im_bl, im_int, im_str, im_tup, im_scr, im_lst, im_dcK, im_dcT, fz_non, fz_bl, fz_int, fz_str, fz_tup, fz_scr, fz_lstT, fz_lst, fz_dcT, fz_dcK, wk_tup, wk_lst, wk_scr, wk_str, sI_tup, sI_lst, tr_bl, lt_int, gt_int, le_int, ge_int, eq_int, ne_int, eq_str, ne_str, ne_bl, eq_bl, add_int, sub_int, neg_int, g_int, g_abs, ix_tup, ix_lst, at0, at1, at2, g_len_tup, g_len_lst, List.getElem?_cons_zero, List.getElem?_cons_succ, List.set_cons_zero, List.set_cons_succ, List.length_cons, List.length_nil, List.map_cons, List.map_nil, List.replicate_succ, List.replicate_zero, List.cons_append, List.nil_append, List.head?_cons, List.tail_cons, Option.join_some, Option.map_some, if_true, if_false, ite_true, ite_false, reduceIte, reduceCtorEq, BEq.rfl, Bool.false_eq_true, Bool.not_true, Bool.not_false, List.all_cons, List.all_nil, Bool.and_true, Bool.true_and, Bool.and_self, true_and, and_true, exists_eq_left, exists_eq_left', D.bl.injEq, D.int.injEq, D.str.injEq, D.tup.injEq, Out.rt.injEq, Nat.lt_add_left_iff_pos, Nat.zero_lt_succ, Nat.reduceAdd, Nat.reduceLT, hq1.imm, app_lst (a := ts.map tieD) (by rw [List.length_map]; omega)]
            exact ⟨by decide, q2, some (.int j), ts ++ [(l[i], l[j], r2)], by simp [tieD], hq2, by simp; omega, fun t m => by
              rcases List.mem_append.mp m with m | m
              · exact hto t m
              · have : t = (l[i], l[j], r2) := by simpa using m
                rw [this]; exact ⟨hlo _ (List.getElem_mem _), hlo _ (List.getElem_mem _)⟩⟩
          · simp only [w_pC, w_pVar, w_pOwn, w_p1, w_p2, w_pSl, w_oNo, w_oSome, w_pTup, w_pCall, w_aNil, w_aCons, w_pIsi, w_pIsi2, w_eP, w_eMove, w_e1, w_e2, w_eTup, w_eLst, w_eFz, w_eCall, w_aNilE, w_aConsE, w_eIf, w_eComp, w_eDc, w_eDef, w_cNil, w_cVal, w_cBor, w_eMeth, w_eMetP, w_plVar, w_plIx, w_eSMet, w_yesT, w_tP, w_p2t, w_e2t, w_tTruP, w_tTru, w_tNo, w_tAnd2, w_tOr2, w_iSeq, w_iRange1, w_iRange2, w_iEnumE, rngD_len, w_gNm, w_gTup, w_gsNil, w_gsCons, w_gPut, w_sNil, w_sRet, w_sExpr, w_sAsg, w_sIf, w_sFor, w_sFz, ok_some, ok_map, takeB, giveB, outsOf, wipeE, im_non, im_bl, im_int, im_str, im_tup, im_scr, im_lst, im_dcK, im_dcT, fz_non, fz_bl, fz_int, fz_str, fz_tup, fz_scr, fz_lstT, fz_lst, fz_dcT, fz_dcK, wk_tup, wk_lst, wk_scr, wk_str, sI_tup, sI_lst, tr_bl, lt_int, gt_int, le_int, ge_int, eq_int, ne_int, eq_str, ne_str, ne_bl, eq_bl, add_int, sub_int, neg_int, g_int, g_abs, ix_tup, ix_lst, at0, at1, at2, g_len_tup, g_len_lst, List.getElem?_cons_zero, List.getElem?_cons_succ, List.set_cons_zero, List.set_cons_succ, List.length_cons, List.length_nil, List.map_cons, List.map_nil, List.replicate_succ, List.replicate_zero, List.cons_append, List.nil_append, List.head?_cons, List.tail_cons, Option.join_some, Option.map_some, if_true, if_false, ite_true, ite_false, reduceIte, reduceCtorEq, BEq.rfl, Bool.false_eq_true, Bool.not_true, Bool.not_false, List.all_cons, List.all_nil, Bool.and_true, Bool.true_and, Bool.and_self, true_and, and_true, exists_eq_left, exists_eq_left', D.bl.injEq, D.int.injEq, D.str.injEq, D.tup.injEq, Out.rt.injEq, Nat.lt_add_left_iff_pos, Nat.zero_lt_succ, Nat.reduceAdd, Nat.reduceLT, beq_eq_false_iff_ne.mpr hr, hp.imm]
            exact ⟨q1, _, ts, rfl, hq1, ht, hto⟩
        · simp only [w_pC, w_pVar, w_pOwn, w_p1, w_p2, w_pSl, w_oNo, w_oSome, w_pTup, w_pCall, w_aNil, w_aCons, w_pIsi, w_pIsi2, w_eP, w_eMove, w_e1, w_e2, w_eTup, w_eLst, w_eFz, w_eCall, w_aNilE, w_aConsE, w_eIf, w_eComp, w_eDc, w_eDef, w_cNil, w_cVal, w_cBor, w_eMeth, w_eMetP, w_plVar, w_plIx, w_eSMet, w_yesT, w_tP, w_p2t, w_e2t, w_tTruP, w_tTru, w_tNo, w_tAnd2, w_tOr2, w_iSeq, w_iRange1, w_iRange2, w_iEnumE, rngD_len, w_gNm, w_gTup, w_gsNil, w_gsCons, w_gPut, w_sNil, w_sRet, w_sExpr, w_sAsg, w_sIf, w_sFor, w_sFz, ok_some, ok_map, takeB, giveB, outsOf, wipeE, im_non, im_bl, im_int, im_str, im_tup, im_scr, im_lst, im_dcK, im_dcT, fz_non, fz_bl, fz_int, fz_str, fz_tup, fz_scr, fz_lstT, fz_lst, fz_dcT, fz_dcK, wk_tup, wk_lst, wk_scr, wk_str, sI_tup, sI_lst, tr_bl, lt_int, gt_int, le_int, ge_int, eq_int, ne_int, eq_str, ne_str, ne_bl, eq_bl, add_int, sub_int, neg_int, g_int, g_abs, ix_tup, ix_lst, at0, at1, at2, g_len_tup, g_len_lst, List.getElem?_cons_zero, List.getElem?_cons_succ, List.set_cons_zero, List.set_cons_succ, List.length_cons, List.length_nil, List.map_cons, List.map_nil, List.replicate_succ, List.replicate_zero, List.cons_append, List.nil_append, List.head?_cons, List.tail_cons, Option.join_some, Option.map_some, if_true, if_false, ite_true, ite_false, reduceIte, reduceCtorEq, BEq.rfl, Bool.false_eq_true, Bool.not_true, Bool.not_false, List.all_cons, List.all_nil, Bool.and_true, Bool.true_and, Bool.and_self, true_and, and_true, exists_eq_left, exists_eq_left', D.bl.injEq, D.int.injEq, D.str.injEq, D.tup.injEq, Out.rt.injEq, Nat.lt_add_left_iff_pos, Nat.zero_lt_succ, Nat.reduceAdd, Nat.reduceLT, ht2, decide_false]
          exact keep
    · rintro e ⟨p, x12, ts, rfl, hp, ht, hto⟩
      exact ⟨rfl, p, _, _, ts, rfl, hp, ht, hto⟩
  rintro e ⟨p4, x11, x12, ts, rfl, hp4, ht, hto⟩
  refine ⟨rfl, ?_⟩
  refine seq_ok ?_
  simp only [w_pC, w_pVar, w_pOwn, w_p1, w_p2, w_pSl, w_oNo, w_oSome, w_pTup, w_pCall, w_aNil, w_aCons, w_pIsi, w_pIsi2, w_eP, w_eMove, w_e1, w_e2, w_eTup, w_eLst, w_eFz, w_eCall, w_aNilE, w_aConsE, w_eIf, w_eComp, w_eDc, w_eDef, w_cNil, w_cVal, w_cBor, w_eMeth, w_eMetP, w_plVar, w_plIx, w_eSMet, w_yesT, w_tP, w_p2t, w_e2t, w_tTruP, w_tTru, w_tNo, w_tAnd2, w_tOr2, w_iSeq, w_iRange1, w_iRange2, w_iEnumE, rngD_len, w_gNm, w_gTup, w_gsNil, w_gsCons, w_gPut, w_sNil, w_sRet, w_sExpr, w_sAsg, w_sIf, w_sFor, w_sFz, ok_some, ok_map, takeB, giveB, outsOf, wipeE, im_non, im_bl, im_int, im_str, im_tup, im_scr, im_lst, im_dcK, im_dcT, fz_non, fz_bl, fz_int, fz_str, fz_tup, fz_scr, fz_lstT, fz_lst, fz_dcT, fz_dcK, wk_tup, wk_lst, wk_scr, wk_str, sI_tup, sI_lst, tr_bl, lt_int, gt_int, le_int, ge_int, eq_int, ne_int, eq_str, ne_str, ne_bl, eq_bl, add_int, sub_int, neg_int, g_int, g_abs, ix_tup, ix_lst, at0, at1, at2, g_len_tup, g_len_lst, List.getElem?_cons_zero, List.getElem?_cons_succ, List.set_cons_zero, List.set_cons_succ, List.length_cons, List.length_nil, List.map_cons, List.map_nil, List.replicate_succ, List.replicate_zero, List.cons_append, List.nil_append, List.head?_cons, List.tail_cons, Option.join_some, Option.map_some, if_true, if_false, ite_true, ite_false, reduceIte, reduceCtorEq, BEq.rfl, Bool.false_eq_true, Bool.not_true, Bool.not_false, List.all_cons, List.all_nil, Bool.and_true, Bool.true_and, Bool.and_self, true_and, and_true, exists_eq_left, exists_eq_left', D.bl.injEq, D.int.injEq, D.str.injEq, D.tup.injEq, Out.rt.injEq, Nat.lt_add_left_iff_pos, Nat.zero_lt_succ, Nat.reduceAdd, Nat.reduceLT]
  refine ⟨_, rfl, small_nat (by omega), ?_⟩
  refine comp_ok (fun j e acc => ∃ p x16, ∃ row : List Int, e = [some p, some (.int n), some (.int L), some (.int most), some (.lst true (l.map D.str)), some (.lst true (hs.map D.int)), some (.lst false (ws.map workD)), x7, x8, x9, some (.lst false (ts.map tieD)), x11, x12, none, none, none, x16] ∧ Pool p ∧ acc = row.map D.int ∧ row.length = j ∧ ∀ x ∈ row, 0 ≤ x ∧ x ≤ 1000) ⟨p4, none, [], rfl, hp4, rfl, rfl, fun _ m => (nomatch m)⟩ ?_ ?_
  · rintro j d e acc hj ⟨p, x16, row, rfl, hp, rfl, hr, hpos⟩
    obtain ⟨_, hjv⟩ := rngD_at hj
    have hjv : j < L := by simpa using hjv
    simp only [wipeE, w_pC, w_pVar, w_pOwn, w_p1, w_p2, w_pSl, w_oNo, w_oSome, w_pTup, w_pCall, w_aNil, w_aCons, w_pIsi, w_pIsi2, w_eP, w_eMove, w_e1, w_e2, w_eTup, w_eLst, w_eFz, w_eCall, w_aNilE, w_aConsE, w_eIf, w_eComp, w_eDc, w_eDef, w_cNil, w_cVal, w_cBor, w_eMeth, w_eMetP, w_plVar, w_plIx, w_eSMet, w_yesT, w_tP, w_p2t, w_e2t, w_tTruP, w_tTru, w_tNo, w_tAnd2, w_tOr2, w_iSeq, w_iRange1, w_iRange2, w_iEnumE, rngD_len, w_gNm, w_gTup, w_gsNil, w_gsCons, w_gPut, w_sNil, w_sRet, w_sExpr, w_sAsg, w_sIf, w_sFor, w_sFz, ok_some, ok_map, takeB, giveB, outsOf, wipeE, im_non, im_bl, im_int, im_str, im_tup, im_scr, im_lst, im_dcK, im_dcT, fz_non, fz_bl, fz_int, fz_str, fz_tup, fz_scr, fz_lstT, fz_lst, fz_dcT, fz_dcK, wk_tup, wk_lst, wk_scr, wk_str, sI_tup, sI_lst, tr_bl, lt_int, gt_int, le_int, ge_int, eq_int, ne_int, eq_str, ne_str, ne_bl, eq_bl, add_int, sub_int, neg_int, g_int, g_abs, ix_tup, ix_lst, at0, at1, at2, g_len_tup, g_len_lst, List.getElem?_cons_zero, List.getElem?_cons_succ, List.set_cons_zero, List.set_cons_succ, List.length_cons, List.length_nil, List.map_cons, List.map_nil, List.replicate_succ, List.replicate_zero, List.cons_append, List.nil_append, List.head?_cons, List.tail_cons, Option.join_some, Option.map_some, if_true, if_false, ite_true, ite_false, reduceIte, reduceCtorEq, BEq.rfl, Bool.false_eq_true, Bool.not_true, Bool.not_false, List.all_cons, List.all_nil, Bool.and_true, Bool.true_and, Bool.and_self, true_and, and_true, exists_eq_left, exists_eq_left', D.bl.injEq, D.int.injEq, D.str.injEq, D.tup.injEq, Out.rt.injEq, Nat.lt_add_left_iff_pos, Nat.zero_lt_succ, Nat.reduceAdd, Nat.reduceLT, hp.imm]
    refine draw_w hp (by decide) (by decide) fun r p' r0 r1 hp' => ?_
    simp only [w_pC, w_pVar, w_pOwn, w_p1, w_p2, w_pSl, w_oNo, w_oSome, w_pTup, w_pCall, w_aNil, w_aCons, w_pIsi, w_pIsi2, w_eP, w_eMove, w_e1, w_e2, w_eTup, w_eLst, w_eFz, w_eCall, w_aNilE, w_aConsE, w_eIf, w_eComp, w_eDc, w_eDef, w_cNil, w_cVal, w_cBor, w_eMeth, w_eMetP, w_plVar, w_plIx, w_eSMet, w_yesT, w_tP, w_p2t, w_e2t, w_tTruP, w_tTru, w_tNo, w_tAnd2, w_tOr2, w_iSeq, w_iRange1, w_iRange2, w_iEnumE, rngD_len, w_gNm, w_gTup, w_gsNil, w_gsCons, w_gPut, w_sNil, w_sRet, w_sExpr, w_sAsg, w_sIf, w_sFor, w_sFz, ok_some, ok_map, takeB, giveB, outsOf, wipeE, im_non, im_bl, im_int, im_str, im_tup, im_scr, im_lst, im_dcK, im_dcT, fz_non, fz_bl, fz_int, fz_str, fz_tup, fz_scr, fz_lstT, fz_lst, fz_dcT, fz_dcK, wk_tup, wk_lst, wk_scr, wk_str, sI_tup, sI_lst, tr_bl, lt_int, gt_int, le_int, ge_int, eq_int, ne_int, eq_str, ne_str, ne_bl, eq_bl, add_int, sub_int, neg_int, g_int, g_abs, ix_tup, ix_lst, at0, at1, at2, g_len_tup, g_len_lst, List.getElem?_cons_zero, List.getElem?_cons_succ, List.set_cons_zero, List.set_cons_succ, List.length_cons, List.length_nil, List.map_cons, List.map_nil, List.replicate_succ, List.replicate_zero, List.cons_append, List.nil_append, List.head?_cons, List.tail_cons, Option.join_some, Option.map_some, if_true, if_false, ite_true, ite_false, reduceIte, reduceCtorEq, BEq.rfl, Bool.false_eq_true, Bool.not_true, Bool.not_false, List.all_cons, List.all_nil, Bool.and_true, Bool.true_and, Bool.and_self, true_and, and_true, exists_eq_left, exists_eq_left', D.bl.injEq, D.int.injEq, D.str.injEq, D.tup.injEq, Out.rt.injEq, Nat.lt_add_left_iff_pos, Nat.zero_lt_succ, Nat.reduceAdd, Nat.reduceLT, hp.imm]
    refine ⟨by rw [List.length_map]; show row.length < 16777216; omega, _, _, row ++ [r], rfl, hp', by simp, by simp [hr], fun x m => ?_⟩
    rcases List.mem_append.mp m with m | m
    · exact hpos x m
    · have : x = r := by simpa using m
      subst this
      exact ⟨r0, by omega⟩
  rintro e acc ⟨p5, x16, row, rfl, hp5, rfl, hr, hpos⟩
  rw [rngD_len] at hr
  have hr : row.length = L := by simpa using hr
  obtain ⟨ts', ht1, ht2, ht3⟩ := sorted_any (f := tieD) ts (by omega) (fun _ => rfl) (fun _ => by simp [tieD, nodic, nodics]) (fun _ _ => by simp [tieD, py, pys, PySem.W.alike, PySem.W.alikeAll]) (fun _ => rfl) (fun _ => by simp [tieD, py, pys, PyData.depth, PyData.depthAll])
  simp only [wipeE, w_pC, w_pVar, w_pOwn, w_p1, w_p2, w_pSl, w_oNo, w_oSome, w_pTup, w_pCall, w_aNil, w_aCons, w_pIsi, w_pIsi2, w_eP, w_eMove, w_e1, w_e2, w_eTup, w_eLst, w_eFz, w_eCall, w_aNilE, w_aConsE, w_eIf, w_eComp, w_eDc, w_eDef, w_cNil, w_cVal, w_cBor, w_eMeth, w_eMetP, w_plVar, w_plIx, w_eSMet, w_yesT, w_tP, w_p2t, w_e2t, w_tTruP, w_tTru, w_tNo, w_tAnd2, w_tOr2, w_iSeq, w_iRange1, w_iRange2, w_iEnumE, rngD_len, w_gNm, w_gTup, w_gsNil, w_gsCons, w_gPut, w_sNil, w_sRet, w_sExpr, w_sAsg, w_sIf, w_sFor, w_sFz, ok_some, ok_map, takeB, giveB, outsOf, wipeE, im_non, im_bl, im_int, im_str, im_tup, im_scr, im_lst, im_dcK, im_dcT, fz_non, fz_bl, fz_int, fz_str, fz_tup, fz_scr, fz_lstT, fz_lst, fz_dcT, fz_dcK, wk_tup, wk_lst, wk_scr, wk_str, sI_tup, sI_lst, tr_bl, lt_int, gt_int, le_int, ge_int, eq_int, ne_int, eq_str, ne_str, ne_bl, eq_bl, add_int, sub_int, neg_int, g_int, g_abs, ix_tup, ix_lst, at0, at1, at2, g_len_tup, g_len_lst, List.getElem?_cons_zero, List.getElem?_cons_succ, List.set_cons_zero, List.set_cons_succ, List.length_cons, List.length_nil, List.map_cons, List.map_nil, List.replicate_succ, List.replicate_zero, List.cons_append, List.nil_append, List.head?_cons, List.tail_cons, Option.join_some, Option.map_some, if_true, if_false, ite_true, ite_false, reduceIte, reduceCtorEq, BEq.rfl, Bool.false_eq_true, Bool.not_true, Bool.not_false, List.all_cons, List.all_nil, Bool.and_true, Bool.true_and, Bool.and_self, true_and, and_true, exists_eq_left, exists_eq_left', D.bl.injEq, D.int.injEq, D.str.injEq, D.tup.injEq, Out.rt.injEq, Nat.lt_add_left_iff_pos, Nat.zero_lt_succ, Nat.reduceAdd, Nat.reduceLT, fzs_map row (fun _ => fz_int), hp5.imm]
  refine draw_w hp5 (by decide) (by decide) fun r1 q1 r0 r2 hq1 => ?_
  simp only [w_pC, w_pVar, w_pOwn, w_p1, w_p2, w_pSl, w_oNo, w_oSome, w_pTup, w_pCall, w_aNil, w_aCons, w_pIsi, w_pIsi2, w_eP, w_eMove, w_e1, w_e2, w_eTup, w_eLst, w_eFz, w_eCall, w_aNilE, w_aConsE, w_eIf, w_eComp, w_eDc, w_eDef, w_cNil, w_cVal, w_cBor, w_eMeth, w_eMetP, w_plVar, w_plIx, w_eSMet, w_yesT, w_tP, w_p2t, w_e2t, w_tTruP, w_tTru, w_tNo, w_tAnd2, w_tOr2, w_iSeq, w_iRange1, w_iRange2, w_iEnumE, rngD_len, w_gNm, w_gTup, w_gsNil, w_gsCons, w_gPut, w_sNil, w_sRet, w_sExpr, w_sAsg, w_sIf, w_sFor, w_sFz, ok_some, ok_map, takeB, giveB, outsOf, wipeE, im_non, im_bl, im_int, im_str, im_tup, im_scr, im_lst, im_dcK, im_dcT, fz_non, fz_bl, fz_int, fz_str, fz_tup, fz_scr, fz_lstT, fz_lst, fz_dcT, fz_dcK, wk_tup, wk_lst, wk_scr, wk_str, sI_tup, sI_lst, tr_bl, lt_int, gt_int, le_int, ge_int, eq_int, ne_int, eq_str, ne_str, ne_bl, eq_bl, add_int, sub_int, neg_int, g_int, g_abs, ix_tup, ix_lst, at0, at1, at2, g_len_tup, g_len_lst, List.getElem?_cons_zero, List.getElem?_cons_succ, List.set_cons_zero, List.set_cons_succ, List.length_cons, List.length_nil, List.map_cons, List.map_nil, List.replicate_succ, List.replicate_zero, List.cons_append, List.nil_append, List.head?_cons, List.tail_cons, Option.join_some, Option.map_some, if_true, if_false, ite_true, ite_false, reduceIte, reduceCtorEq, BEq.rfl, Bool.false_eq_true, Bool.not_true, Bool.not_false, List.all_cons, List.all_nil, Bool.and_true, Bool.true_and, Bool.and_self, true_and, and_true, exists_eq_left, exists_eq_left', D.bl.injEq, D.int.injEq, D.str.injEq, D.tup.injEq, Out.rt.injEq, Nat.lt_add_left_iff_pos, Nat.zero_lt_succ, Nat.reduceAdd, Nat.reduceLT, hp5.imm]
  refine plain_w (l := row) (g_list_lst (ints_imm row)) (by omega) ?_
  simp only [w_pC, w_pVar, w_pOwn, w_p1, w_p2, w_pSl, w_oNo, w_oSome, w_pTup, w_pCall, w_aNil, w_aCons, w_pIsi, w_pIsi2, w_eP, w_eMove, w_e1, w_e2, w_eTup, w_eLst, w_eFz, w_eCall, w_aNilE, w_aConsE, w_eIf, w_eComp, w_eDc, w_eDef, w_cNil, w_cVal, w_cBor, w_eMeth, w_eMetP, w_plVar, w_plIx, w_eSMet, w_yesT, w_tP, w_p2t, w_e2t, w_tTruP, w_tTru, w_tNo, w_tAnd2, w_tOr2, w_iSeq, w_iRange1, w_iRange2, w_iEnumE, rngD_len, w_gNm, w_gTup, w_gsNil, w_gsCons, w_gPut, w_sNil, w_sRet, w_sExpr, w_sAsg, w_sIf, w_sFor, w_sFz, ok_some, ok_map, takeB, giveB, outsOf, wipeE, im_non, im_bl, im_int, im_str, im_tup, im_scr, im_lst, im_dcK, im_dcT, fz_non, fz_bl, fz_int, fz_str, fz_tup, fz_scr, fz_lstT, fz_lst, fz_dcT, fz_dcK, wk_tup, wk_lst, wk_scr, wk_str, sI_tup, sI_lst, tr_bl, lt_int, gt_int, le_int, ge_int, eq_int, ne_int, eq_str, ne_str, ne_bl, eq_bl, add_int, sub_int, neg_int, g_int, g_abs, ix_tup, ix_lst, at0, at1, at2, g_len_tup, g_len_lst, List.getElem?_cons_zero, List.getElem?_cons_succ, List.set_cons_zero, List.set_cons_succ, List.length_cons, List.length_nil, List.map_cons, List.map_nil, List.replicate_succ, List.replicate_zero, List.cons_append, List.nil_append, List.head?_cons, List.tail_cons, Option.join_some, Option.map_some, if_true, if_false, ite_true, ite_false, reduceIte, reduceCtorEq, BEq.rfl, Bool.false_eq_true, Bool.not_true, Bool.not_false, List.all_cons, List.all_nil, Bool.and_true, Bool.true_and, Bool.and_self, true_and, and_true, exists_eq_left, exists_eq_left', D.bl.injEq, D.int.injEq, D.str.injEq, D.tup.injEq, Out.rt.injEq, Nat.lt_add_left_iff_pos, Nat.zero_lt_succ, Nat.reduceAdd, Nat.reduceLT, ht2, g_tuple (ds := ws.map workD) (all_map _ fun _ => rfl), g_tuple (ds := ts'.map tieD) (all_map _ fun _ => rfl)]
  refine ⟨by decide, q ⟨rstrip r1 row, r1, ws, ts'⟩ q1 ⟨?_, fun x m => ?_, fun x m => ?_, by show ws.length ≤ 40; omega, by show ts'.length ≤ 200; omega, fun t m => ?_⟩ hq1⟩
  · have := rstrip_le r1 row
    show (rstrip r1 row).length ≤ 1000
    omega
  · obtain ⟨t, h⟩ := rstrip_pre r1 row
    exact (hpos x (by rw [h]; exact List.mem_append_left _ m)).1
  · obtain ⟨t, h⟩ := rstrip_pre r1 row
    exact (hpos x (by rw [h]; exact List.mem_append_left _ m)).2
  · obtain ⟨a, ma, e⟩ := List.mem_map.mp (ht3 (tieD t) (List.mem_map_of_mem m))
    have : a = t := by
      obtain ⟨a1, a2, a3⟩ := a
      obtain ⟨t1, t2, t3⟩ := t
      simpa [tieD] using e
    rw [← this]
    exact hto a ma

/-! ### conditions -/
inductive Cond where
  | beg (n : Str) | fin (n : Str) | hand (h : Nat) (m : Int) | tie (a b : Str)
deriving DecidableEq
def condD : Cond → D
  | .beg n => .tup [.str "begin", .str n]
  | .fin n => .tup [.str "end", .str n]
  | .hand h m => .tup [.str "hand", .int h, .int m]
  | .tie a b => .tup [.str "tie", .str a, .str b]
def begC (w : Str × Int × Int) : Option Cond := if 0 < w.2.1 then some (.beg w.1) else none
def finC (w : Str × Int × Int) : Option Cond := if w.2.2 < 1000 then some (.fin w.1) else none
def handsAt (h : Nat) (m : Int) : List Cond := (List.range (2 - m).toNat).map fun k => .hand h (m + (k : Nat))
def handsTo (row : List Int) (i : Nat) : List Cond := (List.range i).flatMap fun h => handsAt h (row.getD h 0)
def conds (S : Sheet) : List Cond := S.works.filterMap begC ++ S.works.filterMap finC ++ handsTo S.row S.row.length ++ S.ties.map fun t => .tie t.1 t.2.1
theorem cond_imm (l : List Cond) : (l.map condD).all isImm = true := all_map _ fun c => by cases c <;> rfl
theorem handsTo_succ {row : List Int} {i : Nat} (h : i < row.length) : handsTo row (i + 1) = handsTo row i ++ handsAt i row[i] := by
  unfold handsTo
  rw [List.range_succ, List.flatMap_append]
  simp [List.getD_eq_getElem?_getD, h]
theorem handsAt_len {h : Nat} {m : Int} (hm : 0 ≤ m) : (handsAt h m).length ≤ 2 := by
  unfold handsAt
  rw [List.length_map, List.length_range]; omega
theorem handsTo_len {row : List Int} (hp : ∀ x ∈ row, 0 ≤ x) : ∀ i, i ≤ row.length → (handsTo row i).length ≤ 2 * i
  | 0, _ => by simp [handsTo]
  | i + 1, h => by
    rw [handsTo_succ (by omega), List.length_append]
    have a := handsTo_len hp i (by omega)
    have b := handsAt_len (h := i) (hp row[i] (List.getElem_mem _))
    omega
theorem fm_len {α β : Type} (f : α → Option β) (l : List α) : (l.filterMap f).length ≤ l.length := List.length_filterMap_le ..
/-- a comprehension, item by item -/
theorem comp_fm {α β : Type} {vs : List Nat} {g : GSm} {c : TSm} {el : ESm} {w : Env} {f : α → D} {h : β → D} (sel : α → Option β) : ∀ {xs : List α} {env : Env} {acc : List D} {Q : List D × Env → Prop}, wipeE env vs = w →
    (∀ x ∈ xs, Ok (g (f x) w) fun e1 => Ok (c e1) fun b => if b.1 = true then (∃ y, sel x = some y ∧ Ok (el b.2) fun r => r.1 = h y ∧ wipeE r.2 vs = w) else sel x = none ∧ wipeE b.2 vs = w) → acc.length + xs.length ≤ 16777216 →
    Q (acc ++ (xs.filterMap sel).map h, w) → Ok (compL vs g c el (xs.map f) env acc) Q
  | [], env, acc, Q, h0, _, _, q => by
    rw [List.filterMap_nil, List.map_nil, List.append_nil] at q
    exact ⟨(acc, wipeE env vs), rfl, by rw [h0]; exact q⟩
  | x :: xs, env, acc, Q, h0, hs, hz, q => by
    obtain ⟨e1, k1, ⟨b, e2⟩, k2, k3⟩ := hs x List.mem_cons_self
    have hz' : acc.length + (xs.length + 1) ≤ 16777216 := hz
    rw [List.map_cons]
    unfold compL
    rw [h0, k1, Option.bind_some, k2, Option.bind_some]
    cases b with
    | false =>
      obtain ⟨k4, k5⟩ : sel x = none ∧ wipeE e2 vs = w := by simpa using k3
      rw [List.filterMap_cons_none k4] at q
      exact comp_fm sel k5 (fun x m => hs x (List.mem_cons_of_mem _ m)) (by omega) q
    | true =>
      obtain ⟨y, k4, ⟨r, e3⟩, k5, k6, k7⟩ : ∃ y, sel x = some y ∧ Ok (el e2) fun r => r.1 = h y ∧ wipeE r.2 vs = w := by simpa using k3
      have k6 : r = h y := k6
      subst k6
      rw [List.filterMap_cons_some k4] at q
      show Ok ((el e2).bind _) Q
      rw [k5, Option.bind_some]
      show Ok (if acc.length < szL then _ else none) Q
      rw [if_pos (show acc.length < 16777216 by omega)]
      refine comp_fm sel k7 (fun x m => hs x (List.mem_cons_of_mem _ m)) (by rw [List.length_append]; show acc.length + 1 + xs.length ≤ 16777216; omega) ?_
      simpa using q
theorem filterMap_all {α β : Type} (f : α → β) (l : List α) : l.filterMap (fun x => some (f x)) = l.map f := by
  rw [List.filterMap_eq_map']
theorem rng_map (m : Int) (n : Nat) : rngD m n = (List.range n).map fun k => D.int (m + (k : Nat)) := rfl
theorem conditions_w {S : Sheet} {Q : D × List (Option D) → Prop} (hS : S.Fine) (q : Q (.tup ((conds S).map condD), [some (sheetD S)])) : Ok (F_conditions_of [sheetD S]) Q := by
  obtain ⟨h1, h2, h5, h3, h4, _⟩ := hS
  refine fn_ok rfl ?_
  unfold B_conditions_of
  simp only [List.map_cons, List.map_nil, List.replicate_succ, List.replicate_zero, List.cons_append, List.nil_append]
  refine seq_ok ?_
  have im : isImm (sheetD S) = true := rfl
  simp only [w_pC, w_pVar, w_pOwn, w_p1, w_p2, w_pSl, w_oNo, w_oSome, w_pTup, w_pCall, w_aNil, w_aCons, w_pIsi, w_pIsi2, w_eP, w_eMove, w_e1, w_e2, w_eTup, w_eLst, w_eFz, w_eCall, w_aNilE, w_aConsE, w_eIf, w_eComp, w_eDc, w_eDef, w_cNil, w_cVal, w_cBor, w_eMeth, w_eMetP, w_plVar, w_plIx, w_eSMet, w_yesT, w_tP, w_p2t, w_e2t, w_tTruP, w_tTru, w_tNo, w_tAnd2, w_tOr2, w_iSeq, w_iRange1, w_iRange2, w_iEnumE, rngD_len, w_gNm, w_gTup, w_gsNil, w_gsCons, w_gPut, w_sNil, w_sRet, w_sExpr, w_sAsg, w_sIf, w_sFor, w_sFz, ok_some, ok_map, takeB, giveB, outsOf, wipeE, im_non, im_bl, im_int, im_str, im_tup, im_scr, im_lst, im_dcK, im_dcT, fz_non, fz_bl, fz_int, fz_str, fz_tup, fz_scr, fz_lstT, fz_lst, fz_dcT, fz_dcK, wk_tup, wk_lst, wk_scr, wk_str, sI_tup, sI_lst, tr_bl, lt_int, gt_int, le_int, ge_int, eq_int, ne_int, eq_str, ne_str, ne_bl, eq_bl, add_int, sub_int, neg_int, g_int, g_abs, ix_tup, ix_lst, at0, at1, at2, g_len_tup, g_len_lst, List.getElem?_cons_zero, List.getElem?_cons_succ, List.set_cons_zero, List.set_cons_succ, List.length_cons, List.length_nil, List.map_cons, List.map_nil, List.replicate_succ, List.replicate_zero, List.cons_append, List.nil_append, List.head?_cons, List.tail_cons, Option.join_some, Option.map_some, if_true, if_false, ite_true, ite_false, reduceIte, reduceCtorEq, BEq.rfl, Bool.false_eq_true, Bool.not_true, Bool.not_false, List.all_cons, List.all_nil, Bool.and_true, Bool.true_and, Bool.and_self, true_and, and_true, exists_eq_left, exists_eq_left', D.bl.injEq, D.int.injEq, D.str.injEq, D.tup.injEq, Out.rt.injEq, Nat.lt_add_left_iff_pos, Nat.zero_lt_succ, Nat.reduceAdd, Nat.reduceLT, im]
  simp only [sheetD, w_pC, w_pVar, w_pOwn, w_p1, w_p2, w_pSl, w_oNo, w_oSome, w_pTup, w_pCall, w_aNil, w_aCons, w_pIsi, w_pIsi2, w_eP, w_eMove, w_e1, w_e2, w_eTup, w_eLst, w_eFz, w_eCall, w_aNilE, w_aConsE, w_eIf, w_eComp, w_eDc, w_eDef, w_cNil, w_cVal, w_cBor, w_eMeth, w_eMetP, w_plVar, w_plIx, w_eSMet, w_yesT, w_tP, w_p2t, w_e2t, w_tTruP, w_tTru, w_tNo, w_tAnd2, w_tOr2, w_iSeq, w_iRange1, w_iRange2, w_iEnumE, rngD_len, w_gNm, w_gTup, w_gsNil, w_gsCons, w_gPut, w_sNil, w_sRet, w_sExpr, w_sAsg, w_sIf, w_sFor, w_sFz, ok_some, ok_map, takeB, giveB, outsOf, wipeE, im_non, im_bl, im_int, im_str, im_tup, im_scr, im_lst, im_dcK, im_dcT, fz_non, fz_bl, fz_int, fz_str, fz_tup, fz_scr, fz_lstT, fz_lst, fz_dcT, fz_dcK, wk_tup, wk_lst, wk_scr, wk_str, sI_tup, sI_lst, tr_bl, lt_int, gt_int, le_int, ge_int, eq_int, ne_int, eq_str, ne_str, ne_bl, eq_bl, add_int, sub_int, neg_int, g_int, g_abs, ix_tup, ix_lst, at0, at1, at2, g_len_tup, g_len_lst, List.getElem?_cons_zero, List.getElem?_cons_succ, List.set_cons_zero, List.set_cons_succ, List.length_cons, List.length_nil, List.map_cons, List.map_nil, List.replicate_succ, List.replicate_zero, List.cons_append, List.nil_append, List.head?_cons, List.tail_cons, Option.join_some, Option.map_some, if_true, if_false, ite_true, ite_false, reduceIte, reduceCtorEq, BEq.rfl, Bool.false_eq_true, Bool.not_true, Bool.not_false, List.all_cons, List.all_nil, Bool.and_true, Bool.true_and, Bool.and_self, true_and, and_true, exists_eq_left, exists_eq_left', D.bl.injEq, D.int.injEq, D.str.injEq, D.tup.injEq, Out.rt.injEq, Nat.lt_add_left_iff_pos, Nat.zero_lt_succ, Nat.reduceAdd, Nat.reduceLT]
  refine seq_ok ?_
  simp only [w_pC, w_pVar, w_pOwn, w_p1, w_p2, w_pSl, w_oNo, w_oSome, w_pTup, w_pCall, w_aNil, w_aCons, w_pIsi, w_pIsi2, w_eP, w_eMove, w_e1, w_e2, w_eTup, w_eLst, w_eFz, w_eCall, w_aNilE, w_aConsE, w_eIf, w_eComp, w_eDc, w_eDef, w_cNil, w_cVal, w_cBor, w_eMeth, w_eMetP, w_plVar, w_plIx, w_eSMet, w_yesT, w_tP, w_p2t, w_e2t, w_tTruP, w_tTru, w_tNo, w_tAnd2, w_tOr2, w_iSeq, w_iRange1, w_iRange2, w_iEnumE, rngD_len, w_gNm, w_gTup, w_gsNil, w_gsCons, w_gPut, w_sNil, w_sRet, w_sExpr, w_sAsg, w_sIf, w_sFor, w_sFz, ok_some, ok_map, takeB, giveB, outsOf, wipeE, im_non, im_bl, im_int, im_str, im_tup, im_scr, im_lst, im_dcK, im_dcT, fz_non, fz_bl, fz_int, fz_str, fz_tup, fz_scr, fz_lstT, fz_lst, fz_dcT, fz_dcK, wk_tup, wk_lst, wk_scr, wk_str, sI_tup, sI_lst, tr_bl, lt_int, gt_int, le_int, ge_int, eq_int, ne_int, eq_str, ne_str, ne_bl, eq_bl, add_int, sub_int, neg_int, g_int, g_abs, ix_tup, ix_lst, at0, at1, at2, g_len_tup, g_len_lst, List.getElem?_cons_zero, List.getElem?_cons_succ, List.set_cons_zero, List.set_cons_succ, List.length_cons, List.length_nil, List.map_cons, List.map_nil, List.replicate_succ, List.replicate_zero, List.cons_append, List.nil_append, List.head?_cons, List.tail_cons, Option.join_some, Option.map_some, if_true, if_false, ite_true, ite_false, reduceIte, reduceCtorEq, BEq.rfl, Bool.false_eq_true, Bool.not_true, Bool.not_false, List.all_cons, List.all_nil, Bool.and_true, Bool.true_and, Bool.and_self, true_and, and_true, exists_eq_left, exists_eq_left', D.bl.injEq, D.int.injEq, D.str.injEq, D.tup.injEq, Out.rt.injEq, Nat.lt_add_left_iff_pos, Nat.zero_lt_succ, Nat.reduceAdd, Nat.reduceLT]
  refine comp_fm (h := condD) begC (by rfl) (fun x _ => ?_) (by rw [List.length_nil]; omega) ?_
  · simp only [wipeE, w_pC, w_pVar, w_pOwn, w_p1, w_p2, w_pSl, w_oNo, w_oSome, w_pTup, w_pCall, w_aNil, w_aCons, w_pIsi, w_pIsi2, w_eP, w_eMove, w_e1, w_e2, w_eTup, w_eLst, w_eFz, w_eCall, w_aNilE, w_aConsE, w_eIf, w_eComp, w_eDc, w_eDef, w_cNil, w_cVal, w_cBor, w_eMeth, w_eMetP, w_plVar, w_plIx, w_eSMet, w_yesT, w_tP, w_p2t, w_e2t, w_tTruP, w_tTru, w_tNo, w_tAnd2, w_tOr2, w_iSeq, w_iRange1, w_iRange2, w_iEnumE, rngD_len, w_gNm, w_gTup, w_gsNil, w_gsCons, w_gPut, w_sNil, w_sRet, w_sExpr, w_sAsg, w_sIf, w_sFor, w_sFz, ok_some, ok_map, takeB, giveB, outsOf, wipeE, im_non, im_bl, im_int, im_str, im_tup, im_scr, im_lst, im_dcK, im_dcT, fz_non, fz_bl, fz_int, fz_str, fz_tup, fz_scr, fz_lstT, fz_lst, fz_dcT, fz_dcK, wk_tup, wk_lst, wk_scr, wk_str, sI_tup, sI_lst, tr_bl, lt_int, gt_int, le_int, ge_int, eq_int, ne_int, eq_str, ne_str, ne_bl, eq_bl, add_int, sub_int, neg_int, g_int, g_abs, ix_tup, ix_lst, at0, at1, at2, g_len_tup, g_len_lst, List.getElem?_cons_zero, List.getElem?_cons_succ, List.set_cons_zero, List.set_cons_succ, List.length_cons, List.length_nil, List.map_cons, List.map_nil, List.replicate_succ, List.replicate_zero, List.cons_append, List.nil_append, List.head?_cons, List.tail_cons, Option.join_some, Option.map_some, if_true, if_false, ite_true, ite_false, reduceIte, reduceCtorEq, BEq.rfl, Bool.false_eq_true, Bool.not_true, Bool.not_false, List.all_cons, List.all_nil, Bool.and_true, Bool.true_and, Bool.and_self, true_and, and_true, exists_eq_left, exists_eq_left', D.bl.injEq, D.int.injEq, D.str.injEq, D.tup.injEq, Out.rt.injEq, Nat.lt_add_left_iff_pos, Nat.zero_lt_succ, Nat.reduceAdd, Nat.reduceLT, workD, begC]
    by_cases hx : 0 < x.2.1
    · simp only [w_pC, w_pVar, w_pOwn, w_p1, w_p2, w_pSl, w_oNo, w_oSome, w_pTup, w_pCall, w_aNil, w_aCons, w_pIsi, w_pIsi2, w_eP, w_eMove, w_e1, w_e2, w_eTup, w_eLst, w_eFz, w_eCall, w_aNilE, w_aConsE, w_eIf, w_eComp, w_eDc, w_eDef, w_cNil, w_cVal, w_cBor, w_eMeth, w_eMetP, w_plVar, w_plIx, w_eSMet, w_yesT, w_tP, w_p2t, w_e2t, w_tTruP, w_tTru, w_tNo, w_tAnd2, w_tOr2, w_iSeq, w_iRange1, w_iRange2, w_iEnumE, rngD_len, w_gNm, w_gTup, w_gsNil, w_gsCons, w_gPut, w_sNil, w_sRet, w_sExpr, w_sAsg, w_sIf, w_sFor, w_sFz, ok_some, ok_map, takeB, giveB, outsOf, wipeE, im_non, im_bl, im_int, im_str, im_tup, im_scr, im_lst, im_dcK, im_dcT, fz_non, fz_bl, fz_int, fz_str, fz_tup, fz_scr, fz_lstT, fz_lst, fz_dcT, fz_dcK, wk_tup, wk_lst, wk_scr, wk_str, sI_tup, sI_lst, tr_bl, lt_int, gt_int, le_int, ge_int, eq_int, ne_int, eq_str, ne_str, ne_bl, eq_bl, add_int, sub_int, neg_int, g_int, g_abs, ix_tup, ix_lst, at0, at1, at2, g_len_tup, g_len_lst, List.getElem?_cons_zero, List.getElem?_cons_succ, List.set_cons_zero, List.set_cons_succ, List.length_cons, List.length_nil, List.map_cons, List.map_nil, List.replicate_succ, List.replicate_zero, List.cons_append, List.nil_append, List.head?_cons, List.tail_cons, Option.join_some, Option.map_some, if_true, if_false, ite_true, ite_false, reduceIte, reduceCtorEq, BEq.rfl, Bool.false_eq_true, Bool.not_true, Bool.not_false, List.all_cons, List.all_nil, Bool.and_true, Bool.true_and, Bool.and_self, true_and, and_true, exists_eq_left, exists_eq_left', D.bl.injEq, D.int.injEq, D.str.injEq, D.tup.injEq, Out.rt.injEq, Nat.lt_add_left_iff_pos, Nat.zero_lt_succ, Nat.reduceAdd, Nat.reduceLT, hx, decide_true]
      exact ⟨_, rfl, by decide, rfl⟩
    · simp only [w_pC, w_pVar, w_pOwn, w_p1, w_p2, w_pSl, w_oNo, w_oSome, w_pTup, w_pCall, w_aNil, w_aCons, w_pIsi, w_pIsi2, w_eP, w_eMove, w_e1, w_e2, w_eTup, w_eLst, w_eFz, w_eCall, w_aNilE, w_aConsE, w_eIf, w_eComp, w_eDc, w_eDef, w_cNil, w_cVal, w_cBor, w_eMeth, w_eMetP, w_plVar, w_plIx, w_eSMet, w_yesT, w_tP, w_p2t, w_e2t, w_tTruP, w_tTru, w_tNo, w_tAnd2, w_tOr2, w_iSeq, w_iRange1, w_iRange2, w_iEnumE, rngD_len, w_gNm, w_gTup, w_gsNil, w_gsCons, w_gPut, w_sNil, w_sRet, w_sExpr, w_sAsg, w_sIf, w_sFor, w_sFz, ok_some, ok_map, takeB, giveB, outsOf, wipeE, im_non, im_bl, im_int, im_str, im_tup, im_scr, im_lst, im_dcK, im_dcT, fz_non, fz_bl, fz_int, fz_str, fz_tup, fz_scr, fz_lstT, fz_lst, fz_dcT, fz_dcK, wk_tup, wk_lst, wk_scr, wk_str, sI_tup, sI_lst, tr_bl, lt_int, gt_int, le_int, ge_int, eq_int, ne_int, eq_str, ne_str, ne_bl, eq_bl, add_int, sub_int, neg_int, g_int, g_abs, ix_tup, ix_lst, at0, at1, at2, g_len_tup, g_len_lst, List.getElem?_cons_zero, List.getElem?_cons_succ, List.set_cons_zero, List.set_cons_succ, List.length_cons, List.length_nil, List.map_cons, List.map_nil, List.replicate_succ, List.replicate_zero, List.cons_append, List.nil_append, List.head?_cons, List.tail_cons, Option.join_some, Option.map_some, if_true, if_false, ite_true, ite_false, reduceIte, reduceCtorEq, BEq.rfl, Bool.false_eq_true, Bool.not_true, Bool.not_false, List.all_cons, List.all_nil, Bool.and_true, Bool.true_and, Bool.and_self, true_and, and_true, exists_eq_left, exists_eq_left', D.bl.injEq, D.int.injEq, D.str.injEq, D.tup.injEq, Out.rt.injEq, Nat.lt_add_left_iff_pos, Nat.zero_lt_succ, Nat.reduceAdd, Nat.reduceLT, hx, decide_false]
  simp only [wipeE, w_pC, w_pVar, w_pOwn, w_p1, w_p2, w_pSl, w_oNo, w_oSome, w_pTup, w_pCall, w_aNil, w_aCons, w_pIsi, w_pIsi2, w_eP, w_eMove, w_e1, w_e2, w_eTup, w_eLst, w_eFz, w_eCall, w_aNilE, w_aConsE, w_eIf, w_eComp, w_eDc, w_eDef, w_cNil, w_cVal, w_cBor, w_eMeth, w_eMetP, w_plVar, w_plIx, w_eSMet, w_yesT, w_tP, w_p2t, w_e2t, w_tTruP, w_tTru, w_tNo, w_tAnd2, w_tOr2, w_iSeq, w_iRange1, w_iRange2, w_iEnumE, rngD_len, w_gNm, w_gTup, w_gsNil, w_gsCons, w_gPut, w_sNil, w_sRet, w_sExpr, w_sAsg, w_sIf, w_sFor, w_sFz, ok_some, ok_map, takeB, giveB, outsOf, wipeE, im_non, im_bl, im_int, im_str, im_tup, im_scr, im_lst, im_dcK, im_dcT, fz_non, fz_bl, fz_int, fz_str, fz_tup, fz_scr, fz_lstT, fz_lst, fz_dcT, fz_dcK, wk_tup, wk_lst, wk_scr, wk_str, sI_tup, sI_lst, tr_bl, lt_int, gt_int, le_int, ge_int, eq_int, ne_int, eq_str, ne_str, ne_bl, eq_bl, add_int, sub_int, neg_int, g_int, g_abs, ix_tup, ix_lst, at0, at1, at2, g_len_tup, g_len_lst, List.getElem?_cons_zero, List.getElem?_cons_succ, List.set_cons_zero, List.set_cons_succ, List.length_cons, List.length_nil, List.map_cons, List.map_nil, List.replicate_succ, List.replicate_zero, List.cons_append, List.nil_append, List.head?_cons, List.tail_cons, Option.join_some, Option.map_some, if_true, if_false, ite_true, ite_false, reduceIte, reduceCtorEq, BEq.rfl, Bool.false_eq_true, Bool.not_true, Bool.not_false, List.all_cons, List.all_nil, Bool.and_true, Bool.true_and, Bool.and_self, true_and, and_true, exists_eq_left, exists_eq_left', D.bl.injEq, D.int.injEq, D.str.injEq, D.tup.injEq, Out.rt.injEq, Nat.lt_add_left_iff_pos, Nat.zero_lt_succ, Nat.reduceAdd, Nat.reduceLT]
  refine seq_ok ?_
  simp only [w_pC, w_pVar, w_pOwn, w_p1, w_p2, w_pSl, w_oNo, w_oSome, w_pTup, w_pCall, w_aNil, w_aCons, w_pIsi, w_pIsi2, w_eP, w_eMove, w_e1, w_e2, w_eTup, w_eLst, w_eFz, w_eCall, w_aNilE, w_aConsE, w_eIf, w_eComp, w_eDc, w_eDef, w_cNil, w_cVal, w_cBor, w_eMeth, w_eMetP, w_plVar, w_plIx, w_eSMet, w_yesT, w_tP, w_p2t, w_e2t, w_tTruP, w_tTru, w_tNo, w_tAnd2, w_tOr2, w_iSeq, w_iRange1, w_iRange2, w_iEnumE, rngD_len, w_gNm, w_gTup, w_gsNil, w_gsCons, w_gPut, w_sNil, w_sRet, w_sExpr, w_sAsg, w_sIf, w_sFor, w_sFz, ok_some, ok_map, takeB, giveB, outsOf, wipeE, im_non, im_bl, im_int, im_str, im_tup, im_scr, im_lst, im_dcK, im_dcT, fz_non, fz_bl, fz_int, fz_str, fz_tup, fz_scr, fz_lstT, fz_lst, fz_dcT, fz_dcK, wk_tup, wk_lst, wk_scr, wk_str, sI_tup, sI_lst, tr_bl, lt_int, gt_int, le_int, ge_int, eq_int, ne_int, eq_str, ne_str, ne_bl, eq_bl, add_int, sub_int, neg_int, g_int, g_abs, ix_tup, ix_lst, at0, at1, at2, g_len_tup, g_len_lst, List.getElem?_cons_zero, List.getElem?_cons_succ, List.set_cons_zero, List.set_cons_succ, List.length_cons, List.length_nil, List.map_cons, List.map_nil, List.replicate_succ, List.replicate_zero, List.cons_append, List.nil_append, List.head?_cons, List.tail_cons, Option.join_some, Option.map_some, if_true, if_false, ite_true, ite_false, reduceIte, reduceCtorEq, BEq.rfl, Bool.false_eq_true, Bool.not_true, Bool.not_false, List.all_cons, List.all_nil, Bool.and_true, Bool.true_and, Bool.and_self, true_and, and_true, exists_eq_left, exists_eq_left', D.bl.injEq, D.int.injEq, D.str.injEq, D.tup.injEq, Out.rt.injEq, Nat.lt_add_left_iff_pos, Nat.zero_lt_succ, Nat.reduceAdd, Nat.reduceLT]
  refine ⟨rfl, ?_⟩
  have lb := fm_len begC S.works
  have lf := fm_len finC S.works
  refine comp_fm (h := condD) finC (by rfl) (fun x _ => ?_) (by rw [List.length_nil]; omega) ?_
  · simp only [wipeE, w_pC, w_pVar, w_pOwn, w_p1, w_p2, w_pSl, w_oNo, w_oSome, w_pTup, w_pCall, w_aNil, w_aCons, w_pIsi, w_pIsi2, w_eP, w_eMove, w_e1, w_e2, w_eTup, w_eLst, w_eFz, w_eCall, w_aNilE, w_aConsE, w_eIf, w_eComp, w_eDc, w_eDef, w_cNil, w_cVal, w_cBor, w_eMeth, w_eMetP, w_plVar, w_plIx, w_eSMet, w_yesT, w_tP, w_p2t, w_e2t, w_tTruP, w_tTru, w_tNo, w_tAnd2, w_tOr2, w_iSeq, w_iRange1, w_iRange2, w_iEnumE, rngD_len, w_gNm, w_gTup, w_gsNil, w_gsCons, w_gPut, w_sNil, w_sRet, w_sExpr, w_sAsg, w_sIf, w_sFor, w_sFz, ok_some, ok_map, takeB, giveB, outsOf, wipeE, im_non, im_bl, im_int, im_str, im_tup, im_scr, im_lst, im_dcK, im_dcT, fz_non, fz_bl, fz_int, fz_str, fz_tup, fz_scr, fz_lstT, fz_lst, fz_dcT, fz_dcK, wk_tup, wk_lst, wk_scr, wk_str, sI_tup, sI_lst, tr_bl, lt_int, gt_int, le_int, ge_int, eq_int, ne_int, eq_str, ne_str, ne_bl, eq_bl, add_int, sub_int, neg_int, g_int, g_abs, ix_tup, ix_lst, at0, at1, at2, g_len_tup, g_len_lst, List.getElem?_cons_zero, List.getElem?_cons_succ, List.set_cons_zero, List.set_cons_succ, List.length_cons, List.length_nil, List.map_cons, List.map_nil, List.replicate_succ, List.replicate_zero, List.cons_append, List.nil_append, List.head?_cons, List.tail_cons, Option.join_some, Option.map_some, if_true, if_false, ite_true, ite_false, reduceIte, reduceCtorEq, BEq.rfl, Bool.false_eq_true, Bool.not_true, Bool.not_false, List.all_cons, List.all_nil, Bool.and_true, Bool.true_and, Bool.and_self, true_and, and_true, exists_eq_left, exists_eq_left', D.bl.injEq, D.int.injEq, D.str.injEq, D.tup.injEq, Out.rt.injEq, Nat.lt_add_left_iff_pos, Nat.zero_lt_succ, Nat.reduceAdd, Nat.reduceLT, workD, finC]
    by_cases hx : x.2.2 < 1000
    · simp only [w_pC, w_pVar, w_pOwn, w_p1, w_p2, w_pSl, w_oNo, w_oSome, w_pTup, w_pCall, w_aNil, w_aCons, w_pIsi, w_pIsi2, w_eP, w_eMove, w_e1, w_e2, w_eTup, w_eLst, w_eFz, w_eCall, w_aNilE, w_aConsE, w_eIf, w_eComp, w_eDc, w_eDef, w_cNil, w_cVal, w_cBor, w_eMeth, w_eMetP, w_plVar, w_plIx, w_eSMet, w_yesT, w_tP, w_p2t, w_e2t, w_tTruP, w_tTru, w_tNo, w_tAnd2, w_tOr2, w_iSeq, w_iRange1, w_iRange2, w_iEnumE, rngD_len, w_gNm, w_gTup, w_gsNil, w_gsCons, w_gPut, w_sNil, w_sRet, w_sExpr, w_sAsg, w_sIf, w_sFor, w_sFz, ok_some, ok_map, takeB, giveB, outsOf, wipeE, im_non, im_bl, im_int, im_str, im_tup, im_scr, im_lst, im_dcK, im_dcT, fz_non, fz_bl, fz_int, fz_str, fz_tup, fz_scr, fz_lstT, fz_lst, fz_dcT, fz_dcK, wk_tup, wk_lst, wk_scr, wk_str, sI_tup, sI_lst, tr_bl, lt_int, gt_int, le_int, ge_int, eq_int, ne_int, eq_str, ne_str, ne_bl, eq_bl, add_int, sub_int, neg_int, g_int, g_abs, ix_tup, ix_lst, at0, at1, at2, g_len_tup, g_len_lst, List.getElem?_cons_zero, List.getElem?_cons_succ, List.set_cons_zero, List.set_cons_succ, List.length_cons, List.length_nil, List.map_cons, List.map_nil, List.replicate_succ, List.replicate_zero, List.cons_append, List.nil_append, List.head?_cons, List.tail_cons, Option.join_some, Option.map_some, if_true, if_false, ite_true, ite_false, reduceIte, reduceCtorEq, BEq.rfl, Bool.false_eq_true, Bool.not_true, Bool.not_false, List.all_cons, List.all_nil, Bool.and_true, Bool.true_and, Bool.and_self, true_and, and_true, exists_eq_left, exists_eq_left', D.bl.injEq, D.int.injEq, D.str.injEq, D.tup.injEq, Out.rt.injEq, Nat.lt_add_left_iff_pos, Nat.zero_lt_succ, Nat.reduceAdd, Nat.reduceLT, hx, decide_true]
      exact ⟨_, rfl, by decide, rfl⟩
    · simp only [w_pC, w_pVar, w_pOwn, w_p1, w_p2, w_pSl, w_oNo, w_oSome, w_pTup, w_pCall, w_aNil, w_aCons, w_pIsi, w_pIsi2, w_eP, w_eMove, w_e1, w_e2, w_eTup, w_eLst, w_eFz, w_eCall, w_aNilE, w_aConsE, w_eIf, w_eComp, w_eDc, w_eDef, w_cNil, w_cVal, w_cBor, w_eMeth, w_eMetP, w_plVar, w_plIx, w_eSMet, w_yesT, w_tP, w_p2t, w_e2t, w_tTruP, w_tTru, w_tNo, w_tAnd2, w_tOr2, w_iSeq, w_iRange1, w_iRange2, w_iEnumE, rngD_len, w_gNm, w_gTup, w_gsNil, w_gsCons, w_gPut, w_sNil, w_sRet, w_sExpr, w_sAsg, w_sIf, w_sFor, w_sFz, ok_some, ok_map, takeB, giveB, outsOf, wipeE, im_non, im_bl, im_int, im_str, im_tup, im_scr, im_lst, im_dcK, im_dcT, fz_non, fz_bl, fz_int, fz_str, fz_tup, fz_scr, fz_lstT, fz_lst, fz_dcT, fz_dcK, wk_tup, wk_lst, wk_scr, wk_str, sI_tup, sI_lst, tr_bl, lt_int, gt_int, le_int, ge_int, eq_int, ne_int, eq_str, ne_str, ne_bl, eq_bl, add_int, sub_int, neg_int, g_int, g_abs, ix_tup, ix_lst, at0, at1, at2, g_len_tup, g_len_lst, List.getElem?_cons_zero, List.getElem?_cons_succ, List.set_cons_zero, List.set_cons_succ, List.length_cons, List.length_nil, List.map_cons, List.map_nil, List.replicate_succ, List.replicate_zero, List.cons_append, List.nil_append, List.head?_cons, List.tail_cons, Option.join_some, Option.map_some, if_true, if_false, ite_true, ite_false, reduceIte, reduceCtorEq, BEq.rfl, Bool.false_eq_true, Bool.not_true, Bool.not_false, List.all_cons, List.all_nil, Bool.and_true, Bool.true_and, Bool.and_self, true_and, and_true, exists_eq_left, exists_eq_left', D.bl.injEq, D.int.injEq, D.str.injEq, D.tup.injEq, Out.rt.injEq, Nat.lt_add_left_iff_pos, Nat.zero_lt_succ, Nat.reduceAdd, Nat.reduceLT, hx, decide_false]
  simp only [wipeE, w_pC, w_pVar, w_pOwn, w_p1, w_p2, w_pSl, w_oNo, w_oSome, w_pTup, w_pCall, w_aNil, w_aCons, w_pIsi, w_pIsi2, w_eP, w_eMove, w_e1, w_e2, w_eTup, w_eLst, w_eFz, w_eCall, w_aNilE, w_aConsE, w_eIf, w_eComp, w_eDc, w_eDef, w_cNil, w_cVal, w_cBor, w_eMeth, w_eMetP, w_plVar, w_plIx, w_eSMet, w_yesT, w_tP, w_p2t, w_e2t, w_tTruP, w_tTru, w_tNo, w_tAnd2, w_tOr2, w_iSeq, w_iRange1, w_iRange2, w_iEnumE, rngD_len, w_gNm, w_gTup, w_gsNil, w_gsCons, w_gPut, w_sNil, w_sRet, w_sExpr, w_sAsg, w_sIf, w_sFor, w_sFz, ok_some, ok_map, takeB, giveB, outsOf, wipeE, im_non, im_bl, im_int, im_str, im_tup, im_scr, im_lst, im_dcK, im_dcT, fz_non, fz_bl, fz_int, fz_str, fz_tup, fz_scr, fz_lstT, fz_lst, fz_dcT, fz_dcK, wk_tup, wk_lst, wk_scr, wk_str, sI_tup, sI_lst, tr_bl, lt_int, gt_int, le_int, ge_int, eq_int, ne_int, eq_str, ne_str, ne_bl, eq_bl, add_int, sub_int, neg_int, g_int, g_abs, ix_tup, ix_lst, at0, at1, at2, g_len_tup, g_len_lst, List.getElem?_cons_zero, List.getElem?_cons_succ, List.set_cons_zero, List.set_cons_succ, List.length_cons, List.length_nil, List.map_cons, List.map_nil, List.replicate_succ, List.replicate_zero, List.cons_append, List.nil_append, List.head?_cons, List.tail_cons, Option.join_some, Option.map_some, if_true, if_false, ite_true, ite_false, reduceIte, reduceCtorEq, BEq.rfl, Bool.false_eq_true, Bool.not_true, Bool.not_false, List.all_cons, List.all_nil, Bool.and_true, Bool.true_and, Bool.and_self, true_and, and_true, exists_eq_left, exists_eq_left', D.bl.injEq, D.int.injEq, D.str.injEq, D.tup.injEq, Out.rt.injEq, Nat.lt_add_left_iff_pos, Nat.zero_lt_succ, Nat.reduceAdd, Nat.reduceLT, ext_lst (a := (S.works.filterMap begC).map condD) (b := (S.works.filterMap finC).map condD) (by rw [List.length_map, List.length_map]; omega) (cond_imm _)]
  refine seq_ok ?_
  simp only [w_pC, w_pVar, w_pOwn, w_p1, w_p2, w_pSl, w_oNo, w_oSome, w_pTup, w_pCall, w_aNil, w_aCons, w_pIsi, w_pIsi2, w_eP, w_eMove, w_e1, w_e2, w_eTup, w_eLst, w_eFz, w_eCall, w_aNilE, w_aConsE, w_eIf, w_eComp, w_eDc, w_eDef, w_cNil, w_cVal, w_cBor, w_eMeth, w_eMetP, w_plVar, w_plIx, w_eSMet, w_yesT, w_tP, w_p2t, w_e2t, w_tTruP, w_tTru, w_tNo, w_tAnd2, w_tOr2, w_iSeq, w_iRange1, w_iRange2, w_iEnumE, rngD_len, w_gNm, w_gTup, w_gsNil, w_gsCons, w_gPut, w_sNil, w_sRet, w_sExpr, w_sAsg, w_sIf, w_sFor, w_sFz, ok_some, ok_map, takeB, giveB, outsOf, wipeE, im_non, im_bl, im_int, im_str, im_tup, im_scr, im_lst, im_dcK, im_dcT, fz_non, fz_bl, fz_int, fz_str, fz_tup, fz_scr, fz_lstT, fz_lst, fz_dcT, fz_dcK, wk_tup, wk_lst, wk_scr, wk_str, sI_tup, sI_lst, tr_bl, lt_int, gt_int, le_int, ge_int, eq_int, ne_int, eq_str, ne_str, ne_bl, eq_bl, add_int, sub_int, neg_int, g_int, g_abs, ix_tup, ix_lst, at0, at1, at2, g_len_tup, g_len_lst, List.getElem?_cons_zero, List.getElem?_cons_succ, List.set_cons_zero, List.set_cons_succ, List.length_cons, List.length_nil, List.map_cons, List.map_nil, List.replicate_succ, List.replicate_zero, List.cons_append, List.nil_append, List.head?_cons, List.tail_cons, Option.join_some, Option.map_some, if_true, if_false, ite_true, ite_false, reduceIte, reduceCtorEq, BEq.rfl, Bool.false_eq_true, Bool.not_true, Bool.not_false, List.all_cons, List.all_nil, Bool.and_true, Bool.true_and, Bool.and_self, true_and, and_true, exists_eq_left, exists_eq_left', D.bl.injEq, D.int.injEq, D.str.injEq, D.tup.injEq, Out.rt.injEq, Nat.lt_add_left_iff_pos, Nat.zero_lt_succ, Nat.reduceAdd, Nat.reduceLT]
  refine ⟨_, _, rfl, sI_tup, ?_⟩
  have len_en : (enumD (S.row.map D.int)).length = S.row.length := by simp [enumD]
  refine for_ok (fun i e => ∃ x6 x7, e = [some (.tup [.tup [.tup (S.row.map D.int), .int S.rest], .tup (S.works.map workD), .tup (S.ties.map tieD)]), some (.tup (S.row.map D.int)), none, some (.tup (S.works.map workD)), some (.tup (S.ties.map tieD)), some (.lst false ((S.works.filterMap begC ++ S.works.filterMap finC ++ handsTo S.row i).map condD)), x6, x7, none, none, none, none, none, none, none]) ⟨none, none, by simp [handsTo]⟩ ?_ ?_
  · rintro i d e hi ⟨x6, x7, rfl⟩
    obtain ⟨d', hd', rfl⟩ := enum_at hi
    have hil : i < S.row.length := by simpa [enumD] using (List.getElem?_eq_some_iff.mp hi).1
    obtain rfl : d' = .int S.row[i] := by
      rw [List.getElem?_map, List.getElem?_eq_getElem hil] at hd'
      exact (Option.some.inj hd').symm
    have pos : 0 ≤ S.row[i] := h2 _ (List.getElem_mem hil)
    simp only [w_pC, w_pVar, w_pOwn, w_p1, w_p2, w_pSl, w_oNo, w_oSome, w_pTup, w_pCall, w_aNil, w_aCons, w_pIsi, w_pIsi2, w_eP, w_eMove, w_e1, w_e2, w_eTup, w_eLst, w_eFz, w_eCall, w_aNilE, w_aConsE, w_eIf, w_eComp, w_eDc, w_eDef, w_cNil, w_cVal, w_cBor, w_eMeth, w_eMetP, w_plVar, w_plIx, w_eSMet, w_yesT, w_tP, w_p2t, w_e2t, w_tTruP, w_tTru, w_tNo, w_tAnd2, w_tOr2, w_iSeq, w_iRange1, w_iRange2, w_iEnumE, rngD_len, w_gNm, w_gTup, w_gsNil, w_gsCons, w_gPut, w_sNil, w_sRet, w_sExpr, w_sAsg, w_sIf, w_sFor, w_sFz, ok_some, ok_map, takeB, giveB, outsOf, wipeE, im_non, im_bl, im_int, im_str, im_tup, im_scr, im_lst, im_dcK, im_dcT, fz_non, fz_bl, fz_int, fz_str, fz_tup, fz_scr, fz_lstT, fz_lst, fz_dcT, fz_dcK, wk_tup, wk_lst, wk_scr, wk_str, sI_tup, sI_lst, tr_bl, lt_int, gt_int, le_int, ge_int, eq_int, ne_int, eq_str, ne_str, ne_bl, eq_bl, add_int, sub_int, neg_int, g_int, g_abs, ix_tup, ix_lst, at0, at1, at2, g_len_tup, g_len_lst, List.getElem?_cons_zero, List.getElem?_cons_succ, List.set_cons_zero, List.set_cons_succ, List.length_cons, List.length_nil, List.map_cons, List.map_nil, List.replicate_succ, List.replicate_zero, List.cons_append, List.nil_append, List.head?_cons, List.tail_cons, Option.join_some, Option.map_some, if_true, if_false, ite_true, ite_false, reduceIte, reduceCtorEq, BEq.rfl, Bool.false_eq_true, Bool.not_true, Bool.not_false, List.all_cons, List.all_nil, Bool.and_true, Bool.true_and, Bool.and_self, true_and, and_true, exists_eq_left, exists_eq_left', D.bl.injEq, D.int.injEq, D.str.injEq, D.tup.injEq, Out.rt.injEq, Nat.lt_add_left_iff_pos, Nat.zero_lt_succ, Nat.reduceAdd, Nat.reduceLT]
    refine ⟨rfl, ?_⟩
    have hbig := h5 _ (List.getElem_mem hil)
    · refine ⟨_, _, rfl, ⟨⟨by omega, by omega⟩, small_nat (n := 2) (by decide)⟩, ?_⟩
      rw [rng_map]
      refine comp_fm (h := condD) (fun k => some (.hand i (S.row[i] + (k : Nat)))) (by rfl) (fun k _ => ?_) (by rw [List.length_nil, List.length_range]; omega) ?_
      · simp only [wipeE, w_pC, w_pVar, w_pOwn, w_p1, w_p2, w_pSl, w_oNo, w_oSome, w_pTup, w_pCall, w_aNil, w_aCons, w_pIsi, w_pIsi2, w_eP, w_eMove, w_e1, w_e2, w_eTup, w_eLst, w_eFz, w_eCall, w_aNilE, w_aConsE, w_eIf, w_eComp, w_eDc, w_eDef, w_cNil, w_cVal, w_cBor, w_eMeth, w_eMetP, w_plVar, w_plIx, w_eSMet, w_yesT, w_tP, w_p2t, w_e2t, w_tTruP, w_tTru, w_tNo, w_tAnd2, w_tOr2, w_iSeq, w_iRange1, w_iRange2, w_iEnumE, rngD_len, w_gNm, w_gTup, w_gsNil, w_gsCons, w_gPut, w_sNil, w_sRet, w_sExpr, w_sAsg, w_sIf, w_sFor, w_sFz, ok_some, ok_map, takeB, giveB, outsOf, wipeE, im_non, im_bl, im_int, im_str, im_tup, im_scr, im_lst, im_dcK, im_dcT, fz_non, fz_bl, fz_int, fz_str, fz_tup, fz_scr, fz_lstT, fz_lst, fz_dcT, fz_dcK, wk_tup, wk_lst, wk_scr, wk_str, sI_tup, sI_lst, tr_bl, lt_int, gt_int, le_int, ge_int, eq_int, ne_int, eq_str, ne_str, ne_bl, eq_bl, add_int, sub_int, neg_int, g_int, g_abs, ix_tup, ix_lst, at0, at1, at2, g_len_tup, g_len_lst, List.getElem?_cons_zero, List.getElem?_cons_succ, List.set_cons_zero, List.set_cons_succ, List.length_cons, List.length_nil, List.map_cons, List.map_nil, List.replicate_succ, List.replicate_zero, List.cons_append, List.nil_append, List.head?_cons, List.tail_cons, Option.join_some, Option.map_some, if_true, if_false, ite_true, ite_false, reduceIte, reduceCtorEq, BEq.rfl, Bool.false_eq_true, Bool.not_true, Bool.not_false, List.all_cons, List.all_nil, Bool.and_true, Bool.true_and, Bool.and_self, true_and, and_true, exists_eq_left, exists_eq_left', D.bl.injEq, D.int.injEq, D.str.injEq, D.tup.injEq, Out.rt.injEq, Nat.lt_add_left_iff_pos, Nat.zero_lt_succ, Nat.reduceAdd, Nat.reduceLT]
        exact ⟨_, rfl, by decide, rfl⟩
      have e1 : ((List.range (2 - S.row[i]).toNat).filterMap fun k => some (Cond.hand i (S.row[i] + (k : Nat)))) = handsAt i S.row[i] := filterMap_all _ _
      rw [e1]
      have l1 := handsTo_len h2 i (by omega)
      have l2 := handsAt_len (h := i) pos
      simp only [wipeE, w_pC, w_pVar, w_pOwn, w_p1, w_p2, w_pSl, w_oNo, w_oSome, w_pTup, w_pCall, w_aNil, w_aCons, w_pIsi, w_pIsi2, w_eP, w_eMove, w_e1, w_e2, w_eTup, w_eLst, w_eFz, w_eCall, w_aNilE, w_aConsE, w_eIf, w_eComp, w_eDc, w_eDef, w_cNil, w_cVal, w_cBor, w_eMeth, w_eMetP, w_plVar, w_plIx, w_eSMet, w_yesT, w_tP, w_p2t, w_e2t, w_tTruP, w_tTru, w_tNo, w_tAnd2, w_tOr2, w_iSeq, w_iRange1, w_iRange2, w_iEnumE, rngD_len, w_gNm, w_gTup, w_gsNil, w_gsCons, w_gPut, w_sNil, w_sRet, w_sExpr, w_sAsg, w_sIf, w_sFor, w_sFz, ok_some, ok_map, takeB, giveB, outsOf, wipeE, im_non, im_bl, im_int, im_str, im_tup, im_scr, im_lst, im_dcK, im_dcT, fz_non, fz_bl, fz_int, fz_str, fz_tup, fz_scr, fz_lstT, fz_lst, fz_dcT, fz_dcK, wk_tup, wk_lst, wk_scr, wk_str, sI_tup, sI_lst, tr_bl, lt_int, gt_int, le_int, ge_int, eq_int, ne_int, eq_str, ne_str, ne_bl, eq_bl, add_int, sub_int, neg_int, g_int, g_abs, ix_tup, ix_lst, at0, at1, at2, g_len_tup, g_len_lst, List.getElem?_cons_zero, List.getElem?_cons_succ, List.set_cons_zero, List.set_cons_succ, List.length_cons, List.length_nil, List.map_cons, List.map_nil, List.replicate_succ, List.replicate_zero, List.cons_append, List.nil_append, List.head?_cons, List.tail_cons, Option.join_some, Option.map_some, if_true, if_false, ite_true, ite_false, reduceIte, reduceCtorEq, BEq.rfl, Bool.false_eq_true, Bool.not_true, Bool.not_false, List.all_cons, List.all_nil, Bool.and_true, Bool.true_and, Bool.and_self, true_and, and_true, exists_eq_left, exists_eq_left', D.bl.injEq, D.int.injEq, D.str.injEq, D.tup.injEq, Out.rt.injEq, Nat.lt_add_left_iff_pos, Nat.zero_lt_succ, Nat.reduceAdd, Nat.reduceLT, ext_lst (a := (S.works.filterMap begC ++ S.works.filterMap finC ++ handsTo S.row i).map condD) (b := (handsAt i S.row[i]).map condD) (by simp only [List.length_map, List.length_append]; omega) (cond_imm _)]
      exact ⟨some (.int i), some (.int S.row[i]), by rw [handsTo_succ hil]; simp⟩
  rintro e ⟨x6, x7, rfl⟩
  rw [len_en]
  refine ⟨rfl, ?_⟩
  refine seq_ok ?_
  simp only [w_pC, w_pVar, w_pOwn, w_p1, w_p2, w_pSl, w_oNo, w_oSome, w_pTup, w_pCall, w_aNil, w_aCons, w_pIsi, w_pIsi2, w_eP, w_eMove, w_e1, w_e2, w_eTup, w_eLst, w_eFz, w_eCall, w_aNilE, w_aConsE, w_eIf, w_eComp, w_eDc, w_eDef, w_cNil, w_cVal, w_cBor, w_eMeth, w_eMetP, w_plVar, w_plIx, w_eSMet, w_yesT, w_tP, w_p2t, w_e2t, w_tTruP, w_tTru, w_tNo, w_tAnd2, w_tOr2, w_iSeq, w_iRange1, w_iRange2, w_iEnumE, rngD_len, w_gNm, w_gTup, w_gsNil, w_gsCons, w_gPut, w_sNil, w_sRet, w_sExpr, w_sAsg, w_sIf, w_sFor, w_sFz, ok_some, ok_map, takeB, giveB, outsOf, wipeE, im_non, im_bl, im_int, im_str, im_tup, im_scr, im_lst, im_dcK, im_dcT, fz_non, fz_bl, fz_int, fz_str, fz_tup, fz_scr, fz_lstT, fz_lst, fz_dcT, fz_dcK, wk_tup, wk_lst, wk_scr, wk_str, sI_tup, sI_lst, tr_bl, lt_int, gt_int, le_int, ge_int, eq_int, ne_int, eq_str, ne_str, ne_bl, eq_bl, add_int, sub_int, neg_int, g_int, g_abs, ix_tup, ix_lst, at0, at1, at2, g_len_tup, g_len_lst, List.getElem?_cons_zero, List.getElem?_cons_succ, List.set_cons_zero, List.set_cons_succ, List.length_cons, List.length_nil, List.map_cons, List.map_nil, List.replicate_succ, List.replicate_zero, List.cons_append, List.nil_append, List.head?_cons, List.tail_cons, Option.join_some, Option.map_some, if_true, if_false, ite_true, ite_false, reduceIte, reduceCtorEq, BEq.rfl, Bool.false_eq_true, Bool.not_true, Bool.not_false, List.all_cons, List.all_nil, Bool.and_true, Bool.true_and, Bool.and_self, true_and, and_true, exists_eq_left, exists_eq_left', D.bl.injEq, D.int.injEq, D.str.injEq, D.tup.injEq, Out.rt.injEq, Nat.lt_add_left_iff_pos, Nat.zero_lt_succ, Nat.reduceAdd, Nat.reduceLT]
  refine ⟨rfl, ?_⟩
  refine comp_fm (h := condD) (fun t => some (.tie t.1 t.2.1)) (by rfl) (fun x _ => ?_) (by rw [List.length_nil]; omega) ?_
  · simp only [wipeE, w_pC, w_pVar, w_pOwn, w_p1, w_p2, w_pSl, w_oNo, w_oSome, w_pTup, w_pCall, w_aNil, w_aCons, w_pIsi, w_pIsi2, w_eP, w_eMove, w_e1, w_e2, w_eTup, w_eLst, w_eFz, w_eCall, w_aNilE, w_aConsE, w_eIf, w_eComp, w_eDc, w_eDef, w_cNil, w_cVal, w_cBor, w_eMeth, w_eMetP, w_plVar, w_plIx, w_eSMet, w_yesT, w_tP, w_p2t, w_e2t, w_tTruP, w_tTru, w_tNo, w_tAnd2, w_tOr2, w_iSeq, w_iRange1, w_iRange2, w_iEnumE, rngD_len, w_gNm, w_gTup, w_gsNil, w_gsCons, w_gPut, w_sNil, w_sRet, w_sExpr, w_sAsg, w_sIf, w_sFor, w_sFz, ok_some, ok_map, takeB, giveB, outsOf, wipeE, im_non, im_bl, im_int, im_str, im_tup, im_scr, im_lst, im_dcK, im_dcT, fz_non, fz_bl, fz_int, fz_str, fz_tup, fz_scr, fz_lstT, fz_lst, fz_dcT, fz_dcK, wk_tup, wk_lst, wk_scr, wk_str, sI_tup, sI_lst, tr_bl, lt_int, gt_int, le_int, ge_int, eq_int, ne_int, eq_str, ne_str, ne_bl, eq_bl, add_int, sub_int, neg_int, g_int, g_abs, ix_tup, ix_lst, at0, at1, at2, g_len_tup, g_len_lst, List.getElem?_cons_zero, List.getElem?_cons_succ, List.set_cons_zero, List.set_cons_succ, List.length_cons, List.length_nil, List.map_cons, List.map_nil, List.replicate_succ, List.replicate_zero, List.cons_append, List.nil_append, List.head?_cons, List.tail_cons, Option.join_some, Option.map_some, if_true, if_false, ite_true, ite_false, reduceIte, reduceCtorEq, BEq.rfl, Bool.false_eq_true, Bool.not_true, Bool.not_false, List.all_cons, List.all_nil, Bool.and_true, Bool.true_and, Bool.and_self, true_and, and_true, exists_eq_left, exists_eq_left', D.bl.injEq, D.int.injEq, D.str.injEq, D.tup.injEq, Out.rt.injEq, Nat.lt_add_left_iff_pos, Nat.zero_lt_succ, Nat.reduceAdd, Nat.reduceLT, tieD]
    exact ⟨_, rfl, by decide, rfl⟩
  rw [filterMap_all]
  have l1 := handsTo_len h2 S.row.length (Nat.le_refl _)
  simp only [wipeE, w_pC, w_pVar, w_pOwn, w_p1, w_p2, w_pSl, w_oNo, w_oSome, w_pTup, w_pCall, w_aNil, w_aCons, w_pIsi, w_pIsi2, w_eP, w_eMove, w_e1, w_e2, w_eTup, w_eLst, w_eFz, w_eCall, w_aNilE, w_aConsE, w_eIf, w_eComp, w_eDc, w_eDef, w_cNil, w_cVal, w_cBor, w_eMeth, w_eMetP, w_plVar, w_plIx, w_eSMet, w_yesT, w_tP, w_p2t, w_e2t, w_tTruP, w_tTru, w_tNo, w_tAnd2, w_tOr2, w_iSeq, w_iRange1, w_iRange2, w_iEnumE, rngD_len, w_gNm, w_gTup, w_gsNil, w_gsCons, w_gPut, w_sNil, w_sRet, w_sExpr, w_sAsg, w_sIf, w_sFor, w_sFz, ok_some, ok_map, takeB, giveB, outsOf, wipeE, im_non, im_bl, im_int, im_str, im_tup, im_scr, im_lst, im_dcK, im_dcT, fz_non, fz_bl, fz_int, fz_str, fz_tup, fz_scr, fz_lstT, fz_lst, fz_dcT, fz_dcK, wk_tup, wk_lst, wk_scr, wk_str, sI_tup, sI_lst, tr_bl, lt_int, gt_int, le_int, ge_int, eq_int, ne_int, eq_str, ne_str, ne_bl, eq_bl, add_int, sub_int, neg_int, g_int, g_abs, ix_tup, ix_lst, at0, at1, at2, g_len_tup, g_len_lst, List.getElem?_cons_zero, List.getElem?_cons_succ, List.set_cons_zero, List.set_cons_succ, List.length_cons, List.length_nil, List.map_cons, List.map_nil, List.replicate_succ, List.replicate_zero, List.cons_append, List.nil_append, List.head?_cons, List.tail_cons, Option.join_some, Option.map_some, if_true, if_false, ite_true, ite_false, reduceIte, reduceCtorEq, BEq.rfl, Bool.false_eq_true, Bool.not_true, Bool.not_false, List.all_cons, List.all_nil, Bool.and_true, Bool.true_and, Bool.and_self, true_and, and_true, exists_eq_left, exists_eq_left', D.bl.injEq, D.int.injEq, D.str.injEq, D.tup.injEq, Out.rt.injEq, Nat.lt_add_left_iff_pos, Nat.zero_lt_succ, Nat.reduceAdd, Nat.reduceLT, ext_lst (a := (S.works.filterMap begC ++ S.works.filterMap finC ++ handsTo S.row S.row.length).map condD) (b := (S.ties.map fun t => Cond.tie t.1 t.2.1).map condD) (by simp only [List.length_map, List.length_append]; omega) (cond_imm _)]
  rw [← List.map_append]
  simp only [w_pC, w_pVar, w_pOwn, w_p1, w_p2, w_pSl, w_oNo, w_oSome, w_pTup, w_pCall, w_aNil, w_aCons, w_pIsi, w_pIsi2, w_eP, w_eMove, w_e1, w_e2, w_eTup, w_eLst, w_eFz, w_eCall, w_aNilE, w_aConsE, w_eIf, w_eComp, w_eDc, w_eDef, w_cNil, w_cVal, w_cBor, w_eMeth, w_eMetP, w_plVar, w_plIx, w_eSMet, w_yesT, w_tP, w_p2t, w_e2t, w_tTruP, w_tTru, w_tNo, w_tAnd2, w_tOr2, w_iSeq, w_iRange1, w_iRange2, w_iEnumE, rngD_len, w_gNm, w_gTup, w_gsNil, w_gsCons, w_gPut, w_sNil, w_sRet, w_sExpr, w_sAsg, w_sIf, w_sFor, w_sFz, ok_some, ok_map, takeB, giveB, outsOf, wipeE, im_non, im_bl, im_int, im_str, im_tup, im_scr, im_lst, im_dcK, im_dcT, fz_non, fz_bl, fz_int, fz_str, fz_tup, fz_scr, fz_lstT, fz_lst, fz_dcT, fz_dcK, wk_tup, wk_lst, wk_scr, wk_str, sI_tup, sI_lst, tr_bl, lt_int, gt_int, le_int, ge_int, eq_int, ne_int, eq_str, ne_str, ne_bl, eq_bl, add_int, sub_int, neg_int, g_int, g_abs, ix_tup, ix_lst, at0, at1, at2, g_len_tup, g_len_lst, List.getElem?_cons_zero, List.getElem?_cons_succ, List.set_cons_zero, List.set_cons_succ, List.length_cons, List.length_nil, List.map_cons, List.map_nil, List.replicate_succ, List.replicate_zero, List.cons_append, List.nil_append, List.head?_cons, List.tail_cons, Option.join_some, Option.map_some, if_true, if_false, ite_true, ite_false, reduceIte, reduceCtorEq, BEq.rfl, Bool.false_eq_true, Bool.not_true, Bool.not_false, List.all_cons, List.all_nil, Bool.and_true, Bool.true_and, Bool.and_self, true_and, and_true, exists_eq_left, exists_eq_left', D.bl.injEq, D.int.injEq, D.str.injEq, D.tup.injEq, Out.rt.injEq, Nat.lt_add_left_iff_pos, Nat.zero_lt_succ, Nat.reduceAdd, Nat.reduceLT, g_tuple (cond_imm _)]
  exact q
theorem lconditions_w {S : Sheet} {Q : D × List (Option D) → Prop} (hS : S.Fine) (q : Q (.tup ((conds S).map condD), [some (sheetD S)])) : Ok (F__law_conditions [sheetD S]) Q := by
  obtain ⟨h1, h2, h5, h3, h4, _⟩ := hS
  refine fn_ok rfl ?_
  unfold B__law_conditions
  simp only [List.map_cons, List.map_nil, List.replicate_succ, List.replicate_zero, List.cons_append, List.nil_append]
  refine seq_ok ?_
  have im : isImm (sheetD S) = true := rfl
  simp only [w_pC, w_pVar, w_pOwn, w_p1, w_p2, w_pSl, w_oNo, w_oSome, w_pTup, w_pCall, w_aNil, w_aCons, w_pIsi, w_pIsi2, w_eP, w_eMove, w_e1, w_e2, w_eTup, w_eLst, w_eFz, w_eCall, w_aNilE, w_aConsE, w_eIf, w_eComp, w_eDc, w_eDef, w_cNil, w_cVal, w_cBor, w_eMeth, w_eMetP, w_plVar, w_plIx, w_eSMet, w_yesT, w_tP, w_p2t, w_e2t, w_tTruP, w_tTru, w_tNo, w_tAnd2, w_tOr2, w_iSeq, w_iRange1, w_iRange2, w_iEnumE, rngD_len, w_gNm, w_gTup, w_gsNil, w_gsCons, w_gPut, w_sNil, w_sRet, w_sExpr, w_sAsg, w_sIf, w_sFor, w_sFz, ok_some, ok_map, takeB, giveB, outsOf, wipeE, im_non, im_bl, im_int, im_str, im_tup, im_scr, im_lst, im_dcK, im_dcT, fz_non, fz_bl, fz_int, fz_str, fz_tup, fz_scr, fz_lstT, fz_lst, fz_dcT, fz_dcK, wk_tup, wk_lst, wk_scr, wk_str, sI_tup, sI_lst, tr_bl, lt_int, gt_int, le_int, ge_int, eq_int, ne_int, eq_str, ne_str, ne_bl, eq_bl, add_int, sub_int, neg_int, g_int, g_abs, ix_tup, ix_lst, at0, at1, at2, g_len_tup, g_len_lst, List.getElem?_cons_zero, List.getElem?_cons_succ, List.set_cons_zero, List.set_cons_succ, List.length_cons, List.length_nil, List.map_cons, List.map_nil, List.replicate_succ, List.replicate_zero, List.cons_append, List.nil_append, List.head?_cons, List.tail_cons, Option.join_some, Option.map_some, if_true, if_false, ite_true, ite_false, reduceIte, reduceCtorEq, BEq.rfl, Bool.false_eq_true, Bool.not_true, Bool.not_false, List.all_cons, List.all_nil, Bool.and_true, Bool.true_and, Bool.and_self, true_and, and_true, exists_eq_left, exists_eq_left', D.bl.injEq, D.int.injEq, D.str.injEq, D.tup.injEq, Out.rt.injEq, Nat.lt_add_left_iff_pos, Nat.zero_lt_succ, Nat.reduceAdd, Nat.reduceLT, im]
  simp only [sheetD, w_pC, w_pVar, w_pOwn, w_p1, w_p2, w_pSl, w_oNo, w_oSome, w_pTup, w_pCall, w_aNil, w_aCons, w_pIsi, w_pIsi2, w_eP, w_eMove, w_e1, w_e2, w_eTup, w_eLst, w_eFz, w_eCall, w_aNilE, w_aConsE, w_eIf, w_eComp, w_eDc, w_eDef, w_cNil, w_cVal, w_cBor, w_eMeth, w_eMetP, w_plVar, w_plIx, w_eSMet, w_yesT, w_tP, w_p2t, w_e2t, w_tTruP, w_tTru, w_tNo, w_tAnd2, w_tOr2, w_iSeq, w_iRange1, w_iRange2, w_iEnumE, rngD_len, w_gNm, w_gTup, w_gsNil, w_gsCons, w_gPut, w_sNil, w_sRet, w_sExpr, w_sAsg, w_sIf, w_sFor, w_sFz, ok_some, ok_map, takeB, giveB, outsOf, wipeE, im_non, im_bl, im_int, im_str, im_tup, im_scr, im_lst, im_dcK, im_dcT, fz_non, fz_bl, fz_int, fz_str, fz_tup, fz_scr, fz_lstT, fz_lst, fz_dcT, fz_dcK, wk_tup, wk_lst, wk_scr, wk_str, sI_tup, sI_lst, tr_bl, lt_int, gt_int, le_int, ge_int, eq_int, ne_int, eq_str, ne_str, ne_bl, eq_bl, add_int, sub_int, neg_int, g_int, g_abs, ix_tup, ix_lst, at0, at1, at2, g_len_tup, g_len_lst, List.getElem?_cons_zero, List.getElem?_cons_succ, List.set_cons_zero, List.set_cons_succ, List.length_cons, List.length_nil, List.map_cons, List.map_nil, List.replicate_succ, List.replicate_zero, List.cons_append, List.nil_append, List.head?_cons, List.tail_cons, Option.join_some, Option.map_some, if_true, if_false, ite_true, ite_false, reduceIte, reduceCtorEq, BEq.rfl, Bool.false_eq_true, Bool.not_true, Bool.not_false, List.all_cons, List.all_nil, Bool.and_true, Bool.true_and, Bool.and_self, true_and, and_true, exists_eq_left, exists_eq_left', D.bl.injEq, D.int.injEq, D.str.injEq, D.tup.injEq, Out.rt.injEq, Nat.lt_add_left_iff_pos, Nat.zero_lt_succ, Nat.reduceAdd, Nat.reduceLT]
  have lb := fm_len begC S.works
  have lf := fm_len finC S.works
  refine seq_ok ?_
  simp only [w_pC, w_pVar, w_pOwn, w_p1, w_p2, w_pSl, w_oNo, w_oSome, w_pTup, w_pCall, w_aNil, w_aCons, w_pIsi, w_pIsi2, w_eP, w_eMove, w_e1, w_e2, w_eTup, w_eLst, w_eFz, w_eCall, w_aNilE, w_aConsE, w_eIf, w_eComp, w_eDc, w_eDef, w_cNil, w_cVal, w_cBor, w_eMeth, w_eMetP, w_plVar, w_plIx, w_eSMet, w_yesT, w_tP, w_p2t, w_e2t, w_tTruP, w_tTru, w_tNo, w_tAnd2, w_tOr2, w_iSeq, w_iRange1, w_iRange2, w_iEnumE, rngD_len, w_gNm, w_gTup, w_gsNil, w_gsCons, w_gPut, w_sNil, w_sRet, w_sExpr, w_sAsg, w_sIf, w_sFor, w_sFz, ok_some, ok_map, takeB, giveB, outsOf, wipeE, im_non, im_bl, im_int, im_str, im_tup, im_scr, im_lst, im_dcK, im_dcT, fz_non, fz_bl, fz_int, fz_str, fz_tup, fz_scr, fz_lstT, fz_lst, fz_dcT, fz_dcK, wk_tup, wk_lst, wk_scr, wk_str, sI_tup, sI_lst, tr_bl, lt_int, gt_int, le_int, ge_int, eq_int, ne_int, eq_str, ne_str, ne_bl, eq_bl, add_int, sub_int, neg_int, g_int, g_abs, ix_tup, ix_lst, at0, at1, at2, g_len_tup, g_len_lst, List.getElem?_cons_zero, List.getElem?_cons_succ, List.set_cons_zero, List.set_cons_succ, List.length_cons, List.length_nil, List.map_cons, List.map_nil, List.replicate_succ, List.replicate_zero, List.cons_append, List.nil_append, List.head?_cons, List.tail_cons, Option.join_some, Option.map_some, if_true, if_false, ite_true, ite_false, reduceIte, reduceCtorEq, BEq.rfl, Bool.false_eq_true, Bool.not_true, Bool.not_false, List.all_cons, List.all_nil, Bool.and_true, Bool.true_and, Bool.and_self, true_and, and_true, exists_eq_left, exists_eq_left', D.bl.injEq, D.int.injEq, D.str.injEq, D.tup.injEq, Out.rt.injEq, Nat.lt_add_left_iff_pos, Nat.zero_lt_succ, Nat.reduceAdd, Nat.reduceLT]
  refine comp_fm (h := condD) begC (by rfl) (fun x _ => ?_) (by rw [List.length_nil]; omega) ?_
  · simp only [wipeE, w_pC, w_pVar, w_pOwn, w_p1, w_p2, w_pSl, w_oNo, w_oSome, w_pTup, w_pCall, w_aNil, w_aCons, w_pIsi, w_pIsi2, w_eP, w_eMove, w_e1, w_e2, w_eTup, w_eLst, w_eFz, w_eCall, w_aNilE, w_aConsE, w_eIf, w_eComp, w_eDc, w_eDef, w_cNil, w_cVal, w_cBor, w_eMeth, w_eMetP, w_plVar, w_plIx, w_eSMet, w_yesT, w_tP, w_p2t, w_e2t, w_tTruP, w_tTru, w_tNo, w_tAnd2, w_tOr2, w_iSeq, w_iRange1, w_iRange2, w_iEnumE, rngD_len, w_gNm, w_gTup, w_gsNil, w_gsCons, w_gPut, w_sNil, w_sRet, w_sExpr, w_sAsg, w_sIf, w_sFor, w_sFz, ok_some, ok_map, takeB, giveB, outsOf, wipeE, im_non, im_bl, im_int, im_str, im_tup, im_scr, im_lst, im_dcK, im_dcT, fz_non, fz_bl, fz_int, fz_str, fz_tup, fz_scr, fz_lstT, fz_lst, fz_dcT, fz_dcK, wk_tup, wk_lst, wk_scr, wk_str, sI_tup, sI_lst, tr_bl, lt_int, gt_int, le_int, ge_int, eq_int, ne_int, eq_str, ne_str, ne_bl, eq_bl, add_int, sub_int, neg_int, g_int, g_abs, ix_tup, ix_lst, at0, at1, at2, g_len_tup, g_len_lst, List.getElem?_cons_zero, List.getElem?_cons_succ, List.set_cons_zero, List.set_cons_succ, List.length_cons, List.length_nil, List.map_cons, List.map_nil, List.replicate_succ, List.replicate_zero, List.cons_append, List.nil_append, List.head?_cons, List.tail_cons, Option.join_some, Option.map_some, if_true, if_false, ite_true, ite_false, reduceIte, reduceCtorEq, BEq.rfl, Bool.false_eq_true, Bool.not_true, Bool.not_false, List.all_cons, List.all_nil, Bool.and_true, Bool.true_and, Bool.and_self, true_and, and_true, exists_eq_left, exists_eq_left', D.bl.injEq, D.int.injEq, D.str.injEq, D.tup.injEq, Out.rt.injEq, Nat.lt_add_left_iff_pos, Nat.zero_lt_succ, Nat.reduceAdd, Nat.reduceLT, workD, begC]
    by_cases hx : 0 < x.2.1
    · simp only [w_pC, w_pVar, w_pOwn, w_p1, w_p2, w_pSl, w_oNo, w_oSome, w_pTup, w_pCall, w_aNil, w_aCons, w_pIsi, w_pIsi2, w_eP, w_eMove, w_e1, w_e2, w_eTup, w_eLst, w_eFz, w_eCall, w_aNilE, w_aConsE, w_eIf, w_eComp, w_eDc, w_eDef, w_cNil, w_cVal, w_cBor, w_eMeth, w_eMetP, w_plVar, w_plIx, w_eSMet, w_yesT, w_tP, w_p2t, w_e2t, w_tTruP, w_tTru, w_tNo, w_tAnd2, w_tOr2, w_iSeq, w_iRange1, w_iRange2, w_iEnumE, rngD_len, w_gNm, w_gTup, w_gsNil, w_gsCons, w_gPut, w_sNil, w_sRet, w_sExpr, w_sAsg, w_sIf, w_sFor, w_sFz, ok_some, ok_map, takeB, giveB, outsOf, wipeE, im_non, im_bl, im_int, im_str, im_tup, im_scr, im_lst, im_dcK, im_dcT, fz_non, fz_bl, fz_int, fz_str, fz_tup, fz_scr, fz_lstT, fz_lst, fz_dcT, fz_dcK, wk_tup, wk_lst, wk_scr, wk_str, sI_tup, sI_lst, tr_bl, lt_int, gt_int, le_int, ge_int, eq_int, ne_int, eq_str, ne_str, ne_bl, eq_bl, add_int, sub_int, neg_int, g_int, g_abs, ix_tup, ix_lst, at0, at1, at2, g_len_tup, g_len_lst, List.getElem?_cons_zero, List.getElem?_cons_succ, List.set_cons_zero, List.set_cons_succ, List.length_cons, List.length_nil, List.map_cons, List.map_nil, List.replicate_succ, List.replicate_zero, List.cons_append, List.nil_append, List.head?_cons, List.tail_cons, Option.join_some, Option.map_some, if_true, if_false, ite_true, ite_false, reduceIte, reduceCtorEq, BEq.rfl, Bool.false_eq_true, Bool.not_true, Bool.not_false, List.all_cons, List.all_nil, Bool.and_true, Bool.true_and, Bool.and_self, true_and, and_true, exists_eq_left, exists_eq_left', D.bl.injEq, D.int.injEq, D.str.injEq, D.tup.injEq, Out.rt.injEq, Nat.lt_add_left_iff_pos, Nat.zero_lt_succ, Nat.reduceAdd, Nat.reduceLT, hx, decide_true]
      exact ⟨_, rfl, by decide, rfl⟩
    · simp only [w_pC, w_pVar, w_pOwn, w_p1, w_p2, w_pSl, w_oNo, w_oSome, w_pTup, w_pCall, w_aNil, w_aCons, w_pIsi, w_pIsi2, w_eP, w_eMove, w_e1, w_e2, w_eTup, w_eLst, w_eFz, w_eCall, w_aNilE, w_aConsE, w_eIf, w_eComp, w_eDc, w_eDef, w_cNil, w_cVal, w_cBor, w_eMeth, w_eMetP, w_plVar, w_plIx, w_eSMet, w_yesT, w_tP, w_p2t, w_e2t, w_tTruP, w_tTru, w_tNo, w_tAnd2, w_tOr2, w_iSeq, w_iRange1, w_iRange2, w_iEnumE, rngD_len, w_gNm, w_gTup, w_gsNil, w_gsCons, w_gPut, w_sNil, w_sRet, w_sExpr, w_sAsg, w_sIf, w_sFor, w_sFz, ok_some, ok_map, takeB, giveB, outsOf, wipeE, im_non, im_bl, im_int, im_str, im_tup, im_scr, im_lst, im_dcK, im_dcT, fz_non, fz_bl, fz_int, fz_str, fz_tup, fz_scr, fz_lstT, fz_lst, fz_dcT, fz_dcK, wk_tup, wk_lst, wk_scr, wk_str, sI_tup, sI_lst, tr_bl, lt_int, gt_int, le_int, ge_int, eq_int, ne_int, eq_str, ne_str, ne_bl, eq_bl, add_int, sub_int, neg_int, g_int, g_abs, ix_tup, ix_lst, at0, at1, at2, g_len_tup, g_len_lst, List.getElem?_cons_zero, List.getElem?_cons_succ, List.set_cons_zero, List.set_cons_succ, List.length_cons, List.length_nil, List.map_cons, List.map_nil, List.replicate_succ, List.replicate_zero, List.cons_append, List.nil_append, List.head?_cons, List.tail_cons, Option.join_some, Option.map_some, if_true, if_false, ite_true, ite_false, reduceIte, reduceCtorEq, BEq.rfl, Bool.false_eq_true, Bool.not_true, Bool.not_false, List.all_cons, List.all_nil, Bool.and_true, Bool.true_and, Bool.and_self, true_and, and_true, exists_eq_left, exists_eq_left', D.bl.injEq, D.int.injEq, D.str.injEq, D.tup.injEq, Out.rt.injEq, Nat.lt_add_left_iff_pos, Nat.zero_lt_succ, Nat.reduceAdd, Nat.reduceLT, hx, decide_false]
  simp only [wipeE, w_pC, w_pVar, w_pOwn, w_p1, w_p2, w_pSl, w_oNo, w_oSome, w_pTup, w_pCall, w_aNil, w_aCons, w_pIsi, w_pIsi2, w_eP, w_eMove, w_e1, w_e2, w_eTup, w_eLst, w_eFz, w_eCall, w_aNilE, w_aConsE, w_eIf, w_eComp, w_eDc, w_eDef, w_cNil, w_cVal, w_cBor, w_eMeth, w_eMetP, w_plVar, w_plIx, w_eSMet, w_yesT, w_tP, w_p2t, w_e2t, w_tTruP, w_tTru, w_tNo, w_tAnd2, w_tOr2, w_iSeq, w_iRange1, w_iRange2, w_iEnumE, rngD_len, w_gNm, w_gTup, w_gsNil, w_gsCons, w_gPut, w_sNil, w_sRet, w_sExpr, w_sAsg, w_sIf, w_sFor, w_sFz, ok_some, ok_map, takeB, giveB, outsOf, wipeE, im_non, im_bl, im_int, im_str, im_tup, im_scr, im_lst, im_dcK, im_dcT, fz_non, fz_bl, fz_int, fz_str, fz_tup, fz_scr, fz_lstT, fz_lst, fz_dcT, fz_dcK, wk_tup, wk_lst, wk_scr, wk_str, sI_tup, sI_lst, tr_bl, lt_int, gt_int, le_int, ge_int, eq_int, ne_int, eq_str, ne_str, ne_bl, eq_bl, add_int, sub_int, neg_int, g_int, g_abs, ix_tup, ix_lst, at0, at1, at2, g_len_tup, g_len_lst, List.getElem?_cons_zero, List.getElem?_cons_succ, List.set_cons_zero, List.set_cons_succ, List.length_cons, List.length_nil, List.map_cons, List.map_nil, List.replicate_succ, List.replicate_zero, List.cons_append, List.nil_append, List.head?_cons, List.tail_cons, Option.join_some, Option.map_some, if_true, if_false, ite_true, ite_false, reduceIte, reduceCtorEq, BEq.rfl, Bool.false_eq_true, Bool.not_true, Bool.not_false, List.all_cons, List.all_nil, Bool.and_true, Bool.true_and, Bool.and_self, true_and, and_true, exists_eq_left, exists_eq_left', D.bl.injEq, D.int.injEq, D.str.injEq, D.tup.injEq, Out.rt.injEq, Nat.lt_add_left_iff_pos, Nat.zero_lt_succ, Nat.reduceAdd, Nat.reduceLT]
  have fzc : ∀ l : List Cond, fzs (l.map condD) = l.map condD := fun l => fzs_map l fun c => by cases c <;> rfl
  refine seq_ok ?_
  simp only [w_pC, w_pVar, w_pOwn, w_p1, w_p2, w_pSl, w_oNo, w_oSome, w_pTup, w_pCall, w_aNil, w_aCons, w_pIsi, w_pIsi2, w_eP, w_eMove, w_e1, w_e2, w_eTup, w_eLst, w_eFz, w_eCall, w_aNilE, w_aConsE, w_eIf, w_eComp, w_eDc, w_eDef, w_cNil, w_cVal, w_cBor, w_eMeth, w_eMetP, w_plVar, w_plIx, w_eSMet, w_yesT, w_tP, w_p2t, w_e2t, w_tTruP, w_tTru, w_tNo, w_tAnd2, w_tOr2, w_iSeq, w_iRange1, w_iRange2, w_iEnumE, rngD_len, w_gNm, w_gTup, w_gsNil, w_gsCons, w_gPut, w_sNil, w_sRet, w_sExpr, w_sAsg, w_sIf, w_sFor, w_sFz, ok_some, ok_map, takeB, giveB, outsOf, wipeE, im_non, im_bl, im_int, im_str, im_tup, im_scr, im_lst, im_dcK, im_dcT, fz_non, fz_bl, fz_int, fz_str, fz_tup, fz_scr, fz_lstT, fz_lst, fz_dcT, fz_dcK, wk_tup, wk_lst, wk_scr, wk_str, sI_tup, sI_lst, tr_bl, lt_int, gt_int, le_int, ge_int, eq_int, ne_int, eq_str, ne_str, ne_bl, eq_bl, add_int, sub_int, neg_int, g_int, g_abs, ix_tup, ix_lst, at0, at1, at2, g_len_tup, g_len_lst, List.getElem?_cons_zero, List.getElem?_cons_succ, List.set_cons_zero, List.set_cons_succ, List.length_cons, List.length_nil, List.map_cons, List.map_nil, List.replicate_succ, List.replicate_zero, List.cons_append, List.nil_append, List.head?_cons, List.tail_cons, Option.join_some, Option.map_some, if_true, if_false, ite_true, ite_false, reduceIte, reduceCtorEq, BEq.rfl, Bool.false_eq_true, Bool.not_true, Bool.not_false, List.all_cons, List.all_nil, Bool.and_true, Bool.true_and, Bool.and_self, true_and, and_true, exists_eq_left, exists_eq_left', D.bl.injEq, D.int.injEq, D.str.injEq, D.tup.injEq, Out.rt.injEq, Nat.lt_add_left_iff_pos, Nat.zero_lt_succ, Nat.reduceAdd, Nat.reduceLT, fzc]
  refine comp_fm (h := condD) finC (by rfl) (fun x _ => ?_) (by rw [List.length_nil]; omega) ?_
  · simp only [wipeE, w_pC, w_pVar, w_pOwn, w_p1, w_p2, w_pSl, w_oNo, w_oSome, w_pTup, w_pCall, w_aNil, w_aCons, w_pIsi, w_pIsi2, w_eP, w_eMove, w_e1, w_e2, w_eTup, w_eLst, w_eFz, w_eCall, w_aNilE, w_aConsE, w_eIf, w_eComp, w_eDc, w_eDef, w_cNil, w_cVal, w_cBor, w_eMeth, w_eMetP, w_plVar, w_plIx, w_eSMet, w_yesT, w_tP, w_p2t, w_e2t, w_tTruP, w_tTru, w_tNo, w_tAnd2, w_tOr2, w_iSeq, w_iRange1, w_iRange2, w_iEnumE, rngD_len, w_gNm, w_gTup, w_gsNil, w_gsCons, w_gPut, w_sNil, w_sRet, w_sExpr, w_sAsg, w_sIf, w_sFor, w_sFz, ok_some, ok_map, takeB, giveB, outsOf, wipeE, im_non, im_bl, im_int, im_str, im_tup, im_scr, im_lst, im_dcK, im_dcT, fz_non, fz_bl, fz_int, fz_str, fz_tup, fz_scr, fz_lstT, fz_lst, fz_dcT, fz_dcK, wk_tup, wk_lst, wk_scr, wk_str, sI_tup, sI_lst, tr_bl, lt_int, gt_int, le_int, ge_int, eq_int, ne_int, eq_str, ne_str, ne_bl, eq_bl, add_int, sub_int, neg_int, g_int, g_abs, ix_tup, ix_lst, at0, at1, at2, g_len_tup, g_len_lst, List.getElem?_cons_zero, List.getElem?_cons_succ, List.set_cons_zero, List.set_cons_succ, List.length_cons, List.length_nil, List.map_cons, List.map_nil, List.replicate_succ, List.replicate_zero, List.cons_append, List.nil_append, List.head?_cons, List.tail_cons, Option.join_some, Option.map_some, if_true, if_false, ite_true, ite_false, reduceIte, reduceCtorEq, BEq.rfl, Bool.false_eq_true, Bool.not_true, Bool.not_false, List.all_cons, List.all_nil, Bool.and_true, Bool.true_and, Bool.and_self, true_and, and_true, exists_eq_left, exists_eq_left', D.bl.injEq, D.int.injEq, D.str.injEq, D.tup.injEq, Out.rt.injEq, Nat.lt_add_left_iff_pos, Nat.zero_lt_succ, Nat.reduceAdd, Nat.reduceLT, workD, finC]
    by_cases hx : x.2.2 < 1000
    · simp only [w_pC, w_pVar, w_pOwn, w_p1, w_p2, w_pSl, w_oNo, w_oSome, w_pTup, w_pCall, w_aNil, w_aCons, w_pIsi, w_pIsi2, w_eP, w_eMove, w_e1, w_e2, w_eTup, w_eLst, w_eFz, w_eCall, w_aNilE, w_aConsE, w_eIf, w_eComp, w_eDc, w_eDef, w_cNil, w_cVal, w_cBor, w_eMeth, w_eMetP, w_plVar, w_plIx, w_eSMet, w_yesT, w_tP, w_p2t, w_e2t, w_tTruP, w_tTru, w_tNo, w_tAnd2, w_tOr2, w_iSeq, w_iRange1, w_iRange2, w_iEnumE, rngD_len, w_gNm, w_gTup, w_gsNil, w_gsCons, w_gPut, w_sNil, w_sRet, w_sExpr, w_sAsg, w_sIf, w_sFor, w_sFz, ok_some, ok_map, takeB, giveB, outsOf, wipeE, im_non, im_bl, im_int, im_str, im_tup, im_scr, im_lst, im_dcK, im_dcT, fz_non, fz_bl, fz_int, fz_str, fz_tup, fz_scr, fz_lstT, fz_lst, fz_dcT, fz_dcK, wk_tup, wk_lst, wk_scr, wk_str, sI_tup, sI_lst, tr_bl, lt_int, gt_int, le_int, ge_int, eq_int, ne_int, eq_str, ne_str, ne_bl, eq_bl, add_int, sub_int, neg_int, g_int, g_abs, ix_tup, ix_lst, at0, at1, at2, g_len_tup, g_len_lst, List.getElem?_cons_zero, List.getElem?_cons_succ, List.set_cons_zero, List.set_cons_succ, List.length_cons, List.length_nil, List.map_cons, List.map_nil, List.replicate_succ, List.replicate_zero, List.cons_append, List.nil_append, List.head?_cons, List.tail_cons, Option.join_some, Option.map_some, if_true, if_false, ite_true, ite_false, reduceIte, reduceCtorEq, BEq.rfl, Bool.false_eq_true, Bool.not_true, Bool.not_false, List.all_cons, List.all_nil, Bool.and_true, Bool.true_and, Bool.and_self, true_and, and_true, exists_eq_left, exists_eq_left', D.bl.injEq, D.int.injEq, D.str.injEq, D.tup.injEq, Out.rt.injEq, Nat.lt_add_left_iff_pos, Nat.zero_lt_succ, Nat.reduceAdd, Nat.reduceLT, hx, decide_true]
      exact ⟨_, rfl, by decide, rfl⟩
    · simp only [w_pC, w_pVar, w_pOwn, w_p1, w_p2, w_pSl, w_oNo, w_oSome, w_pTup, w_pCall, w_aNil, w_aCons, w_pIsi, w_pIsi2, w_eP, w_eMove, w_e1, w_e2, w_eTup, w_eLst, w_eFz, w_eCall, w_aNilE, w_aConsE, w_eIf, w_eComp, w_eDc, w_eDef, w_cNil, w_cVal, w_cBor, w_eMeth, w_eMetP, w_plVar, w_plIx, w_eSMet, w_yesT, w_tP, w_p2t, w_e2t, w_tTruP, w_tTru, w_tNo, w_tAnd2, w_tOr2, w_iSeq, w_iRange1, w_iRange2, w_iEnumE, rngD_len, w_gNm, w_gTup, w_gsNil, w_gsCons, w_gPut, w_sNil, w_sRet, w_sExpr, w_sAsg, w_sIf, w_sFor, w_sFz, ok_some, ok_map, takeB, giveB, outsOf, wipeE, im_non, im_bl, im_int, im_str, im_tup, im_scr, im_lst, im_dcK, im_dcT, fz_non, fz_bl, fz_int, fz_str, fz_tup, fz_scr, fz_lstT, fz_lst, fz_dcT, fz_dcK, wk_tup, wk_lst, wk_scr, wk_str, sI_tup, sI_lst, tr_bl, lt_int, gt_int, le_int, ge_int, eq_int, ne_int, eq_str, ne_str, ne_bl, eq_bl, add_int, sub_int, neg_int, g_int, g_abs, ix_tup, ix_lst, at0, at1, at2, g_len_tup, g_len_lst, List.getElem?_cons_zero, List.getElem?_cons_succ, List.set_cons_zero, List.set_cons_succ, List.length_cons, List.length_nil, List.map_cons, List.map_nil, List.replicate_succ, List.replicate_zero, List.cons_append, List.nil_append, List.head?_cons, List.tail_cons, Option.join_some, Option.map_some, if_true, if_false, ite_true, ite_false, reduceIte, reduceCtorEq, BEq.rfl, Bool.false_eq_true, Bool.not_true, Bool.not_false, List.all_cons, List.all_nil, Bool.and_true, Bool.true_and, Bool.and_self, true_and, and_true, exists_eq_left, exists_eq_left', D.bl.injEq, D.int.injEq, D.str.injEq, D.tup.injEq, Out.rt.injEq, Nat.lt_add_left_iff_pos, Nat.zero_lt_succ, Nat.reduceAdd, Nat.reduceLT, hx, decide_false]
  have a0 := add_lst (z := true) (y := false) (a := (S.works.filterMap begC).map condD) (b := (S.works.filterMap finC).map condD) (by rw [List.length_map, List.length_map]; omega) (cond_imm _) (cond_imm _)
  rw [← List.map_append] at a0
  simp only [wipeE, w_pC, w_pVar, w_pOwn, w_p1, w_p2, w_pSl, w_oNo, w_oSome, w_pTup, w_pCall, w_aNil, w_aCons, w_pIsi, w_pIsi2, w_eP, w_eMove, w_e1, w_e2, w_eTup, w_eLst, w_eFz, w_eCall, w_aNilE, w_aConsE, w_eIf, w_eComp, w_eDc, w_eDef, w_cNil, w_cVal, w_cBor, w_eMeth, w_eMetP, w_plVar, w_plIx, w_eSMet, w_yesT, w_tP, w_p2t, w_e2t, w_tTruP, w_tTru, w_tNo, w_tAnd2, w_tOr2, w_iSeq, w_iRange1, w_iRange2, w_iEnumE, rngD_len, w_gNm, w_gTup, w_gsNil, w_gsCons, w_gPut, w_sNil, w_sRet, w_sExpr, w_sAsg, w_sIf, w_sFor, w_sFz, ok_some, ok_map, takeB, giveB, outsOf, wipeE, im_non, im_bl, im_int, im_str, im_tup, im_scr, im_lst, im_dcK, im_dcT, fz_non, fz_bl, fz_int, fz_str, fz_tup, fz_scr, fz_lstT, fz_lst, fz_dcT, fz_dcK, wk_tup, wk_lst, wk_scr, wk_str, sI_tup, sI_lst, tr_bl, lt_int, gt_int, le_int, ge_int, eq_int, ne_int, eq_str, ne_str, ne_bl, eq_bl, add_int, sub_int, neg_int, g_int, g_abs, ix_tup, ix_lst, at0, at1, at2, g_len_tup, g_len_lst, List.getElem?_cons_zero, List.getElem?_cons_succ, List.set_cons_zero, List.set_cons_succ, List.length_cons, List.length_nil, List.map_cons, List.map_nil, List.replicate_succ, List.replicate_zero, List.cons_append, List.nil_append, List.head?_cons, List.tail_cons, Option.join_some, Option.map_some, if_true, if_false, ite_true, ite_false, reduceIte, reduceCtorEq, BEq.rfl, Bool.false_eq_true, Bool.not_true, Bool.not_false, List.all_cons, List.all_nil, Bool.and_true, Bool.true_and, Bool.and_self, true_and, and_true, exists_eq_left, exists_eq_left', D.bl.injEq, D.int.injEq, D.str.injEq, D.tup.injEq, Out.rt.injEq, Nat.lt_add_left_iff_pos, Nat.zero_lt_succ, Nat.reduceAdd, Nat.reduceLT, a0, fzc]
  refine seq_ok ?_
  simp only [w_pC, w_pVar, w_pOwn, w_p1, w_p2, w_pSl, w_oNo, w_oSome, w_pTup, w_pCall, w_aNil, w_aCons, w_pIsi, w_pIsi2, w_eP, w_eMove, w_e1, w_e2, w_eTup, w_eLst, w_eFz, w_eCall, w_aNilE, w_aConsE, w_eIf, w_eComp, w_eDc, w_eDef, w_cNil, w_cVal, w_cBor, w_eMeth, w_eMetP, w_plVar, w_plIx, w_eSMet, w_yesT, w_tP, w_p2t, w_e2t, w_tTruP, w_tTru, w_tNo, w_tAnd2, w_tOr2, w_iSeq, w_iRange1, w_iRange2, w_iEnumE, rngD_len, w_gNm, w_gTup, w_gsNil, w_gsCons, w_gPut, w_sNil, w_sRet, w_sExpr, w_sAsg, w_sIf, w_sFor, w_sFz, ok_some, ok_map, takeB, giveB, outsOf, wipeE, im_non, im_bl, im_int, im_str, im_tup, im_scr, im_lst, im_dcK, im_dcT, fz_non, fz_bl, fz_int, fz_str, fz_tup, fz_scr, fz_lstT, fz_lst, fz_dcT, fz_dcK, wk_tup, wk_lst, wk_scr, wk_str, sI_tup, sI_lst, tr_bl, lt_int, gt_int, le_int, ge_int, eq_int, ne_int, eq_str, ne_str, ne_bl, eq_bl, add_int, sub_int, neg_int, g_int, g_abs, ix_tup, ix_lst, at0, at1, at2, g_len_tup, g_len_lst, List.getElem?_cons_zero, List.getElem?_cons_succ, List.set_cons_zero, List.set_cons_succ, List.length_cons, List.length_nil, List.map_cons, List.map_nil, List.replicate_succ, List.replicate_zero, List.cons_append, List.nil_append, List.head?_cons, List.tail_cons, Option.join_some, Option.map_some, if_true, if_false, ite_true, ite_false, reduceIte, reduceCtorEq, BEq.rfl, Bool.false_eq_true, Bool.not_true, Bool.not_false, List.all_cons, List.all_nil, Bool.and_true, Bool.true_and, Bool.and_self, true_and, and_true, exists_eq_left, exists_eq_left', D.bl.injEq, D.int.injEq, D.str.injEq, D.tup.injEq, Out.rt.injEq, Nat.lt_add_left_iff_pos, Nat.zero_lt_succ, Nat.reduceAdd, Nat.reduceLT]
  refine ⟨_, rfl, small_nat (by rw [List.length_map]; omega), ?_⟩
  refine for_ok (fun i e => ∃ x5, e = [some (.tup [.tup [.tup (S.row.map D.int), .int S.rest], .tup (S.works.map workD), .tup (S.ties.map tieD)]), some (.tup [.tup (S.row.map D.int), .int S.rest]), some (.tup (S.works.map workD)), some (.tup (S.ties.map tieD)), some (.lst true ((S.works.filterMap begC ++ S.works.filterMap finC ++ handsTo S.row i).map condD)), x5, none, none, none, none]) ⟨none, by simp [handsTo]⟩ ?_ ?_
  · rintro i d e hi ⟨x5, rfl⟩
    obtain ⟨rfl, hin⟩ := rngD_at hi
    have hil : i < S.row.length := by simpa using hin
    have e0 : (0 : Int) + (i : Int) = i := by omega
    rw [e0]
    have pos : 0 ≤ S.row[i] := h2 _ (List.getElem_mem hil)
    have hbig := h5 _ (List.getElem_mem hil)
    simp only [w_pC, w_pVar, w_pOwn, w_p1, w_p2, w_pSl, w_oNo, w_oSome, w_pTup, w_pCall, w_aNil, w_aCons, w_pIsi, w_pIsi2, w_eP, w_eMove, w_e1, w_e2, w_eTup, w_eLst, w_eFz, w_eCall, w_aNilE, w_aConsE, w_eIf, w_eComp, w_eDc, w_eDef, w_cNil, w_cVal, w_cBor, w_eMeth, w_eMetP, w_plVar, w_plIx, w_eSMet, w_yesT, w_tP, w_p2t, w_e2t, w_tTruP, w_tTru, w_tNo, w_tAnd2, w_tOr2, w_iSeq, w_iRange1, w_iRange2, w_iEnumE, rngD_len, w_gNm, w_gTup, w_gsNil, w_gsCons, w_gPut, w_sNil, w_sRet, w_sExpr, w_sAsg, w_sIf, w_sFor, w_sFz, ok_some, ok_map, takeB, giveB, outsOf, wipeE, im_non, im_bl, im_int, im_str, im_tup, im_scr, im_lst, im_dcK, im_dcT, fz_non, fz_bl, fz_int, fz_str, fz_tup, fz_scr, fz_lstT, fz_lst, fz_dcT, fz_dcK, wk_tup, wk_lst, wk_scr, wk_str, sI_tup, sI_lst, tr_bl, lt_int, gt_int, le_int, ge_int, eq_int, ne_int, eq_str, ne_str, ne_bl, eq_bl, add_int, sub_int, neg_int, g_int, g_abs, ix_tup, ix_lst, at0, at1, at2, g_len_tup, g_len_lst, List.getElem?_cons_zero, List.getElem?_cons_succ, List.set_cons_zero, List.set_cons_succ, List.length_cons, List.length_nil, List.map_cons, List.map_nil, List.replicate_succ, List.replicate_zero, List.cons_append, List.nil_append, List.head?_cons, List.tail_cons, Option.join_some, Option.map_some, if_true, if_false, ite_true, ite_false, reduceIte, reduceCtorEq, BEq.rfl, Bool.false_eq_true, Bool.not_true, Bool.not_false, List.all_cons, List.all_nil, Bool.and_true, Bool.true_and, Bool.and_self, true_and, and_true, exists_eq_left, exists_eq_left', D.bl.injEq, D.int.injEq, D.str.injEq, D.tup.injEq, Out.rt.injEq, Nat.lt_add_left_iff_pos, Nat.zero_lt_succ, Nat.reduceAdd, Nat.reduceLT, at_map (f := D.int) hil]
    refine ⟨_, _, rfl, ⟨⟨by omega, by omega⟩, small_nat (n := 2) (by decide)⟩, ?_⟩
    rw [rng_map]
    refine comp_fm (h := condD) (fun k => some (.hand i (S.row[i] + (k : Nat)))) (by rfl) (fun k _ => ?_) (by rw [List.length_nil, List.length_range]; omega) ?_
    · simp only [wipeE, w_pC, w_pVar, w_pOwn, w_p1, w_p2, w_pSl, w_oNo, w_oSome, w_pTup, w_pCall, w_aNil, w_aCons, w_pIsi, w_pIsi2, w_eP, w_eMove, w_e1, w_e2, w_eTup, w_eLst, w_eFz, w_eCall, w_aNilE, w_aConsE, w_eIf, w_eComp, w_eDc, w_eDef, w_cNil, w_cVal, w_cBor, w_eMeth, w_eMetP, w_plVar, w_plIx, w_eSMet, w_yesT, w_tP, w_p2t, w_e2t, w_tTruP, w_tTru, w_tNo, w_tAnd2, w_tOr2, w_iSeq, w_iRange1, w_iRange2, w_iEnumE, rngD_len, w_gNm, w_gTup, w_gsNil, w_gsCons, w_gPut, w_sNil, w_sRet, w_sExpr, w_sAsg, w_sIf, w_sFor, w_sFz, ok_some, ok_map, takeB, giveB, outsOf, wipeE, im_non, im_bl, im_int, im_str, im_tup, im_scr, im_lst, im_dcK, im_dcT, fz_non, fz_bl, fz_int, fz_str, fz_tup, fz_scr, fz_lstT, fz_lst, fz_dcT, fz_dcK, wk_tup, wk_lst, wk_scr, wk_str, sI_tup, sI_lst, tr_bl, lt_int, gt_int, le_int, ge_int, eq_int, ne_int, eq_str, ne_str, ne_bl, eq_bl, add_int, sub_int, neg_int, g_int, g_abs, ix_tup, ix_lst, at0, at1, at2, g_len_tup, g_len_lst, List.getElem?_cons_zero, List.getElem?_cons_succ, List.set_cons_zero, List.set_cons_succ, List.length_cons, List.length_nil, List.map_cons, List.map_nil, List.replicate_succ, List.replicate_zero, List.cons_append, List.nil_append, List.head?_cons, List.tail_cons, Option.join_some, Option.map_some, if_true, if_false, ite_true, ite_false, reduceIte, reduceCtorEq, BEq.rfl, Bool.false_eq_true, Bool.not_true, Bool.not_false, List.all_cons, List.all_nil, Bool.and_true, Bool.true_and, Bool.and_self, true_and, and_true, exists_eq_left, exists_eq_left', D.bl.injEq, D.int.injEq, D.str.injEq, D.tup.injEq, Out.rt.injEq, Nat.lt_add_left_iff_pos, Nat.zero_lt_succ, Nat.reduceAdd, Nat.reduceLT]
      exact ⟨_, rfl, by decide, rfl⟩
    have e1 : ((List.range (2 - S.row[i]).toNat).filterMap fun k => some (Cond.hand i (S.row[i] + (k : Nat)))) = handsAt i S.row[i] := filterMap_all _ _
    rw [e1]
    have l1 := handsTo_len h2 i (by omega)
    have l2 := handsAt_len (h := i) pos
    have a1 := add_lst (z := true) (y := false) (a := (S.works.filterMap begC ++ S.works.filterMap finC ++ handsTo S.row i).map condD) (b := (handsAt i S.row[i]).map condD) (by simp only [List.length_map, List.length_append]; omega) (cond_imm _) (cond_imm _)
    rw [← List.map_append] at a1
    simp only [wipeE, w_pC, w_pVar, w_pOwn, w_p1, w_p2, w_pSl, w_oNo, w_oSome, w_pTup, w_pCall, w_aNil, w_aCons, w_pIsi, w_pIsi2, w_eP, w_eMove, w_e1, w_e2, w_eTup, w_eLst, w_eFz, w_eCall, w_aNilE, w_aConsE, w_eIf, w_eComp, w_eDc, w_eDef, w_cNil, w_cVal, w_cBor, w_eMeth, w_eMetP, w_plVar, w_plIx, w_eSMet, w_yesT, w_tP, w_p2t, w_e2t, w_tTruP, w_tTru, w_tNo, w_tAnd2, w_tOr2, w_iSeq, w_iRange1, w_iRange2, w_iEnumE, rngD_len, w_gNm, w_gTup, w_gsNil, w_gsCons, w_gPut, w_sNil, w_sRet, w_sExpr, w_sAsg, w_sIf, w_sFor, w_sFz, ok_some, ok_map, takeB, giveB, outsOf, wipeE, im_non, im_bl, im_int, im_str, im_tup, im_scr, im_lst, im_dcK, im_dcT, fz_non, fz_bl, fz_int, fz_str, fz_tup, fz_scr, fz_lstT, fz_lst, fz_dcT, fz_dcK, wk_tup, wk_lst, wk_scr, wk_str, sI_tup, sI_lst, tr_bl, lt_int, gt_int, le_int, ge_int, eq_int, ne_int, eq_str, ne_str, ne_bl, eq_bl, add_int, sub_int, neg_int, g_int, g_abs, ix_tup, ix_lst, at0, at1, at2, g_len_tup, g_len_lst, List.getElem?_cons_zero, List.getElem?_cons_succ, List.set_cons_zero, List.set_cons_succ, List.length_cons, List.length_nil, List.map_cons, List.map_nil, List.replicate_succ, List.replicate_zero, List.cons_append, List.nil_append, List.head?_cons, List.tail_cons, Option.join_some, Option.map_some, if_true, if_false, ite_true, ite_false, reduceIte, reduceCtorEq, BEq.rfl, Bool.false_eq_true, Bool.not_true, Bool.not_false, List.all_cons, List.all_nil, Bool.and_true, Bool.true_and, Bool.and_self, true_and, and_true, exists_eq_left, exists_eq_left', D.bl.injEq, D.int.injEq, D.str.injEq, D.tup.injEq, Out.rt.injEq, Nat.lt_add_left_iff_pos, Nat.zero_lt_succ, Nat.reduceAdd, Nat.reduceLT, a1, fzc]
    exact ⟨some (.int i), by rw [handsTo_succ hil]; simp⟩
  rintro e ⟨x5, rfl⟩
  rw [rngD_len]
  have e9 : ((S.row.map D.int).length : Int).toNat = S.row.length := by simp
  rw [e9]
  refine ⟨rfl, ?_⟩
  simp only [w_pC, w_pVar, w_pOwn, w_p1, w_p2, w_pSl, w_oNo, w_oSome, w_pTup, w_pCall, w_aNil, w_aCons, w_pIsi, w_pIsi2, w_eP, w_eMove, w_e1, w_e2, w_eTup, w_eLst, w_eFz, w_eCall, w_aNilE, w_aConsE, w_eIf, w_eComp, w_eDc, w_eDef, w_cNil, w_cVal, w_cBor, w_eMeth, w_eMetP, w_plVar, w_plIx, w_eSMet, w_yesT, w_tP, w_p2t, w_e2t, w_tTruP, w_tTru, w_tNo, w_tAnd2, w_tOr2, w_iSeq, w_iRange1, w_iRange2, w_iEnumE, rngD_len, w_gNm, w_gTup, w_gsNil, w_gsCons, w_gPut, w_sNil, w_sRet, w_sExpr, w_sAsg, w_sIf, w_sFor, w_sFz, ok_some, ok_map, takeB, giveB, outsOf, wipeE, im_non, im_bl, im_int, im_str, im_tup, im_scr, im_lst, im_dcK, im_dcT, fz_non, fz_bl, fz_int, fz_str, fz_tup, fz_scr, fz_lstT, fz_lst, fz_dcT, fz_dcK, wk_tup, wk_lst, wk_scr, wk_str, sI_tup, sI_lst, tr_bl, lt_int, gt_int, le_int, ge_int, eq_int, ne_int, eq_str, ne_str, ne_bl, eq_bl, add_int, sub_int, neg_int, g_int, g_abs, ix_tup, ix_lst, at0, at1, at2, g_len_tup, g_len_lst, List.getElem?_cons_zero, List.getElem?_cons_succ, List.set_cons_zero, List.set_cons_succ, List.length_cons, List.length_nil, List.map_cons, List.map_nil, List.replicate_succ, List.replicate_zero, List.cons_append, List.nil_append, List.head?_cons, List.tail_cons, Option.join_some, Option.map_some, if_true, if_false, ite_true, ite_false, reduceIte, reduceCtorEq, BEq.rfl, Bool.false_eq_true, Bool.not_true, Bool.not_false, List.all_cons, List.all_nil, Bool.and_true, Bool.true_and, Bool.and_self, true_and, and_true, exists_eq_left, exists_eq_left', D.bl.injEq, D.int.injEq, D.str.injEq, D.tup.injEq, Out.rt.injEq, Nat.lt_add_left_iff_pos, Nat.zero_lt_succ, Nat.reduceAdd, Nat.reduceLT]
  refine comp_fm (h := condD) (fun t => some (.tie t.1 t.2.1)) (by rfl) (fun x _ => ?_) (by rw [List.length_nil]; omega) ?_
  · simp only [wipeE, w_pC, w_pVar, w_pOwn, w_p1, w_p2, w_pSl, w_oNo, w_oSome, w_pTup, w_pCall, w_aNil, w_aCons, w_pIsi, w_pIsi2, w_eP, w_eMove, w_e1, w_e2, w_eTup, w_eLst, w_eFz, w_eCall, w_aNilE, w_aConsE, w_eIf, w_eComp, w_eDc, w_eDef, w_cNil, w_cVal, w_cBor, w_eMeth, w_eMetP, w_plVar, w_plIx, w_eSMet, w_yesT, w_tP, w_p2t, w_e2t, w_tTruP, w_tTru, w_tNo, w_tAnd2, w_tOr2, w_iSeq, w_iRange1, w_iRange2, w_iEnumE, rngD_len, w_gNm, w_gTup, w_gsNil, w_gsCons, w_gPut, w_sNil, w_sRet, w_sExpr, w_sAsg, w_sIf, w_sFor, w_sFz, ok_some, ok_map, takeB, giveB, outsOf, wipeE, im_non, im_bl, im_int, im_str, im_tup, im_scr, im_lst, im_dcK, im_dcT, fz_non, fz_bl, fz_int, fz_str, fz_tup, fz_scr, fz_lstT, fz_lst, fz_dcT, fz_dcK, wk_tup, wk_lst, wk_scr, wk_str, sI_tup, sI_lst, tr_bl, lt_int, gt_int, le_int, ge_int, eq_int, ne_int, eq_str, ne_str, ne_bl, eq_bl, add_int, sub_int, neg_int, g_int, g_abs, ix_tup, ix_lst, at0, at1, at2, g_len_tup, g_len_lst, List.getElem?_cons_zero, List.getElem?_cons_succ, List.set_cons_zero, List.set_cons_succ, List.length_cons, List.length_nil, List.map_cons, List.map_nil, List.replicate_succ, List.replicate_zero, List.cons_append, List.nil_append, List.head?_cons, List.tail_cons, Option.join_some, Option.map_some, if_true, if_false, ite_true, ite_false, reduceIte, reduceCtorEq, BEq.rfl, Bool.false_eq_true, Bool.not_true, Bool.not_false, List.all_cons, List.all_nil, Bool.and_true, Bool.true_and, Bool.and_self, true_and, and_true, exists_eq_left, exists_eq_left', D.bl.injEq, D.int.injEq, D.str.injEq, D.tup.injEq, Out.rt.injEq, Nat.lt_add_left_iff_pos, Nat.zero_lt_succ, Nat.reduceAdd, Nat.reduceLT, tieD]
    exact ⟨_, rfl, by decide, rfl⟩
  rw [filterMap_all]
  have l1 := handsTo_len h2 S.row.length (Nat.le_refl _)
  have a2 := add_lst (z := true) (y := false) (a := (S.works.filterMap begC ++ S.works.filterMap finC ++ handsTo S.row S.row.length).map condD) (b := (S.ties.map fun t => Cond.tie t.1 t.2.1).map condD) (by simp only [List.length_map, List.length_append]; omega) (cond_imm _) (cond_imm _)
  rw [← List.map_append] at a2
  simp only [wipeE, w_pC, w_pVar, w_pOwn, w_p1, w_p2, w_pSl, w_oNo, w_oSome, w_pTup, w_pCall, w_aNil, w_aCons, w_pIsi, w_pIsi2, w_eP, w_eMove, w_e1, w_e2, w_eTup, w_eLst, w_eFz, w_eCall, w_aNilE, w_aConsE, w_eIf, w_eComp, w_eDc, w_eDef, w_cNil, w_cVal, w_cBor, w_eMeth, w_eMetP, w_plVar, w_plIx, w_eSMet, w_yesT, w_tP, w_p2t, w_e2t, w_tTruP, w_tTru, w_tNo, w_tAnd2, w_tOr2, w_iSeq, w_iRange1, w_iRange2, w_iEnumE, rngD_len, w_gNm, w_gTup, w_gsNil, w_gsCons, w_gPut, w_sNil, w_sRet, w_sExpr, w_sAsg, w_sIf, w_sFor, w_sFz, ok_some, ok_map, takeB, giveB, outsOf, wipeE, im_non, im_bl, im_int, im_str, im_tup, im_scr, im_lst, im_dcK, im_dcT, fz_non, fz_bl, fz_int, fz_str, fz_tup, fz_scr, fz_lstT, fz_lst, fz_dcT, fz_dcK, wk_tup, wk_lst, wk_scr, wk_str, sI_tup, sI_lst, tr_bl, lt_int, gt_int, le_int, ge_int, eq_int, ne_int, eq_str, ne_str, ne_bl, eq_bl, add_int, sub_int, neg_int, g_int, g_abs, ix_tup, ix_lst, at0, at1, at2, g_len_tup, g_len_lst, List.getElem?_cons_zero, List.getElem?_cons_succ, List.set_cons_zero, List.set_cons_succ, List.length_cons, List.length_nil, List.map_cons, List.map_nil, List.replicate_succ, List.replicate_zero, List.cons_append, List.nil_append, List.head?_cons, List.tail_cons, Option.join_some, Option.map_some, if_true, if_false, ite_true, ite_false, reduceIte, reduceCtorEq, BEq.rfl, Bool.false_eq_true, Bool.not_true, Bool.not_false, List.all_cons, List.all_nil, Bool.and_true, Bool.true_and, Bool.and_self, true_and, and_true, exists_eq_left, exists_eq_left', D.bl.injEq, D.int.injEq, D.str.injEq, D.tup.injEq, Out.rt.injEq, Nat.lt_add_left_iff_pos, Nat.zero_lt_succ, Nat.reduceAdd, Nat.reduceLT, a2, g_tuple (cond_imm _)]
  exact q

/-! ### the same data are the same -/
mutual
def nodes : D → Nat
  | .tup ds => nodesL ds + 1
  | _ => 1
def nodesL : List D → Nat
  | [] => 0
  | d :: ds => nodes d + nodesL ds
end
mutual
def plainD : D → Bool
  | .int _ => true
  | .str _ => true
  | .tup ds => plainL ds
  | _ => false
def plainL : List D → Bool
  | [] => true
  | d :: ds => plainD d && plainL ds
end
theorem nodes_pos (d : D) : 1 ≤ nodes d := by cases d <;> simp [nodes]
theorem nodesL_app : ∀ a b : List D, nodesL (a ++ b) = nodesL a + nodesL b
  | [], b => by simp [nodesL]
  | d :: a, b => by simp only [List.cons_append, nodesL, nodesL_app a b]; omega
theorem nodesL_len : ∀ a : List D, a.length ≤ nodesL a
  | [] => Nat.le_refl _
  | d :: a => by
    have := nodesL_len a
    have := nodes_pos d
    simp only [List.length_cons, nodesL]; omega
theorem plainL_app : ∀ a b : List D, plainL (a ++ b) = (plainL a && plainL b)
  | [], b => by simp [plainL]
  | d :: a, b => by simp only [List.cons_append, plainL, plainL_app a b, Bool.and_assoc]
theorem plain_imm {d : D} (h : plainD d = true) : isImm d = true := by cases d <;> first | rfl | simp [plainD] at h
theorem plainL_mem : ∀ {ds : List D}, plainL ds = true → ∀ d ∈ ds, plainD d = true
  | [], _, _, m => (nomatch m)
  | d :: ds, h, e, m => by
    simp only [plainL, Bool.and_eq_true] at h
    rcases List.mem_cons.mp m with rfl | m
    · exact h.1
    · exact plainL_mem h.2 e m
def pairD (d : D) : D := .tup [d, d]
theorem pair_imm (l : List D) : (l.map pairD).all isImm = true := all_map _ fun _ => rfl
def same_test : TSm := tP (tTruP (pVar 2))
def same_body : SSm := (sSeq (sAsg (eMeth 2 "list" mPop aNilE) (gTu 2 (gsCons (gNm 3) (gsCons (gNm 4) gsNil))))
  (sIf (tP (tTruP (pIsi2 "tuple" "list" (pVar 4)))) (sSeq (sIf (tOr2 (tP (p2t dNe (pIsi "tuple" (pVar 3)) (pIsi "tuple" (pVar 4)))) (tP (p2t dNe (pIsi "list" (pVar 3)) (pIsi "list" (pVar 4))))) (sRet (eP (pC (.bl false)))) sNil)
  (sSeq (sIf (tP (p2t dNe (pCall gLen (aCons (pVar 3) aNil)) (pCall gLen (aCons (pVar 4) aNil)))) (sRet (eP (pC (.bl false)))) sNil)
  (sExpr (eMeth 2 "list" mExtend (aConsE (eComp [5, 6] (iRange1 (aConsE (eP (pCall gLen (aCons (pVar 4) aNil))) aNilE)) (gNm 6) yesT (eP (pTup (aCons (p2 dIx (pVar 3) (pVar 6)) (aCons (p2 dIx (pVar 4) (pVar 6)) aNil))))) aNilE))))) (sIf (tP (p2t dIs (pVar 4) (pC .non))) (sIf (tP (p2t dIsNot (pVar 3) (pC .non))) (sRet (eP (pC (.bl false)))) sNil) (sIf (tOr2 (tP (p2t dNe (pIsi "bool" (pVar 4)) (pIsi "bool" (pVar 3)))) (tP (p2t dNe (pIsi "int" (pVar 4)) (pIsi "int" (pVar 3))))) (sRet (eP (pC (.bl false)))) (sIf (tOr2 (tP (p2t dNe (pIsi "str" (pVar 4)) (pIsi "str" (pVar 3)))) (tP (p2t dNe (pVar 3) (pVar 4)))) (sRet (eP (pC (.bl false)))) sNil)))))
theorem is_int {i : Int} : dIs (.int i) .non = some (.bl false) := rfl
theorem is_str {s : Str} : dIs (.str s) .non = some (.bl false) := rfl
theorem rng_self (ds : List D) : rngD 0 ds.length = (List.range ds.length).map fun k => D.int (k : Nat) := by
  unfold rngD
  congr 1
  funext k
  rw [Int.zero_add]
theorem range_getD (ds : List D) : ((List.range ds.length).map fun k => ds.getD k .non) = ds := by
  apply List.ext_getElem
  · simp
  · intro k h1 h2
    simp [List.getD_eq_getElem?_getD, h2]
theorem isT_int {i : Int} : isD "tuple" (.int i) = false := by simp [isD, tyN]
theorem isL_int {i : Int} : isD "list" (.int i) = false := by simp [isD, tyN]
theorem isT_str {s : Str} : isD "tuple" (.str s) = false := by simp [isD, tyN]
theorem isL_str {s : Str} : isD "list" (.str s) = false := by simp [isD, tyN]
theorem isT_tup {ds : List D} : isD "tuple" (.tup ds) = true := by simp [isD, tyN]
theorem nft_int {i : Int} : notFT (.int i) = true := rfl
theorem nft_str {s : Str} : notFT (.str s) = true := rfl
theorem nft_tup {ds : List D} : notFT (.tup ds) = true := rfl
theorem bne_self (b : Bool) : (!(b == b)) = false := by simp
theorem ine_self (i : Int) : (!(i == i)) = false := by simp
theorem sne_self (s : Str) : (!decide (s = s)) = false := by simp
theorem same_turn {t u x3 x4 : Option D} {ds : List D} {d : D} (hp : plainD d = true) (hz : nodesL ds + nodes d ≤ 16777216) : ∃ es, nodesL es + 1 = nodes d ∧ plainL es = true ∧ same_body [t, u, some (.lst false ((ds ++ [d]).map pairD)), x3, x4, none, none] = some (.nx, [t, u, some (.lst false ((ds ++ es).map pairD)), some d, some d, none, none]) := by
  have e0 : (ds ++ [d]).map pairD = ds.map pairD ++ [pairD d] := by simp
  have rl : ∀ l, okRecv "list" (.lst false l) = true := fun _ => rfl
  have fin : ∀ es : List D, (Ok (same_body [t, u, some (.lst false (ds.map pairD ++ [pairD d])), x3, x4, none, none]) fun r => r = (.nx, [t, u, some (.lst false ((ds ++ es).map pairD)), some d, some d, none, none])) →
      same_body [t, u, some (.lst false ((ds ++ [d]).map pairD)), x3, x4, none, none] = some (.nx, [t, u, some (.lst false ((ds ++ es).map pairD)), some d, some d, none, none]) := fun es ⟨r, h1, h2⟩ => by rw [e0, h1, h2]
  cases d with
  | int i =>
    refine ⟨[], rfl, rfl, fin [] ?_⟩
    unfold same_body
    refine seq_ok ?_
    simp only [w_pC, w_pVar, w_pOwn, w_p1, w_p2, w_pSl, w_oNo, w_oSome, w_pTup, w_pCall, w_aNil, w_aCons, w_pIsi, w_pIsi2, w_eP, w_eMove, w_e1, w_e2, w_eTup, w_eLst, w_eFz, w_eCall, w_aNilE, w_aConsE, w_eIf, w_eComp, w_eDc, w_eDef, w_cNil, w_cVal, w_cBor, w_eMeth, w_eMetP, w_plVar, w_plIx, w_eSMet, w_yesT, w_tP, w_p2t, w_e2t, w_tTruP, w_tTru, w_tNo, w_tAnd2, w_tOr2, w_iSeq, w_iRange1, w_iRange2, w_iEnumE, rngD_len, w_gNm, w_gTup, w_gsNil, w_gsCons, w_gPut, w_sNil, w_sRet, w_sExpr, w_sAsg, w_sIf, w_sFor, w_sFz, ok_some, ok_map, takeB, giveB, outsOf, wipeE, im_non, im_bl, im_int, im_str, im_tup, im_scr, im_lst, im_dcK, im_dcT, fz_non, fz_bl, fz_int, fz_str, fz_tup, fz_scr, fz_lstT, fz_lst, fz_dcT, fz_dcK, wk_tup, wk_lst, wk_scr, wk_str, sI_tup, sI_lst, tr_bl, lt_int, gt_int, le_int, ge_int, eq_int, ne_int, eq_str, ne_str, ne_bl, eq_bl, add_int, sub_int, neg_int, g_int, g_abs, ix_tup, ix_lst, at0, at1, at2, g_len_tup, g_len_lst, List.getElem?_cons_zero, List.getElem?_cons_succ, List.set_cons_zero, List.set_cons_succ, List.length_cons, List.length_nil, List.map_cons, List.map_nil, List.replicate_succ, List.replicate_zero, List.cons_append, List.nil_append, List.head?_cons, List.tail_cons, Option.join_some, Option.map_some, if_true, if_false, ite_true, ite_false, reduceIte, reduceCtorEq, BEq.rfl, Bool.false_eq_true, Bool.not_true, Bool.not_false, List.all_cons, List.all_nil, Bool.and_true, Bool.true_and, Bool.and_self, true_and, and_true, exists_eq_left, exists_eq_left', D.bl.injEq, D.int.injEq, D.str.injEq, D.tup.injEq, Out.rt.injEq, Nat.lt_add_left_iff_pos, Nat.zero_lt_succ, Nat.reduceAdd, Nat.reduceLT, rl, pop_last]
    simp only [pairD, w_pC, w_pVar, w_pOwn, w_p1, w_p2, w_pSl, w_oNo, w_oSome, w_pTup, w_pCall, w_aNil, w_aCons, w_pIsi, w_pIsi2, w_eP, w_eMove, w_e1, w_e2, w_eTup, w_eLst, w_eFz, w_eCall, w_aNilE, w_aConsE, w_eIf, w_eComp, w_eDc, w_eDef, w_cNil, w_cVal, w_cBor, w_eMeth, w_eMetP, w_plVar, w_plIx, w_eSMet, w_yesT, w_tP, w_p2t, w_e2t, w_tTruP, w_tTru, w_tNo, w_tAnd2, w_tOr2, w_iSeq, w_iRange1, w_iRange2, w_iEnumE, rngD_len, w_gNm, w_gTup, w_gsNil, w_gsCons, w_gPut, w_sNil, w_sRet, w_sExpr, w_sAsg, w_sIf, w_sFor, w_sFz, ok_some, ok_map, takeB, giveB, outsOf, wipeE, im_non, im_bl, im_int, im_str, im_tup, im_scr, im_lst, im_dcK, im_dcT, fz_non, fz_bl, fz_int, fz_str, fz_tup, fz_scr, fz_lstT, fz_lst, fz_dcT, fz_dcK, wk_tup, wk_lst, wk_scr, wk_str, sI_tup, sI_lst, tr_bl, lt_int, gt_int, le_int, ge_int, eq_int, ne_int, eq_str, ne_str, ne_bl, eq_bl, add_int, sub_int, neg_int, g_int, g_abs, ix_tup, ix_lst, at0, at1, at2, g_len_tup, g_len_lst, List.getElem?_cons_zero, List.getElem?_cons_succ, List.set_cons_zero, List.set_cons_succ, List.length_cons, List.length_nil, List.map_cons, List.map_nil, List.replicate_succ, List.replicate_zero, List.cons_append, List.nil_append, List.head?_cons, List.tail_cons, Option.join_some, Option.map_some, if_true, if_false, ite_true, ite_false, reduceIte, reduceCtorEq, BEq.rfl, Bool.false_eq_true, Bool.not_true, Bool.not_false, List.all_cons, List.all_nil, Bool.and_true, Bool.true_and, Bool.and_self, true_and, and_true, exists_eq_left, exists_eq_left', D.bl.injEq, D.int.injEq, D.str.injEq, D.tup.injEq, Out.rt.injEq, Nat.lt_add_left_iff_pos, Nat.zero_lt_succ, Nat.reduceAdd, Nat.reduceLT]
    refine ⟨rfl, ?_⟩
    simp only [w_pC, w_pVar, w_pOwn, w_p1, w_p2, w_pSl, w_oNo, w_oSome, w_pTup, w_pCall, w_aNil, w_aCons, w_pIsi, w_pIsi2, w_eP, w_eMove, w_e1, w_e2, w_eTup, w_eLst, w_eFz, w_eCall, w_aNilE, w_aConsE, w_eIf, w_eComp, w_eDc, w_eDef, w_cNil, w_cVal, w_cBor, w_eMeth, w_eMetP, w_plVar, w_plIx, w_eSMet, w_yesT, w_tP, w_p2t, w_e2t, w_tTruP, w_tTru, w_tNo, w_tAnd2, w_tOr2, w_iSeq, w_iRange1, w_iRange2, w_iEnumE, rngD_len, w_gNm, w_gTup, w_gsNil, w_gsCons, w_gPut, w_sNil, w_sRet, w_sExpr, w_sAsg, w_sIf, w_sFor, w_sFz, ok_some, ok_map, takeB, giveB, outsOf, wipeE, im_non, im_bl, im_int, im_str, im_tup, im_scr, im_lst, im_dcK, im_dcT, fz_non, fz_bl, fz_int, fz_str, fz_tup, fz_scr, fz_lstT, fz_lst, fz_dcT, fz_dcK, wk_tup, wk_lst, wk_scr, wk_str, sI_tup, sI_lst, tr_bl, lt_int, gt_int, le_int, ge_int, eq_int, ne_int, eq_str, ne_str, ne_bl, eq_bl, add_int, sub_int, neg_int, g_int, g_abs, ix_tup, ix_lst, at0, at1, at2, g_len_tup, g_len_lst, List.getElem?_cons_zero, List.getElem?_cons_succ, List.set_cons_zero, List.set_cons_succ, List.length_cons, List.length_nil, List.map_cons, List.map_nil, List.replicate_succ, List.replicate_zero, List.cons_append, List.nil_append, List.head?_cons, List.tail_cons, Option.join_some, Option.map_some, if_true, if_false, ite_true, ite_false, reduceIte, reduceCtorEq, BEq.rfl, Bool.false_eq_true, Bool.not_true, Bool.not_false, List.all_cons, List.all_nil, Bool.and_true, Bool.true_and, Bool.and_self, true_and, and_true, exists_eq_left, exists_eq_left', D.bl.injEq, D.int.injEq, D.str.injEq, D.tup.injEq, Out.rt.injEq, Nat.lt_add_left_iff_pos, Nat.zero_lt_succ, Nat.reduceAdd, Nat.reduceLT, isT_int, isL_int, nft_int, Bool.or_self, is_int, bne_self, ine_self, List.append_nil]
  | str s =>
    refine ⟨[], rfl, rfl, fin [] ?_⟩
    unfold same_body
    refine seq_ok ?_
    simp only [w_pC, w_pVar, w_pOwn, w_p1, w_p2, w_pSl, w_oNo, w_oSome, w_pTup, w_pCall, w_aNil, w_aCons, w_pIsi, w_pIsi2, w_eP, w_eMove, w_e1, w_e2, w_eTup, w_eLst, w_eFz, w_eCall, w_aNilE, w_aConsE, w_eIf, w_eComp, w_eDc, w_eDef, w_cNil, w_cVal, w_cBor, w_eMeth, w_eMetP, w_plVar, w_plIx, w_eSMet, w_yesT, w_tP, w_p2t, w_e2t, w_tTruP, w_tTru, w_tNo, w_tAnd2, w_tOr2, w_iSeq, w_iRange1, w_iRange2, w_iEnumE, rngD_len, w_gNm, w_gTup, w_gsNil, w_gsCons, w_gPut, w_sNil, w_sRet, w_sExpr, w_sAsg, w_sIf, w_sFor, w_sFz, ok_some, ok_map, takeB, giveB, outsOf, wipeE, im_non, im_bl, im_int, im_str, im_tup, im_scr, im_lst, im_dcK, im_dcT, fz_non, fz_bl, fz_int, fz_str, fz_tup, fz_scr, fz_lstT, fz_lst, fz_dcT, fz_dcK, wk_tup, wk_lst, wk_scr, wk_str, sI_tup, sI_lst, tr_bl, lt_int, gt_int, le_int, ge_int, eq_int, ne_int, eq_str, ne_str, ne_bl, eq_bl, add_int, sub_int, neg_int, g_int, g_abs, ix_tup, ix_lst, at0, at1, at2, g_len_tup, g_len_lst, List.getElem?_cons_zero, List.getElem?_cons_succ, List.set_cons_zero, List.set_cons_succ, List.length_cons, List.length_nil, List.map_cons, List.map_nil, List.replicate_succ, List.replicate_zero, List.cons_append, List.nil_append, List.head?_cons, List.tail_cons, Option.join_some, Option.map_some, if_true, if_false, ite_true, ite_false, reduceIte, reduceCtorEq, BEq.rfl, Bool.false_eq_true, Bool.not_true, Bool.not_false, List.all_cons, List.all_nil, Bool.and_true, Bool.true_and, Bool.and_self, true_and, and_true, exists_eq_left, exists_eq_left', D.bl.injEq, D.int.injEq, D.str.injEq, D.tup.injEq, Out.rt.injEq, Nat.lt_add_left_iff_pos, Nat.zero_lt_succ, Nat.reduceAdd, Nat.reduceLT, rl, pop_last]
    simp only [pairD, w_pC, w_pVar, w_pOwn, w_p1, w_p2, w_pSl, w_oNo, w_oSome, w_pTup, w_pCall, w_aNil, w_aCons, w_pIsi, w_pIsi2, w_eP, w_eMove, w_e1, w_e2, w_eTup, w_eLst, w_eFz, w_eCall, w_aNilE, w_aConsE, w_eIf, w_eComp, w_eDc, w_eDef, w_cNil, w_cVal, w_cBor, w_eMeth, w_eMetP, w_plVar, w_plIx, w_eSMet, w_yesT, w_tP, w_p2t, w_e2t, w_tTruP, w_tTru, w_tNo, w_tAnd2, w_tOr2, w_iSeq, w_iRange1, w_iRange2, w_iEnumE, rngD_len, w_gNm, w_gTup, w_gsNil, w_gsCons, w_gPut, w_sNil, w_sRet, w_sExpr, w_sAsg, w_sIf, w_sFor, w_sFz, ok_some, ok_map, takeB, giveB, outsOf, wipeE, im_non, im_bl, im_int, im_str, im_tup, im_scr, im_lst, im_dcK, im_dcT, fz_non, fz_bl, fz_int, fz_str, fz_tup, fz_scr, fz_lstT, fz_lst, fz_dcT, fz_dcK, wk_tup, wk_lst, wk_scr, wk_str, sI_tup, sI_lst, tr_bl, lt_int, gt_int, le_int, ge_int, eq_int, ne_int, eq_str, ne_str, ne_bl, eq_bl, add_int, sub_int, neg_int, g_int, g_abs, ix_tup, ix_lst, at0, at1, at2, g_len_tup, g_len_lst, List.getElem?_cons_zero, List.getElem?_cons_succ, List.set_cons_zero, List.set_cons_succ, List.length_cons, List.length_nil, List.map_cons, List.map_nil, List.replicate_succ, List.replicate_zero, List.cons_append, List.nil_append, List.head?_cons, List.tail_cons, Option.join_some, Option.map_some, if_true, if_false, ite_true, ite_false, reduceIte, reduceCtorEq, BEq.rfl, Bool.false_eq_true, Bool.not_true, Bool.not_false, List.all_cons, List.all_nil, Bool.and_true, Bool.true_and, Bool.and_self, true_and, and_true, exists_eq_left, exists_eq_left', D.bl.injEq, D.int.injEq, D.str.injEq, D.tup.injEq, Out.rt.injEq, Nat.lt_add_left_iff_pos, Nat.zero_lt_succ, Nat.reduceAdd, Nat.reduceLT]
    refine ⟨rfl, ?_⟩
    simp only [w_pC, w_pVar, w_pOwn, w_p1, w_p2, w_pSl, w_oNo, w_oSome, w_pTup, w_pCall, w_aNil, w_aCons, w_pIsi, w_pIsi2, w_eP, w_eMove, w_e1, w_e2, w_eTup, w_eLst, w_eFz, w_eCall, w_aNilE, w_aConsE, w_eIf, w_eComp, w_eDc, w_eDef, w_cNil, w_cVal, w_cBor, w_eMeth, w_eMetP, w_plVar, w_plIx, w_eSMet, w_yesT, w_tP, w_p2t, w_e2t, w_tTruP, w_tTru, w_tNo, w_tAnd2, w_tOr2, w_iSeq, w_iRange1, w_iRange2, w_iEnumE, rngD_len, w_gNm, w_gTup, w_gsNil, w_gsCons, w_gPut, w_sNil, w_sRet, w_sExpr, w_sAsg, w_sIf, w_sFor, w_sFz, ok_some, ok_map, takeB, giveB, outsOf, wipeE, im_non, im_bl, im_int, im_str, im_tup, im_scr, im_lst, im_dcK, im_dcT, fz_non, fz_bl, fz_int, fz_str, fz_tup, fz_scr, fz_lstT, fz_lst, fz_dcT, fz_dcK, wk_tup, wk_lst, wk_scr, wk_str, sI_tup, sI_lst, tr_bl, lt_int, gt_int, le_int, ge_int, eq_int, ne_int, eq_str, ne_str, ne_bl, eq_bl, add_int, sub_int, neg_int, g_int, g_abs, ix_tup, ix_lst, at0, at1, at2, g_len_tup, g_len_lst, List.getElem?_cons_zero, List.getElem?_cons_succ, List.set_cons_zero, List.set_cons_succ, List.length_cons, List.length_nil, List.map_cons, List.map_nil, List.replicate_succ, List.replicate_zero, List.cons_append, List.nil_append, List.head?_cons, List.tail_cons, Option.join_some, Option.map_some, if_true, if_false, ite_true, ite_false, reduceIte, reduceCtorEq, BEq.rfl, Bool.false_eq_true, Bool.not_true, Bool.not_false, List.all_cons, List.all_nil, Bool.and_true, Bool.true_and, Bool.and_self, true_and, and_true, exists_eq_left, exists_eq_left', D.bl.injEq, D.int.injEq, D.str.injEq, D.tup.injEq, Out.rt.injEq, Nat.lt_add_left_iff_pos, Nat.zero_lt_succ, Nat.reduceAdd, Nat.reduceLT, isT_str, isL_str, nft_str, Bool.or_self, is_str, bne_self, sne_self, List.append_nil, decide_true]
  | tup es =>
    have hz' : nodesL ds + (nodesL es + 1) ≤ 16777216 := by simpa [nodes] using hz
    have l1 := nodesL_len ds
    have l2 := nodesL_len es
    refine ⟨es, by simp [nodes], by simpa [plainD] using hp, fin es ?_⟩
    unfold same_body
    refine seq_ok ?_
    simp only [w_pC, w_pVar, w_pOwn, w_p1, w_p2, w_pSl, w_oNo, w_oSome, w_pTup, w_pCall, w_aNil, w_aCons, w_pIsi, w_pIsi2, w_eP, w_eMove, w_e1, w_e2, w_eTup, w_eLst, w_eFz, w_eCall, w_aNilE, w_aConsE, w_eIf, w_eComp, w_eDc, w_eDef, w_cNil, w_cVal, w_cBor, w_eMeth, w_eMetP, w_plVar, w_plIx, w_eSMet, w_yesT, w_tP, w_p2t, w_e2t, w_tTruP, w_tTru, w_tNo, w_tAnd2, w_tOr2, w_iSeq, w_iRange1, w_iRange2, w_iEnumE, rngD_len, w_gNm, w_gTup, w_gsNil, w_gsCons, w_gPut, w_sNil, w_sRet, w_sExpr, w_sAsg, w_sIf, w_sFor, w_sFz, ok_some, ok_map, takeB, giveB, outsOf, wipeE, im_non, im_bl, im_int, im_str, im_tup, im_scr, im_lst, im_dcK, im_dcT, fz_non, fz_bl, fz_int, fz_str, fz_tup, fz_scr, fz_lstT, fz_lst, fz_dcT, fz_dcK, wk_tup, wk_lst, wk_scr, wk_str, sI_tup, sI_lst, tr_bl, lt_int, gt_int, le_int, ge_int, eq_int, ne_int, eq_str, ne_str, ne_bl, eq_bl, add_int, sub_int, neg_int, g_int, g_abs, ix_tup, ix_lst, at0, at1, at2, g_len_tup, g_len_lst, List.getElem?_cons_zero, List.getElem?_cons_succ, List.set_cons_zero, List.set_cons_succ, List.length_cons, List.length_nil, List.map_cons, List.map_nil, List.replicate_succ, List.replicate_zero, List.cons_append, List.nil_append, List.head?_cons, List.tail_cons, Option.join_some, Option.map_some, if_true, if_false, ite_true, ite_false, reduceIte, reduceCtorEq, BEq.rfl, Bool.false_eq_true, Bool.not_true, Bool.not_false, List.all_cons, List.all_nil, Bool.and_true, Bool.true_and, Bool.and_self, true_and, and_true, exists_eq_left, exists_eq_left', D.bl.injEq, D.int.injEq, D.str.injEq, D.tup.injEq, Out.rt.injEq, Nat.lt_add_left_iff_pos, Nat.zero_lt_succ, Nat.reduceAdd, Nat.reduceLT, rl, pop_last]
    simp only [pairD, w_pC, w_pVar, w_pOwn, w_p1, w_p2, w_pSl, w_oNo, w_oSome, w_pTup, w_pCall, w_aNil, w_aCons, w_pIsi, w_pIsi2, w_eP, w_eMove, w_e1, w_e2, w_eTup, w_eLst, w_eFz, w_eCall, w_aNilE, w_aConsE, w_eIf, w_eComp, w_eDc, w_eDef, w_cNil, w_cVal, w_cBor, w_eMeth, w_eMetP, w_plVar, w_plIx, w_eSMet, w_yesT, w_tP, w_p2t, w_e2t, w_tTruP, w_tTru, w_tNo, w_tAnd2, w_tOr2, w_iSeq, w_iRange1, w_iRange2, w_iEnumE, rngD_len, w_gNm, w_gTup, w_gsNil, w_gsCons, w_gPut, w_sNil, w_sRet, w_sExpr, w_sAsg, w_sIf, w_sFor, w_sFz, ok_some, ok_map, takeB, giveB, outsOf, wipeE, im_non, im_bl, im_int, im_str, im_tup, im_scr, im_lst, im_dcK, im_dcT, fz_non, fz_bl, fz_int, fz_str, fz_tup, fz_scr, fz_lstT, fz_lst, fz_dcT, fz_dcK, wk_tup, wk_lst, wk_scr, wk_str, sI_tup, sI_lst, tr_bl, lt_int, gt_int, le_int, ge_int, eq_int, ne_int, eq_str, ne_str, ne_bl, eq_bl, add_int, sub_int, neg_int, g_int, g_abs, ix_tup, ix_lst, at0, at1, at2, g_len_tup, g_len_lst, List.getElem?_cons_zero, List.getElem?_cons_succ, List.set_cons_zero, List.set_cons_succ, List.length_cons, List.length_nil, List.map_cons, List.map_nil, List.replicate_succ, List.replicate_zero, List.cons_append, List.nil_append, List.head?_cons, List.tail_cons, Option.join_some, Option.map_some, if_true, if_false, ite_true, ite_false, reduceIte, reduceCtorEq, BEq.rfl, Bool.false_eq_true, Bool.not_true, Bool.not_false, List.all_cons, List.all_nil, Bool.and_true, Bool.true_and, Bool.and_self, true_and, and_true, exists_eq_left, exists_eq_left', D.bl.injEq, D.int.injEq, D.str.injEq, D.tup.injEq, Out.rt.injEq, Nat.lt_add_left_iff_pos, Nat.zero_lt_succ, Nat.reduceAdd, Nat.reduceLT]
    refine ⟨rfl, ?_⟩
    simp only [w_pC, w_pVar, w_pOwn, w_p1, w_p2, w_pSl, w_oNo, w_oSome, w_pTup, w_pCall, w_aNil, w_aCons, w_pIsi, w_pIsi2, w_eP, w_eMove, w_e1, w_e2, w_eTup, w_eLst, w_eFz, w_eCall, w_aNilE, w_aConsE, w_eIf, w_eComp, w_eDc, w_eDef, w_cNil, w_cVal, w_cBor, w_eMeth, w_eMetP, w_plVar, w_plIx, w_eSMet, w_yesT, w_tP, w_p2t, w_e2t, w_tTruP, w_tTru, w_tNo, w_tAnd2, w_tOr2, w_iSeq, w_iRange1, w_iRange2, w_iEnumE, rngD_len, w_gNm, w_gTup, w_gsNil, w_gsCons, w_gPut, w_sNil, w_sRet, w_sExpr, w_sAsg, w_sIf, w_sFor, w_sFz, ok_some, ok_map, takeB, giveB, outsOf, wipeE, im_non, im_bl, im_int, im_str, im_tup, im_scr, im_lst, im_dcK, im_dcT, fz_non, fz_bl, fz_int, fz_str, fz_tup, fz_scr, fz_lstT, fz_lst, fz_dcT, fz_dcK, wk_tup, wk_lst, wk_scr, wk_str, sI_tup, sI_lst, tr_bl, lt_int, gt_int, le_int, ge_int, eq_int, ne_int, eq_str, ne_str, ne_bl, eq_bl, add_int, sub_int, neg_int, g_int, g_abs, ix_tup, ix_lst, at0, at1, at2, g_len_tup, g_len_lst, List.getElem?_cons_zero, List.getElem?_cons_succ, List.set_cons_zero, List.set_cons_succ, List.length_cons, List.length_nil, List.map_cons, List.map_nil, List.replicate_succ, List.replicate_zero, List.cons_append, List.nil_append, List.head?_cons, List.tail_cons, Option.join_some, Option.map_some, if_true, if_false, ite_true, ite_false, reduceIte, reduceCtorEq, BEq.rfl, Bool.false_eq_true, Bool.not_true, Bool.not_false, List.all_cons, List.all_nil, Bool.and_true, Bool.true_and, Bool.and_self, true_and, and_true, exists_eq_left, exists_eq_left', D.bl.injEq, D.int.injEq, D.str.injEq, D.tup.injEq, Out.rt.injEq, Nat.lt_add_left_iff_pos, Nat.zero_lt_succ, Nat.reduceAdd, Nat.reduceLT, isT_tup, nft_tup, Bool.true_or]
    refine seq_ok ?_
    simp only [w_pC, w_pVar, w_pOwn, w_p1, w_p2, w_pSl, w_oNo, w_oSome, w_pTup, w_pCall, w_aNil, w_aCons, w_pIsi, w_pIsi2, w_eP, w_eMove, w_e1, w_e2, w_eTup, w_eLst, w_eFz, w_eCall, w_aNilE, w_aConsE, w_eIf, w_eComp, w_eDc, w_eDef, w_cNil, w_cVal, w_cBor, w_eMeth, w_eMetP, w_plVar, w_plIx, w_eSMet, w_yesT, w_tP, w_p2t, w_e2t, w_tTruP, w_tTru, w_tNo, w_tAnd2, w_tOr2, w_iSeq, w_iRange1, w_iRange2, w_iEnumE, rngD_len, w_gNm, w_gTup, w_gsNil, w_gsCons, w_gPut, w_sNil, w_sRet, w_sExpr, w_sAsg, w_sIf, w_sFor, w_sFz, ok_some, ok_map, takeB, giveB, outsOf, wipeE, im_non, im_bl, im_int, im_str, im_tup, im_scr, im_lst, im_dcK, im_dcT, fz_non, fz_bl, fz_int, fz_str, fz_tup, fz_scr, fz_lstT, fz_lst, fz_dcT, fz_dcK, wk_tup, wk_lst, wk_scr, wk_str, sI_tup, sI_lst, tr_bl, lt_int, gt_int, le_int, ge_int, eq_int, ne_int, eq_str, ne_str, ne_bl, eq_bl, add_int, sub_int, neg_int, g_int, g_abs, ix_tup, ix_lst, at0, at1, at2, g_len_tup, g_len_lst, List.getElem?_cons_zero, List.getElem?_cons_succ, List.set_cons_zero, List.set_cons_succ, List.length_cons, List.length_nil, List.map_cons, List.map_nil, List.replicate_succ, List.replicate_zero, List.cons_append, List.nil_append, List.head?_cons, List.tail_cons, Option.join_some, Option.map_some, if_true, if_false, ite_true, ite_false, reduceIte, reduceCtorEq, BEq.rfl, Bool.false_eq_true, Bool.not_true, Bool.not_false, List.all_cons, List.all_nil, Bool.and_true, Bool.true_and, Bool.and_self, true_and, and_true, exists_eq_left, exists_eq_left', D.bl.injEq, D.int.injEq, D.str.injEq, D.tup.injEq, Out.rt.injEq, Nat.lt_add_left_iff_pos, Nat.zero_lt_succ, Nat.reduceAdd, Nat.reduceLT, nft_tup, bne_self]
    refine seq_ok ?_
    simp only [w_pC, w_pVar, w_pOwn, w_p1, w_p2, w_pSl, w_oNo, w_oSome, w_pTup, w_pCall, w_aNil, w_aCons, w_pIsi, w_pIsi2, w_eP, w_eMove, w_e1, w_e2, w_eTup, w_eLst, w_eFz, w_eCall, w_aNilE, w_aConsE, w_eIf, w_eComp, w_eDc, w_eDef, w_cNil, w_cVal, w_cBor, w_eMeth, w_eMetP, w_plVar, w_plIx, w_eSMet, w_yesT, w_tP, w_p2t, w_e2t, w_tTruP, w_tTru, w_tNo, w_tAnd2, w_tOr2, w_iSeq, w_iRange1, w_iRange2, w_iEnumE, rngD_len, w_gNm, w_gTup, w_gsNil, w_gsCons, w_gPut, w_sNil, w_sRet, w_sExpr, w_sAsg, w_sIf, w_sFor, w_sFz, ok_some, ok_map, takeB, giveB, outsOf, wipeE, im_non, im_bl, im_int, im_str, im_tup, im_scr, im_lst, im_dcK, im_dcT, fz_non, fz_bl, fz_int, fz_str, fz_tup, fz_scr, fz_lstT, fz_lst, fz_dcT, fz_dcK, wk_tup, wk_lst, wk_scr, wk_str, sI_tup, sI_lst, tr_bl, lt_int, gt_int, le_int, ge_int, eq_int, ne_int, eq_str, ne_str, ne_bl, eq_bl, add_int, sub_int, neg_int, g_int, g_abs, ix_tup, ix_lst, at0, at1, at2, g_len_tup, g_len_lst, List.getElem?_cons_zero, List.getElem?_cons_succ, List.set_cons_zero, List.set_cons_succ, List.length_cons, List.length_nil, List.map_cons, List.map_nil, List.replicate_succ, List.replicate_zero, List.cons_append, List.nil_append, List.head?_cons, List.tail_cons, Option.join_some, Option.map_some, if_true, if_false, ite_true, ite_false, reduceIte, reduceCtorEq, BEq.rfl, Bool.false_eq_true, Bool.not_true, Bool.not_false, List.all_cons, List.all_nil, Bool.and_true, Bool.true_and, Bool.and_self, true_and, and_true, exists_eq_left, exists_eq_left', D.bl.injEq, D.int.injEq, D.str.injEq, D.tup.injEq, Out.rt.injEq, Nat.lt_add_left_iff_pos, Nat.zero_lt_succ, Nat.reduceAdd, Nat.reduceLT, ine_self, rl]
    refine ⟨_, rfl, small_nat (by omega), ?_⟩
    have e9 : ((es.length : Nat) : Int).toNat = es.length := by simp
    rw [e9, rng_self]
    refine comp_fm (h := pairD) (fun k => some (es.getD k .non)) (by rfl) (fun k hk => ?_) (by rw [List.length_nil, List.length_range]; omega) ?_
    · have hk := List.mem_range.mp hk
      have hg : L2.atI es (k : Int) = some (es.getD k .non) := by rw [at_nat hk]; simp [List.getD_eq_getElem?_getD, hk]
      have hi : isImm (es.getD k .non) = true := by
        have : es.getD k .non = es[k] := by simp [List.getD_eq_getElem?_getD, hk]
        rw [this]
        exact plain_imm (plainL_mem (by simpa [plainD] using hp) _ (List.getElem_mem hk))
      simp only [wipeE, w_pC, w_pVar, w_pOwn, w_p1, w_p2, w_pSl, w_oNo, w_oSome, w_pTup, w_pCall, w_aNil, w_aCons, w_pIsi, w_pIsi2, w_eP, w_eMove, w_e1, w_e2, w_eTup, w_eLst, w_eFz, w_eCall, w_aNilE, w_aConsE, w_eIf, w_eComp, w_eDc, w_eDef, w_cNil, w_cVal, w_cBor, w_eMeth, w_eMetP, w_plVar, w_plIx, w_eSMet, w_yesT, w_tP, w_p2t, w_e2t, w_tTruP, w_tTru, w_tNo, w_tAnd2, w_tOr2, w_iSeq, w_iRange1, w_iRange2, w_iEnumE, rngD_len, w_gNm, w_gTup, w_gsNil, w_gsCons, w_gPut, w_sNil, w_sRet, w_sExpr, w_sAsg, w_sIf, w_sFor, w_sFz, ok_some, ok_map, takeB, giveB, outsOf, wipeE, im_non, im_bl, im_int, im_str, im_tup, im_scr, im_lst, im_dcK, im_dcT, fz_non, fz_bl, fz_int, fz_str, fz_tup, fz_scr, fz_lstT, fz_lst, fz_dcT, fz_dcK, wk_tup, wk_lst, wk_scr, wk_str, sI_tup, sI_lst, tr_bl, lt_int, gt_int, le_int, ge_int, eq_int, ne_int, eq_str, ne_str, ne_bl, eq_bl, add_int, sub_int, neg_int, g_int, g_abs, ix_tup, ix_lst, at0, at1, at2, g_len_tup, g_len_lst, List.getElem?_cons_zero, List.getElem?_cons_succ, List.set_cons_zero, List.set_cons_succ, List.length_cons, List.length_nil, List.map_cons, List.map_nil, List.replicate_succ, List.replicate_zero, List.cons_append, List.nil_append, List.head?_cons, List.tail_cons, Option.join_some, Option.map_some, if_true, if_false, ite_true, ite_false, reduceIte, reduceCtorEq, BEq.rfl, Bool.false_eq_true, Bool.not_true, Bool.not_false, List.all_cons, List.all_nil, Bool.and_true, Bool.true_and, Bool.and_self, true_and, and_true, exists_eq_left, exists_eq_left', D.bl.injEq, D.int.injEq, D.str.injEq, D.tup.injEq, Out.rt.injEq, Nat.lt_add_left_iff_pos, Nat.zero_lt_succ, Nat.reduceAdd, Nat.reduceLT, hg, hi]
      exact ⟨_, rfl, by decide, rfl⟩
    rw [filterMap_all, range_getD]
    have x := ext_lst (a := ds.map pairD) (b := es.map pairD) (by rw [List.length_map, List.length_map]; omega) (pair_imm _)
    rw [← List.map_append] at x
    simp only [wipeE, w_pC, w_pVar, w_pOwn, w_p1, w_p2, w_pSl, w_oNo, w_oSome, w_pTup, w_pCall, w_aNil, w_aCons, w_pIsi, w_pIsi2, w_eP, w_eMove, w_e1, w_e2, w_eTup, w_eLst, w_eFz, w_eCall, w_aNilE, w_aConsE, w_eIf, w_eComp, w_eDc, w_eDef, w_cNil, w_cVal, w_cBor, w_eMeth, w_eMetP, w_plVar, w_plIx, w_eSMet, w_yesT, w_tP, w_p2t, w_e2t, w_tTruP, w_tTru, w_tNo, w_tAnd2, w_tOr2, w_iSeq, w_iRange1, w_iRange2, w_iEnumE, rngD_len, w_gNm, w_gTup, w_gsNil, w_gsCons, w_gPut, w_sNil, w_sRet, w_sExpr, w_sAsg, w_sIf, w_sFor, w_sFz, ok_some, ok_map, takeB, giveB, outsOf, wipeE, im_non, im_bl, im_int, im_str, im_tup, im_scr, im_lst, im_dcK, im_dcT, fz_non, fz_bl, fz_int, fz_str, fz_tup, fz_scr, fz_lstT, fz_lst, fz_dcT, fz_dcK, wk_tup, wk_lst, wk_scr, wk_str, sI_tup, sI_lst, tr_bl, lt_int, gt_int, le_int, ge_int, eq_int, ne_int, eq_str, ne_str, ne_bl, eq_bl, add_int, sub_int, neg_int, g_int, g_abs, ix_tup, ix_lst, at0, at1, at2, g_len_tup, g_len_lst, List.getElem?_cons_zero, List.getElem?_cons_succ, List.set_cons_zero, List.set_cons_succ, List.length_cons, List.length_nil, List.map_cons, List.map_nil, List.replicate_succ, List.replicate_zero, List.cons_append, List.nil_append, List.head?_cons, List.tail_cons, Option.join_some, Option.map_some, if_true, if_false, ite_true, ite_false, reduceIte, reduceCtorEq, BEq.rfl, Bool.false_eq_true, Bool.not_true, Bool.not_false, List.all_cons, List.all_nil, Bool.and_true, Bool.true_and, Bool.and_self, true_and, and_true, exists_eq_left, exists_eq_left', D.bl.injEq, D.int.injEq, D.str.injEq, D.tup.injEq, Out.rt.injEq, Nat.lt_add_left_iff_pos, Nat.zero_lt_succ, Nat.reduceAdd, Nat.reduceLT, x]
  | _ => simp [plainD] at hp
theorem same_loop {t u : Option D} : ∀ (n : Nat) (ds : List D) (x3 x4 : Option D), nodesL ds = n → plainL ds = true → n ≤ 16777216 → ∃ y3 y4, sWhl same_test same_body [t, u, some (.lst false (ds.map pairD)), x3, x4, none, none] = some (.nx, [t, u, some (.lst false []), y3, y4, none, none]) := by
  intro n
  induction n using Nat.strongRecOn with
  | _ n ih =>
    intro ds x3 x4 hn hp hz
    rcases List.eq_nil_or_concat ds with rfl | ⟨ds', d, rfl⟩
    · exact ⟨x3, x4, whl_stop rfl⟩
    · rw [List.concat_eq_append] at hn hp ⊢
      rw [nodesL_app] at hn
      rw [plainL_app] at hp
      have hp1 : plainL ds' = true := by simp only [Bool.and_eq_true] at hp; exact hp.1
      have hp2 : plainD d = true := by simp [plainL] at hp; exact hp.2
      have hd : nodesL [d] = nodes d := by simp [nodesL]
      obtain ⟨es, h1, h2, h3⟩ := same_turn (t := t) (u := u) (x3 := x3) (x4 := x4) (ds := ds') hp2 (by omega)
      have e1 : nodesL (ds' ++ es) < n := by rw [nodesL_app]; omega
      obtain ⟨y3, y4, h4⟩ := ih _ e1 (ds' ++ es) (some d) (some d) rfl (by rw [plainL_app, hp1, h2]; rfl) (by omega)
      refine ⟨y3, y4, whl_nx (e1 := [t, u, some (.lst false ((ds' ++ [d]).map pairD)), x3, x4, none, none]) ?_ h3 h4⟩
      have tr : tru (.lst false ((ds' ++ [d]).map pairD)) = some true := by simp [tru]
      have h : Ok (same_test [t, u, some (.lst false ((ds' ++ [d]).map pairD)), x3, x4, none, none]) fun z => z = (true, [t, u, some (.lst false ((ds' ++ [d]).map pairD)), x3, x4, none, none]) := by
        unfold same_test
        simp only [w_tP, w_tTruP, w_pVar, List.getElem?_cons_succ, List.getElem?_cons_zero, Option.join_some, ok_some, tr]
      obtain ⟨z, e1, e2⟩ := h
      rw [e1, e2]
theorem same_w {d : D} {Q : D × List (Option D) → Prop} (hp : plainD d = true) (hz : nodes d ≤ 16777216) (q : Q (.bl true, [some d, some d])) : Ok (F__law_same [d, d]) Q := by
  have im := plain_imm hp
  refine fn_ok rfl ?_
  unfold B__law_same
  simp only [List.map_cons, List.map_nil, List.replicate_succ, List.replicate_zero, List.cons_append, List.nil_append]
  refine seq_ok ?_
  simp only [w_pC, w_pVar, w_pOwn, w_p1, w_p2, w_pSl, w_oNo, w_oSome, w_pTup, w_pCall, w_aNil, w_aCons, w_pIsi, w_pIsi2, w_eP, w_eMove, w_e1, w_e2, w_eTup, w_eLst, w_eFz, w_eCall, w_aNilE, w_aConsE, w_eIf, w_eComp, w_eDc, w_eDef, w_cNil, w_cVal, w_cBor, w_eMeth, w_eMetP, w_plVar, w_plIx, w_eSMet, w_yesT, w_tP, w_p2t, w_e2t, w_tTruP, w_tTru, w_tNo, w_tAnd2, w_tOr2, w_iSeq, w_iRange1, w_iRange2, w_iEnumE, rngD_len, w_gNm, w_gTup, w_gsNil, w_gsCons, w_gPut, w_sNil, w_sRet, w_sExpr, w_sAsg, w_sIf, w_sFor, w_sFz, ok_some, ok_map, takeB, giveB, outsOf, wipeE, im_non, im_bl, im_int, im_str, im_tup, im_scr, im_lst, im_dcK, im_dcT, fz_non, fz_bl, fz_int, fz_str, fz_tup, fz_scr, fz_lstT, fz_lst, fz_dcT, fz_dcK, wk_tup, wk_lst, wk_scr, wk_str, sI_tup, sI_lst, tr_bl, lt_int, gt_int, le_int, ge_int, eq_int, ne_int, eq_str, ne_str, ne_bl, eq_bl, add_int, sub_int, neg_int, g_int, g_abs, ix_tup, ix_lst, at0, at1, at2, g_len_tup, g_len_lst, List.getElem?_cons_zero, List.getElem?_cons_succ, List.set_cons_zero, List.set_cons_succ, List.length_cons, List.length_nil, List.map_cons, List.map_nil, List.replicate_succ, List.replicate_zero, List.cons_append, List.nil_append, List.head?_cons, List.tail_cons, Option.join_some, Option.map_some, if_true, if_false, ite_true, ite_false, reduceIte, reduceCtorEq, BEq.rfl, Bool.false_eq_true, Bool.not_true, Bool.not_false, List.all_cons, List.all_nil, Bool.and_true, Bool.true_and, Bool.and_self, true_and, and_true, exists_eq_left, exists_eq_left', D.bl.injEq, D.int.injEq, D.str.injEq, D.tup.injEq, Out.rt.injEq, Nat.lt_add_left_iff_pos, Nat.zero_lt_succ, Nat.reduceAdd, Nat.reduceLT, im]
  refine ⟨by decide, by decide, ?_⟩
  obtain ⟨y3, y4, h⟩ := same_loop (t := some d) (u := some d) (nodesL [d]) [d] none none rfl (by simp [plainL, hp]) (by simpa [nodesL] using hz)
  refine seq_ok (ok_of h ⟨rfl, ?_⟩)
  simp only [w_pC, w_pVar, w_pOwn, w_p1, w_p2, w_pSl, w_oNo, w_oSome, w_pTup, w_pCall, w_aNil, w_aCons, w_pIsi, w_pIsi2, w_eP, w_eMove, w_e1, w_e2, w_eTup, w_eLst, w_eFz, w_eCall, w_aNilE, w_aConsE, w_eIf, w_eComp, w_eDc, w_eDef, w_cNil, w_cVal, w_cBor, w_eMeth, w_eMetP, w_plVar, w_plIx, w_eSMet, w_yesT, w_tP, w_p2t, w_e2t, w_tTruP, w_tTru, w_tNo, w_tAnd2, w_tOr2, w_iSeq, w_iRange1, w_iRange2, w_iEnumE, rngD_len, w_gNm, w_gTup, w_gsNil, w_gsCons, w_gPut, w_sNil, w_sRet, w_sExpr, w_sAsg, w_sIf, w_sFor, w_sFz, ok_some, ok_map, takeB, giveB, outsOf, wipeE, im_non, im_bl, im_int, im_str, im_tup, im_scr, im_lst, im_dcK, im_dcT, fz_non, fz_bl, fz_int, fz_str, fz_tup, fz_scr, fz_lstT, fz_lst, fz_dcT, fz_dcK, wk_tup, wk_lst, wk_scr, wk_str, sI_tup, sI_lst, tr_bl, lt_int, gt_int, le_int, ge_int, eq_int, ne_int, eq_str, ne_str, ne_bl, eq_bl, add_int, sub_int, neg_int, g_int, g_abs, ix_tup, ix_lst, at0, at1, at2, g_len_tup, g_len_lst, List.getElem?_cons_zero, List.getElem?_cons_succ, List.set_cons_zero, List.set_cons_succ, List.length_cons, List.length_nil, List.map_cons, List.map_nil, List.replicate_succ, List.replicate_zero, List.cons_append, List.nil_append, List.head?_cons, List.tail_cons, Option.join_some, Option.map_some, if_true, if_false, ite_true, ite_false, reduceIte, reduceCtorEq, BEq.rfl, Bool.false_eq_true, Bool.not_true, Bool.not_false, List.all_cons, List.all_nil, Bool.and_true, Bool.true_and, Bool.and_self, true_and, and_true, exists_eq_left, exists_eq_left', D.bl.injEq, D.int.injEq, D.str.injEq, D.tup.injEq, Out.rt.injEq, Nat.lt_add_left_iff_pos, Nat.zero_lt_succ, Nat.reduceAdd, Nat.reduceLT]
  exact q

/-! ### without some conditions: the rows, the tables -/
def newAt (r0 : Int) (h : Nat) (cs : List Cond) : Int := if .hand h 1 ∈ cs then 2 else if .hand h 0 ∈ cs then 1 else r0
structure CsOk (row : List Int) (cs : List Cond) : Prop where
  of : ∀ h m, Cond.hand h m ∈ cs → ∃ hl : h < row.length, row[h] ≤ m ∧ m < 2
  oks : ∀ a b, Cond.tie a b ∈ cs → PyData.strOk a = true ∧ PyData.strOk b = true
theorem CsOk.sub {row : List Int} {cs cs' : List Cond} (h : CsOk row cs) (s : ∀ c ∈ cs', c ∈ cs) : CsOk row cs' := ⟨fun a m e => h.of a m (s _ e), fun a b e => h.oks a b (s _ e)⟩
def newRow (row : List Int) (cs : List Cond) : List Int := (List.range row.length).map fun h => newAt (row.getD h 0) h cs
theorem newRow_ext {row l : List Int} {cs : List Cond} (hl : l.length = row.length) (h : ∀ i (hi : i < row.length), l[i]? = some (newAt row[i] i cs)) : l = newRow row cs := by
  apply List.ext_getElem?
  intro i
  by_cases hi : i < row.length
  · rw [h i hi]
    simp [newRow, hi, List.getD_eq_getElem?_getD]
  · rw [List.getElem?_eq_none (by omega), List.getElem?_eq_none (by simp [newRow]; omega)]
/-- one more struck -/
theorem newAt_snoc_other {r0 : Int} {h : Nat} {cs : List Cond} {c : Cond} (hc : ∀ m, c ≠ .hand h m) : newAt r0 h (cs ++ [c]) = newAt r0 h cs := by
  have a1 : Cond.hand h 1 ≠ c := fun e => hc 1 e.symm
  have a0 : Cond.hand h 0 ≠ c := fun e => hc 0 e.symm
  simp [newAt, a0, a1]
theorem newAt_snoc {r0 m : Int} {h : Nat} {cs : List Cond} (h0 : 0 ≤ r0) (h1 : r0 ≤ m) (h2 : m < 2) : (if newAt r0 h cs < m + 1 then m + 1 else newAt r0 h cs) = newAt r0 h (cs ++ [.hand h m]) := by
  have hm : m = 0 ∨ m = 1 := by omega
  rcases hm with rfl | rfl
  · have : r0 = 0 := by omega
    subst this
    unfold newAt
    by_cases a : Cond.hand h 1 ∈ cs
    · simp [a]
    · by_cases b : Cond.hand h 0 ∈ cs <;> simp [a, b]
  · unfold newAt
    by_cases a : Cond.hand h 1 ∈ cs
    · simp [a]
    · by_cases b : Cond.hand h 0 ∈ cs
      · simp [a, b]
      · simp [a, b]
        omega
/-! the table -/
def kS (s : Str) : L2.Key := (.inr s : Int ⊕ Str)
def kI (i : Int) : L2.Key := (.inl i : Int ⊕ Str)
theorem kS_inj {a b : Str} : kS a = kS b ↔ a = b := ⟨fun h => Sum.inr.inj h, fun h => by rw [h]⟩
theorem kI_inj {a b : Int} : kI a = kI b ↔ a = b := ⟨fun h => Sum.inl.inj h, fun h => by rw [h]⟩
theorem kSI {a : Str} {b : Int} : (kS a = kI b) = False := eq_false fun h => (nomatch (show (.inr a : Int ⊕ Str) = .inl b from h))
theorem kIS {a : Str} {b : Int} : (kI b = kS a) = False := eq_false fun h => (nomatch (show (.inl b : Int ⊕ Str) = .inr a from h))
def keysOf : Cond → List L2.Key
  | .beg n => [kS "begin", kS n]
  | .fin n => [kS "end", kS n]
  | .hand h m => [kS "hand", kI h, kI m]
  | .tie a b => [kS "tie", kS a, kS b]
theorem tD_cond (c : Cond) : tD (condD c) = some (keysOf c) := by cases c <;> rfl
theorem s_be : ("begin" : Str) ≠ "end" := by decide +kernel
theorem s_bh : ("begin" : Str) ≠ "hand" := by decide +kernel
theorem s_bt : ("begin" : Str) ≠ "tie" := by decide +kernel
theorem s_eh : ("end" : Str) ≠ "hand" := by decide +kernel
theorem s_et : ("end" : Str) ≠ "tie" := by decide +kernel
theorem s_ht : ("hand" : Str) ≠ "tie" := by decide +kernel
theorem keys_inj {c d : Cond} (h : keysOf c = keysOf d) : c = d := by
  cases c <;> cases d <;> simp [keysOf, kS_inj, kI_inj, kSI, kIS, s_be, s_bh, s_bt, s_eh, s_et, s_ht, s_be.symm, s_bh.symm, s_bt.symm, s_eh.symm, s_et.symm, s_ht.symm] at h ⊢ <;> first | exact h | exact ⟨by have := h.1; omega, h.2⟩
theorem getZ_isSome {κ : Type} [DecidableEq κ] : ∀ {ks : List κ} {ds : List D} {k : κ}, ks.length = ds.length → ((getZ ks ds k).isSome = true ↔ k ∈ ks)
  | [], _, k, _ => by simp [getZ]
  | a :: ks, [], k, h => by cases h
  | a :: ks, d :: ds, k, h => by
    unfold getZ
    by_cases e : a = k
    · simp [e]
    · rw [if_neg e, getZ_isSome (by simpa using h)]
      simp [Ne.symm e]
/-- the table of these conditions -/
def Tab (fzd : Bool) (cs : List Cond) (d : D) : Prop := ∃ ks ds, d = .dcT fzd ks ds ∧ ks.length = ds.length ∧ (∀ k, k ∈ ks ↔ ∃ c ∈ cs, keysOf c = k) ∧ ks.length ≤ cs.length ∧ ∀ x ∈ ds, x = .bl true
theorem setZ_mem {κ : Type} [DecidableEq κ] : ∀ {ks : List κ} {ds : List D} {k : κ} {v x : D}, x ∈ setZ ks ds k v → x = v ∨ x ∈ ds
  | [], ds, k, v, x, h => .inr (by cases ds <;> simpa [setZ] using h)
  | a :: ks, [], k, v, x, h => by simp [setZ] at h
  | a :: ks, d :: ds, k, v, x, h => by
    simp only [setZ, List.mem_cons] at h
    rcases h with h | h
    · by_cases e : a = k
      · rw [if_pos e] at h; exact .inl h
      · rw [if_neg e] at h; exact .inr (by rw [h]; exact List.mem_cons_self)
    · exact (setZ_mem h).imp id (List.mem_cons_of_mem _)
theorem tab_put {cs : List Cond} {d : D} {c : Cond} (h : Tab false cs d) (hz : cs.length < 16777216) : ∃ d', dPut d (condD c) (.bl true) = some d' ∧ Tab false (cs ++ [c]) d' := by
  obtain ⟨ks, ds, rfl, h1, h2, h3, h4⟩ := h
  have e : dPut (.dcT false ks ds) (condD c) (.bl true) = (if ks.length < szL then match getZ ks ds (keysOf c) with
    | none => some (.dcT false (ks ++ [keysOf c]) (ds ++ [.bl true]))
    | some _ => some (.dcT false ks (setZ ks ds (keysOf c) (.bl true)))
    else none) := by
    simp only [dPut]
    rw [tD_cond]
    rfl
  rw [e, if_pos (show ks.length < 16777216 by omega)]
  cases g : getZ ks ds (keysOf c) with
  | none =>
    refine ⟨_, rfl, _, _, rfl, by simp [h1], fun k => ?_, by simp; omega, fun x m => ?_⟩
    · simp only [List.mem_append, List.mem_singleton]
      constructor
      · rintro (m | rfl)
        · obtain ⟨c', m', e'⟩ := (h2 k).mp m; exact ⟨c', .inl m', e'⟩
        · exact ⟨c, .inr rfl, rfl⟩
      · rintro ⟨c', m' | rfl, e'⟩
        · exact .inl ((h2 k).mpr ⟨c', m', e'⟩)
        · exact .inr e'.symm
    · rcases List.mem_append.mp m with m | m
      · exact h4 x m
      · simpa using m
  | some v =>
    have hk : keysOf c ∈ ks := (getZ_isSome h1).mp (by rw [g]; rfl)
    refine ⟨_, rfl, _, _, rfl, by rw [setZ_len]; exact h1, fun k => ?_, by simp; omega, fun x m => ?_⟩
    · simp only [List.mem_append, List.mem_singleton]
      constructor
      · intro m
        obtain ⟨c', m', e'⟩ := (h2 k).mp m; exact ⟨c', .inl m', e'⟩
      · rintro ⟨c', m' | rfl, e'⟩
        · exact (h2 k).mpr ⟨c', m', e'⟩
        · rw [← e']; exact hk
    · exact (setZ_mem m).elim id (h4 x)
theorem tab_fz {cs : List Cond} {d : D} (h : Tab false cs d) : Tab true cs (fz d) := by
  obtain ⟨ks, ds, rfl, h1, h2, h3, h4⟩ := h
  have e : fzs ds = ds := fzs_imm fun x m => by rw [h4 x m]; rfl
  exact ⟨ks, ds, by rw [fz_dcT, e], h1, h2, h3, h4⟩
theorem tab_in0 {cs : List Cond} {d : D} (h : Tab true cs d) (c : Cond) : dIn0 (condD c) d = some (decide (c ∈ cs)) := by
  obtain ⟨ks, ds, rfl, h1, h2, h3, h4⟩ := h
  have e : dGet (.dcT true ks ds) (condD c) = some (getZ ks ds (keysOf c)) := by
    simp only [dGet]
    rw [tD_cond]; rfl
  have e2 : dIn0 (condD c) (.dcT true ks ds) = some (getZ ks ds (keysOf c)).isSome := by
    cases c <;> (simp only [condD] at e ⊢; simp only [dIn0, e])
  rw [e2]
  congr 1
  by_cases m : c ∈ cs
  · rw [decide_eq_true m]
    exact (getZ_isSome h1).mpr ((h2 _).mpr ⟨c, m, rfl⟩)
  · rw [decide_eq_false m]
    cases g : (getZ ks ds (keysOf c)).isSome with
    | false => rfl
    | true =>
      obtain ⟨c', m', e'⟩ := (h2 _).mp ((getZ_isSome h1).mp g)
      rw [keys_inj e'] at m'
      exact absurd m' m
theorem tab_in {cs : List Cond} {d : D} (h : Tab true cs d) (c : Cond) : dIn (condD c) d = some (.bl (decide (c ∈ cs))) := by unfold dIn; rw [tab_in0 h c]; rfl
theorem tab_notin {cs : List Cond} {d : D} (h : Tab true cs d) (c : Cond) : dNotIn (condD c) d = some (.bl (!decide (c ∈ cs))) := by unfold dNotIn; rw [tab_in0 h c]; rfl
theorem dc_ok {vs : List Nat} {g : GSm} {c : TSm} {kx vx : ESm} {Q : D × Env → Prop} (I : Nat → Env → D → Prop) : ∀ {ds : List D} {env : Env} {acc : D}, I 0 env acc →
    (∀ i d e acc, ds[i]? = some d → I i e acc → Ok (g d (wipeE e vs)) fun e1 => Ok (c e1) fun b => if b.1 = true then Ok (kx b.2) fun k => Ok (vx k.2) fun v => Ok (dPut acc k.1 v.1) fun acc' => I (i + 1) v.2 acc' else I (i + 1) b.2 acc) →
    (∀ e acc, I ds.length e acc → Q (acc, wipeE e vs)) → Ok (dcL vs g c kx vx ds env acc) Q
  | [], env, acc, h0, _, hq => ⟨(acc, wipeE env vs), rfl, hq env acc h0⟩
  | d :: ds, env, acc, h0, hs, hq => by
    obtain ⟨e1, k1, ⟨b, e2⟩, k2, k3⟩ := hs 0 d env acc rfl h0
    unfold dcL
    rw [k1, Option.bind_some, k2, Option.bind_some]
    cases b with
    | false =>
      exact dc_ok (fun i e a => I (i + 1) e a) (by simpa using k3) (fun i x e a hx hi => hs (i + 1) x e a (by simpa using hx) hi) hq
    | true =>
      obtain ⟨⟨k, e3⟩, k4, ⟨v, e4⟩, k5, a', k6, k7⟩ : Ok (kx e2) fun k => Ok (vx k.2) fun v => Ok (dPut acc k.1 v.1) fun acc' => I 1 v.2 acc' := by simpa using k3
      show Ok ((kx e2).bind _) Q
      rw [k4, Option.bind_some]
      show Ok ((vx e3).bind _) Q
      rw [k5, Option.bind_some]
      show Ok ((dPut acc k v).bind _) Q
      rw [k6, Option.bind_some]
      exact dc_ok (fun i e a => I (i + 1) e a) k7 (fun i x e a hx hi => hs (i + 1) x e a (by simpa using hx) hi) hq

/-! ### without some conditions -/
theorem put_at {l : List Int} {h : Nat} {v : Int} (hh : h < l.length) : dPut (.lst false (l.map D.int)) (.int (h : Nat)) (.int v) = some (.lst false ((l.set h v).map D.int)) := by
  show ((L2.ixN (l.map D.int).length (h : Int)).map fun j => D.lst false ((l.map D.int).set j (.int v))) = _
  unfold L2.ixN
  rw [if_pos (by omega), if_pos (by simp; omega)]
  simp
theorem for_nil {g : GSm} {body : SSm} {env : Env} {Q : Out × Env → Prop} (q : Q (.nx, env)) : Ok (forL g body [] env) Q := ok_of rfl q
theorem for_cons {g : GSm} {body : SSm} {d : D} {ds : List D} {env : Env} {Q : Out × Env → Prop} (h : Ok (g d env) fun e1 => Ok (body e1) fun r => r.1 = .nx ∧ Ok (forL g body ds r.2) Q) : Ok (forL g body (d :: ds) env) Q := by
  obtain ⟨e1, h1, ⟨o, e2⟩, h2, h3, h4⟩ := h
  have h3 : o = .nx := h3
  subst h3
  unfold forL
  rw [h1, Option.bind_some, h2, Option.bind_some]
  exact h4
theorem set_self {l : List Int} {i : Nat} {v : Int} (h : l[i]? = some v) : l.set i v = l := by
  obtain ⟨h1, h2⟩ := List.getElem?_eq_some_iff.mp h
  rw [← h2, List.set_getElem_self]
theorem freed_w {row : List Int} {rest : Int} {cs : List Cond} {d : D} {Q : D × List (Option D) → Prop} (hl : row.length ≤ 1000) (hp : ∀ x ∈ row, 0 ≤ x) (hs : ∀ x ∈ row, x ≤ 1000) (hc : CsOk row cs) (ht : Tab true cs d)
    (q : Q (.tup [.tup ((rstrip rest (newRow row cs)).map D.int), .int rest], [some (.tup [.tup (row.map D.int), .int rest]), some d])) : Ok (F_freed_hands [.tup [.tup (row.map D.int), .int rest], d]) Q := by
  have imd : isImm d = true := by obtain ⟨ks, ds, rfl, _⟩ := ht; rfl
  refine fn_ok rfl ?_
  unfold B_freed_hands
  simp only [List.map_cons, List.map_nil, List.replicate_succ, List.replicate_zero, List.cons_append, List.nil_append]
  refine seq_ok ?_
  simp only [w_pC, w_pVar, w_pOwn, w_p1, w_p2, w_pSl, w_oNo, w_oSome, w_pTup, w_pCall, w_aNil, w_aCons, w_pIsi, w_pIsi2, w_eP, w_eMove, w_e1, w_e2, w_eTup, w_eLst, w_eFz, w_eCall, w_aNilE, w_aConsE, w_eIf, w_eComp, w_eDc, w_eDef, w_cNil, w_cVal, w_cBor, w_eMeth, w_eMetP, w_plVar, w_plIx, w_eSMet, w_yesT, w_tP, w_p2t, w_e2t, w_tTruP, w_tTru, w_tNo, w_tAnd2, w_tOr2, w_iSeq, w_iRange1, w_iRange2, w_iEnumE, rngD_len, w_gNm, w_gTup, w_gsNil, w_gsCons, w_gPut, w_sNil, w_sRet, w_sExpr, w_sAsg, w_sIf, w_sFor, w_sFz, ok_some, ok_map, takeB, giveB, outsOf, wipeE, im_non, im_bl, im_int, im_str, im_tup, im_scr, im_lst, im_dcK, im_dcT, fz_non, fz_bl, fz_int, fz_str, fz_tup, fz_scr, fz_lstT, fz_lst, fz_dcT, fz_dcK, wk_tup, wk_lst, wk_scr, wk_str, sI_tup, sI_lst, tr_bl, lt_int, gt_int, le_int, ge_int, eq_int, ne_int, eq_str, ne_str, ne_bl, eq_bl, add_int, sub_int, neg_int, g_int, g_abs, ix_tup, ix_lst, at0, at1, at2, g_len_tup, g_len_lst, List.getElem?_cons_zero, List.getElem?_cons_succ, List.set_cons_zero, List.set_cons_succ, List.length_cons, List.length_nil, List.map_cons, List.map_nil, List.replicate_succ, List.replicate_zero, List.cons_append, List.nil_append, List.head?_cons, List.tail_cons, Option.join_some, Option.map_some, if_true, if_false, ite_true, ite_false, reduceIte, reduceCtorEq, BEq.rfl, Bool.false_eq_true, Bool.not_true, Bool.not_false, List.all_cons, List.all_nil, Bool.and_true, Bool.true_and, Bool.and_self, true_and, and_true, exists_eq_left, exists_eq_left', D.bl.injEq, D.int.injEq, D.str.injEq, D.tup.injEq, Out.rt.injEq, Nat.lt_add_left_iff_pos, Nat.zero_lt_succ, Nat.reduceAdd, Nat.reduceLT, g_list_tup (ints_imm row)]
  refine seq_ok ?_
  simp only [w_pC, w_pVar, w_pOwn, w_p1, w_p2, w_pSl, w_oNo, w_oSome, w_pTup, w_pCall, w_aNil, w_aCons, w_pIsi, w_pIsi2, w_eP, w_eMove, w_e1, w_e2, w_eTup, w_eLst, w_eFz, w_eCall, w_aNilE, w_aConsE, w_eIf, w_eComp, w_eDc, w_eDef, w_cNil, w_cVal, w_cBor, w_eMeth, w_eMetP, w_plVar, w_plIx, w_eSMet, w_yesT, w_tP, w_p2t, w_e2t, w_tTruP, w_tTru, w_tNo, w_tAnd2, w_tOr2, w_iSeq, w_iRange1, w_iRange2, w_iEnumE, rngD_len, w_gNm, w_gTup, w_gsNil, w_gsCons, w_gPut, w_sNil, w_sRet, w_sExpr, w_sAsg, w_sIf, w_sFor, w_sFz, ok_some, ok_map, takeB, giveB, outsOf, wipeE, im_non, im_bl, im_int, im_str, im_tup, im_scr, im_lst, im_dcK, im_dcT, fz_non, fz_bl, fz_int, fz_str, fz_tup, fz_scr, fz_lstT, fz_lst, fz_dcT, fz_dcK, wk_tup, wk_lst, wk_scr, wk_str, sI_tup, sI_lst, tr_bl, lt_int, gt_int, le_int, ge_int, eq_int, ne_int, eq_str, ne_str, ne_bl, eq_bl, add_int, sub_int, neg_int, g_int, g_abs, ix_tup, ix_lst, at0, at1, at2, g_len_tup, g_len_lst, List.getElem?_cons_zero, List.getElem?_cons_succ, List.set_cons_zero, List.set_cons_succ, List.length_cons, List.length_nil, List.map_cons, List.map_nil, List.replicate_succ, List.replicate_zero, List.cons_append, List.nil_append, List.head?_cons, List.tail_cons, Option.join_some, Option.map_some, if_true, if_false, ite_true, ite_false, reduceIte, reduceCtorEq, BEq.rfl, Bool.false_eq_true, Bool.not_true, Bool.not_false, List.all_cons, List.all_nil, Bool.and_true, Bool.true_and, Bool.and_self, true_and, and_true, exists_eq_left, exists_eq_left', D.bl.injEq, D.int.injEq, D.str.injEq, D.tup.injEq, Out.rt.injEq, Nat.lt_add_left_iff_pos, Nat.zero_lt_succ, Nat.reduceAdd, Nat.reduceLT]
  refine ⟨_, _, rfl, sI_tup, ?_⟩
  have len_en : (enumD (row.map D.int)).length = row.length := by simp [enumD]
  refine for_ok (fun i e => ∃ x3 x4 x5, ∃ l : List Int, e = [some (.tup [.tup (row.map D.int), .int rest]), some d, some (.lst false (l.map D.int)), x3, x4, x5] ∧ l.length = row.length ∧ ∀ h (hh : h < row.length), l[h]? = some (if h < i then newAt row[h] h cs else row[h])) ⟨none, none, none, row, rfl, rfl, fun h hh => by simp [hh]⟩ ?_ ?_
  · rintro i dd e hi ⟨x3, x4, x5, l, rfl, hll, hlv⟩
    obtain ⟨d', hd', rfl⟩ := enum_at hi
    have hil : i < row.length := by simpa [enumD] using (List.getElem?_eq_some_iff.mp hi).1
    obtain rfl : d' = .int row[i] := by
      rw [List.getElem?_map, List.getElem?_eq_getElem hil] at hd'
      exact (Option.some.inj hd').symm
    have pos : 0 ≤ row[i] := hp _ (List.getElem_mem hil)
    have big := hs _ (List.getElem_mem hil)
    have h0 : l[i]? = some row[i] := by have := hlv i hil; simpa using this
    simp only [w_pC, w_pVar, w_pOwn, w_p1, w_p2, w_pSl, w_oNo, w_oSome, w_pTup, w_pCall, w_aNil, w_aCons, w_pIsi, w_pIsi2, w_eP, w_eMove, w_e1, w_e2, w_eTup, w_eLst, w_eFz, w_eCall, w_aNilE, w_aConsE, w_eIf, w_eComp, w_eDc, w_eDef, w_cNil, w_cVal, w_cBor, w_eMeth, w_eMetP, w_plVar, w_plIx, w_eSMet, w_yesT, w_tP, w_p2t, w_e2t, w_tTruP, w_tTru, w_tNo, w_tAnd2, w_tOr2, w_iSeq, w_iRange1, w_iRange2, w_iEnumE, rngD_len, w_gNm, w_gTup, w_gsNil, w_gsCons, w_gPut, w_sNil, w_sRet, w_sExpr, w_sAsg, w_sIf, w_sFor, w_sFz, ok_some, ok_map, takeB, giveB, outsOf, wipeE, im_non, im_bl, im_int, im_str, im_tup, im_scr, im_lst, im_dcK, im_dcT, fz_non, fz_bl, fz_int, fz_str, fz_tup, fz_scr, fz_lstT, fz_lst, fz_dcT, fz_dcK, wk_tup, wk_lst, wk_scr, wk_str, sI_tup, sI_lst, tr_bl, lt_int, gt_int, le_int, ge_int, eq_int, ne_int, eq_str, ne_str, ne_bl, eq_bl, add_int, sub_int, neg_int, g_int, g_abs, ix_tup, ix_lst, at0, at1, at2, g_len_tup, g_len_lst, List.getElem?_cons_zero, List.getElem?_cons_succ, List.set_cons_zero, List.set_cons_succ, List.length_cons, List.length_nil, List.map_cons, List.map_nil, List.replicate_succ, List.replicate_zero, List.cons_append, List.nil_append, List.head?_cons, List.tail_cons, Option.join_some, Option.map_some, if_true, if_false, ite_true, ite_false, reduceIte, reduceCtorEq, BEq.rfl, Bool.false_eq_true, Bool.not_true, Bool.not_false, List.all_cons, List.all_nil, Bool.and_true, Bool.true_and, Bool.and_self, true_and, and_true, exists_eq_left, exists_eq_left', D.bl.injEq, D.int.injEq, D.str.injEq, D.tup.injEq, Out.rt.injEq, Nat.lt_add_left_iff_pos, Nat.zero_lt_succ, Nat.reduceAdd, Nat.reduceLT]
    refine ⟨_, _, rfl, ⟨⟨by omega, by omega⟩, small_nat (n := 2) (by decide)⟩, ?_⟩
    -- a turn
    have turn : ∀ (l : List Int) (m : Int) (x5 : Option D) (ds : List D) (R : Out × Env → Prop), l.length = row.length →
        Ok (forL (gNm 5) (sIf (tP (p2t dIn (pTup (aCons (pC (.str "hand")) (aCons (pVar 3) (aCons (pVar 5) aNil)))) (pVar 1))) (sAsg (eP (p2 dAdd (pVar 5) (pC (.int 1)))) (gPut (plVar 2) (pVar 3))) sNil) ds [some (.tup [.tup (row.map D.int), .int rest]), some d, some (.lst false ((if Cond.hand i m ∈ cs then l.set i (m + 1) else l).map D.int)), some (.int i), some (.int row[i]), some (.int m)]) R →
        Ok (forL (gNm 5) (sIf (tP (p2t dIn (pTup (aCons (pC (.str "hand")) (aCons (pVar 3) (aCons (pVar 5) aNil)))) (pVar 1))) (sAsg (eP (p2 dAdd (pVar 5) (pC (.int 1)))) (gPut (plVar 2) (pVar 3))) sNil) (.int m :: ds) [some (.tup [.tup (row.map D.int), .int rest]), some d, some (.lst false (l.map D.int)), some (.int i), some (.int row[i]), x5]) R := by
      intro l m x5 ds R hl2 hR
      refine for_cons ?_
      have e := tab_in ht (.hand i m)
      simp only [condD] at e
      simp only [w_pC, w_pVar, w_pOwn, w_p1, w_p2, w_pSl, w_oNo, w_oSome, w_pTup, w_pCall, w_aNil, w_aCons, w_pIsi, w_pIsi2, w_eP, w_eMove, w_e1, w_e2, w_eTup, w_eLst, w_eFz, w_eCall, w_aNilE, w_aConsE, w_eIf, w_eComp, w_eDc, w_eDef, w_cNil, w_cVal, w_cBor, w_eMeth, w_eMetP, w_plVar, w_plIx, w_eSMet, w_yesT, w_tP, w_p2t, w_e2t, w_tTruP, w_tTru, w_tNo, w_tAnd2, w_tOr2, w_iSeq, w_iRange1, w_iRange2, w_iEnumE, rngD_len, w_gNm, w_gTup, w_gsNil, w_gsCons, w_gPut, w_sNil, w_sRet, w_sExpr, w_sAsg, w_sIf, w_sFor, w_sFz, ok_some, ok_map, takeB, giveB, outsOf, wipeE, im_non, im_bl, im_int, im_str, im_tup, im_scr, im_lst, im_dcK, im_dcT, fz_non, fz_bl, fz_int, fz_str, fz_tup, fz_scr, fz_lstT, fz_lst, fz_dcT, fz_dcK, wk_tup, wk_lst, wk_scr, wk_str, sI_tup, sI_lst, tr_bl, lt_int, gt_int, le_int, ge_int, eq_int, ne_int, eq_str, ne_str, ne_bl, eq_bl, add_int, sub_int, neg_int, g_int, g_abs, ix_tup, ix_lst, at0, at1, at2, g_len_tup, g_len_lst, List.getElem?_cons_zero, List.getElem?_cons_succ, List.set_cons_zero, List.set_cons_succ, List.length_cons, List.length_nil, List.map_cons, List.map_nil, List.replicate_succ, List.replicate_zero, List.cons_append, List.nil_append, List.head?_cons, List.tail_cons, Option.join_some, Option.map_some, if_true, if_false, ite_true, ite_false, reduceIte, reduceCtorEq, BEq.rfl, Bool.false_eq_true, Bool.not_true, Bool.not_false, List.all_cons, List.all_nil, Bool.and_true, Bool.true_and, Bool.and_self, true_and, and_true, exists_eq_left, exists_eq_left', D.bl.injEq, D.int.injEq, D.str.injEq, D.tup.injEq, Out.rt.injEq, Nat.lt_add_left_iff_pos, Nat.zero_lt_succ, Nat.reduceAdd, Nat.reduceLT, e]
      by_cases hm : Cond.hand i m ∈ cs
      · rw [if_pos hm] at hR
        simp only [w_pC, w_pVar, w_pOwn, w_p1, w_p2, w_pSl, w_oNo, w_oSome, w_pTup, w_pCall, w_aNil, w_aCons, w_pIsi, w_pIsi2, w_eP, w_eMove, w_e1, w_e2, w_eTup, w_eLst, w_eFz, w_eCall, w_aNilE, w_aConsE, w_eIf, w_eComp, w_eDc, w_eDef, w_cNil, w_cVal, w_cBor, w_eMeth, w_eMetP, w_plVar, w_plIx, w_eSMet, w_yesT, w_tP, w_p2t, w_e2t, w_tTruP, w_tTru, w_tNo, w_tAnd2, w_tOr2, w_iSeq, w_iRange1, w_iRange2, w_iEnumE, rngD_len, w_gNm, w_gTup, w_gsNil, w_gsCons, w_gPut, w_sNil, w_sRet, w_sExpr, w_sAsg, w_sIf, w_sFor, w_sFz, ok_some, ok_map, takeB, giveB, outsOf, wipeE, im_non, im_bl, im_int, im_str, im_tup, im_scr, im_lst, im_dcK, im_dcT, fz_non, fz_bl, fz_int, fz_str, fz_tup, fz_scr, fz_lstT, fz_lst, fz_dcT, fz_dcK, wk_tup, wk_lst, wk_scr, wk_str, sI_tup, sI_lst, tr_bl, lt_int, gt_int, le_int, ge_int, eq_int, ne_int, eq_str, ne_str, ne_bl, eq_bl, add_int, sub_int, neg_int, g_int, g_abs, ix_tup, ix_lst, at0, at1, at2, g_len_tup, g_len_lst, List.getElem?_cons_zero, List.getElem?_cons_succ, List.set_cons_zero, List.set_cons_succ, List.length_cons, List.length_nil, List.map_cons, List.map_nil, List.replicate_succ, List.replicate_zero, List.cons_append, List.nil_append, List.head?_cons, List.tail_cons, Option.join_some, Option.map_some, if_true, if_false, ite_true, ite_false, reduceIte, reduceCtorEq, BEq.rfl, Bool.false_eq_true, Bool.not_true, Bool.not_false, List.all_cons, List.all_nil, Bool.and_true, Bool.true_and, Bool.and_self, true_and, and_true, exists_eq_left, exists_eq_left', D.bl.injEq, D.int.injEq, D.str.injEq, D.tup.injEq, Out.rt.injEq, Nat.lt_add_left_iff_pos, Nat.zero_lt_succ, Nat.reduceAdd, Nat.reduceLT, decide_eq_true hm, put_at (l := l) (h := i) (v := m + 1) (by omega)]
        exact ⟨by decide, hR⟩
      · rw [if_neg hm] at hR
        simp only [w_pC, w_pVar, w_pOwn, w_p1, w_p2, w_pSl, w_oNo, w_oSome, w_pTup, w_pCall, w_aNil, w_aCons, w_pIsi, w_pIsi2, w_eP, w_eMove, w_e1, w_e2, w_eTup, w_eLst, w_eFz, w_eCall, w_aNilE, w_aConsE, w_eIf, w_eComp, w_eDc, w_eDef, w_cNil, w_cVal, w_cBor, w_eMeth, w_eMetP, w_plVar, w_plIx, w_eSMet, w_yesT, w_tP, w_p2t, w_e2t, w_tTruP, w_tTru, w_tNo, w_tAnd2, w_tOr2, w_iSeq, w_iRange1, w_iRange2, w_iEnumE, rngD_len, w_gNm, w_gTup, w_gsNil, w_gsCons, w_gPut, w_sNil, w_sRet, w_sExpr, w_sAsg, w_sIf, w_sFor, w_sFz, ok_some, ok_map, takeB, giveB, outsOf, wipeE, im_non, im_bl, im_int, im_str, im_tup, im_scr, im_lst, im_dcK, im_dcT, fz_non, fz_bl, fz_int, fz_str, fz_tup, fz_scr, fz_lstT, fz_lst, fz_dcT, fz_dcK, wk_tup, wk_lst, wk_scr, wk_str, sI_tup, sI_lst, tr_bl, lt_int, gt_int, le_int, ge_int, eq_int, ne_int, eq_str, ne_str, ne_bl, eq_bl, add_int, sub_int, neg_int, g_int, g_abs, ix_tup, ix_lst, at0, at1, at2, g_len_tup, g_len_lst, List.getElem?_cons_zero, List.getElem?_cons_succ, List.set_cons_zero, List.set_cons_succ, List.length_cons, List.length_nil, List.map_cons, List.map_nil, List.replicate_succ, List.replicate_zero, List.cons_append, List.nil_append, List.head?_cons, List.tail_cons, Option.join_some, Option.map_some, if_true, if_false, ite_true, ite_false, reduceIte, reduceCtorEq, BEq.rfl, Bool.false_eq_true, Bool.not_true, Bool.not_false, List.all_cons, List.all_nil, Bool.and_true, Bool.true_and, Bool.and_self, true_and, and_true, exists_eq_left, exists_eq_left', D.bl.injEq, D.int.injEq, D.str.injEq, D.tup.injEq, Out.rt.injEq, Nat.lt_add_left_iff_pos, Nat.zero_lt_succ, Nat.reduceAdd, Nat.reduceLT, decide_eq_false hm]
        exact ⟨by decide, hR⟩
    have fin : ∀ (l' : List Int) (y5 : Option D), l' = l.set i (newAt row[i] i cs) → ∃ x3 x4 x5, ∃ l : List Int, [some (.tup [.tup (row.map D.int), .int rest]), some d, some (.lst false (l'.map D.int)), some (.int i), some (.int row[i]), y5] = [some (.tup [.tup (row.map D.int), .int rest]), some d, some (.lst false (l.map D.int)), x3, x4, x5] ∧ l.length = row.length ∧ ∀ h (hh : h < row.length), l[h]? = some (if h < i + 1 then newAt row[h] h cs else row[h]) := fun l' y5 e => by
      refine ⟨_, _, _, l', rfl, by rw [e, List.length_set]; exact hll, fun h hh => ?_⟩
      rw [e]
      by_cases hi : h = i
      · subst hi
        rw [List.getElem?_set_self (by omega), if_pos (by omega)]
      · rw [List.getElem?_set_ne (Ne.symm hi), hlv h hh]
        by_cases h2 : h < i
        · rw [if_pos h2, if_pos (by omega)]
        · rw [if_neg h2, if_neg (by omega)]
    by_cases c2 : 2 ≤ row[i]
    · have en : (2 - row[i]).toNat = 0 := by omega
      have e0 : newAt row[i] i cs = row[i] := by
        unfold newAt
        rw [if_neg (fun m => by obtain ⟨_, a, b⟩ := hc.of _ _ m; omega), if_neg (fun m => by obtain ⟨_, a, b⟩ := hc.of _ _ m; omega)]
      rw [en]
      exact for_nil ⟨rfl, fin l x5 (by rw [e0, set_self h0])⟩
    · by_cases c1 : row[i] = 1
      · have en : rngD row[i] (2 - row[i]).toNat = [.int 1] := by rw [c1]; rfl
        rw [en]
        refine turn l 1 x5 [] _ hll (for_nil ⟨rfl, fin _ _ ?_⟩)
        have e0 : newAt row[i] i cs = if Cond.hand i 1 ∈ cs then 2 else row[i] := by
          unfold newAt
          rw [show (if Cond.hand i 0 ∈ cs then (1 : Int) else row[i]) = row[i] from if_neg (fun m => by obtain ⟨_, a, b⟩ := hc.of _ _ m; omega)]
        rw [e0]
        by_cases a1 : Cond.hand i 1 ∈ cs
        · simp [a1]
        · simp only [if_neg a1]; rw [set_self h0]
      · have c0 : row[i] = 0 := by omega
        have en : rngD row[i] (2 - row[i]).toNat = [.int 0, .int 1] := by rw [c0]; rfl
        rw [en]
        refine turn l 0 x5 [.int 1] _ hll (turn _ 1 _ [] _ ?_ (for_nil ⟨rfl, fin _ _ ?_⟩))
        · split
          · rw [List.length_set]; exact hll
          · exact hll
        unfold newAt
        by_cases a1 : Cond.hand i 1 ∈ cs
        · by_cases a0 : Cond.hand i 0 ∈ cs
          · simp [a1, a0]
          · simp [a1, a0]
        · by_cases a0 : Cond.hand i 0 ∈ cs
          · simp [a1, a0]
          · simp only [if_neg a1, if_neg a0]; rw [set_self h0]
  · rintro e ⟨x3, x4, x5, l, rfl, hll, hlv⟩
    rw [len_en] at hlv
    have el : l = newRow row cs := newRow_ext hll fun i hi => by rw [hlv i hi, if_pos hi]
    subst el
    refine ⟨rfl, ?_⟩
    simp only [w_pC, w_pVar, w_pOwn, w_p1, w_p2, w_pSl, w_oNo, w_oSome, w_pTup, w_pCall, w_aNil, w_aCons, w_pIsi, w_pIsi2, w_eP, w_eMove, w_e1, w_e2, w_eTup, w_eLst, w_eFz, w_eCall, w_aNilE, w_aConsE, w_eIf, w_eComp, w_eDc, w_eDef, w_cNil, w_cVal, w_cBor, w_eMeth, w_eMetP, w_plVar, w_plIx, w_eSMet, w_yesT, w_tP, w_p2t, w_e2t, w_tTruP, w_tTru, w_tNo, w_tAnd2, w_tOr2, w_iSeq, w_iRange1, w_iRange2, w_iEnumE, rngD_len, w_gNm, w_gTup, w_gsNil, w_gsCons, w_gPut, w_sNil, w_sRet, w_sExpr, w_sAsg, w_sIf, w_sFor, w_sFz, ok_some, ok_map, takeB, giveB, outsOf, wipeE, im_non, im_bl, im_int, im_str, im_tup, im_scr, im_lst, im_dcK, im_dcT, fz_non, fz_bl, fz_int, fz_str, fz_tup, fz_scr, fz_lstT, fz_lst, fz_dcT, fz_dcK, wk_tup, wk_lst, wk_scr, wk_str, sI_tup, sI_lst, tr_bl, lt_int, gt_int, le_int, ge_int, eq_int, ne_int, eq_str, ne_str, ne_bl, eq_bl, add_int, sub_int, neg_int, g_int, g_abs, ix_tup, ix_lst, at0, at1, at2, g_len_tup, g_len_lst, List.getElem?_cons_zero, List.getElem?_cons_succ, List.set_cons_zero, List.set_cons_succ, List.length_cons, List.length_nil, List.map_cons, List.map_nil, List.replicate_succ, List.replicate_zero, List.cons_append, List.nil_append, List.head?_cons, List.tail_cons, Option.join_some, Option.map_some, if_true, if_false, ite_true, ite_false, reduceIte, reduceCtorEq, BEq.rfl, Bool.false_eq_true, Bool.not_true, Bool.not_false, List.all_cons, List.all_nil, Bool.and_true, Bool.true_and, Bool.and_self, true_and, and_true, exists_eq_left, exists_eq_left', D.bl.injEq, D.int.injEq, D.str.injEq, D.tup.injEq, Out.rt.injEq, Nat.lt_add_left_iff_pos, Nat.zero_lt_succ, Nat.reduceAdd, Nat.reduceLT, g_tuple (ints_imm _)]
    refine make_w (by omega) ?_
    simp only [w_pC, w_pVar, w_pOwn, w_p1, w_p2, w_pSl, w_oNo, w_oSome, w_pTup, w_pCall, w_aNil, w_aCons, w_pIsi, w_pIsi2, w_eP, w_eMove, w_e1, w_e2, w_eTup, w_eLst, w_eFz, w_eCall, w_aNilE, w_aConsE, w_eIf, w_eComp, w_eDc, w_eDef, w_cNil, w_cVal, w_cBor, w_eMeth, w_eMetP, w_plVar, w_plIx, w_eSMet, w_yesT, w_tP, w_p2t, w_e2t, w_tTruP, w_tTru, w_tNo, w_tAnd2, w_tOr2, w_iSeq, w_iRange1, w_iRange2, w_iEnumE, rngD_len, w_gNm, w_gTup, w_gsNil, w_gsCons, w_gPut, w_sNil, w_sRet, w_sExpr, w_sAsg, w_sIf, w_sFor, w_sFz, ok_some, ok_map, takeB, giveB, outsOf, wipeE, im_non, im_bl, im_int, im_str, im_tup, im_scr, im_lst, im_dcK, im_dcT, fz_non, fz_bl, fz_int, fz_str, fz_tup, fz_scr, fz_lstT, fz_lst, fz_dcT, fz_dcK, wk_tup, wk_lst, wk_scr, wk_str, sI_tup, sI_lst, tr_bl, lt_int, gt_int, le_int, ge_int, eq_int, ne_int, eq_str, ne_str, ne_bl, eq_bl, add_int, sub_int, neg_int, g_int, g_abs, ix_tup, ix_lst, at0, at1, at2, g_len_tup, g_len_lst, List.getElem?_cons_zero, List.getElem?_cons_succ, List.set_cons_zero, List.set_cons_succ, List.length_cons, List.length_nil, List.map_cons, List.map_nil, List.replicate_succ, List.replicate_zero, List.cons_append, List.nil_append, List.head?_cons, List.tail_cons, Option.join_some, Option.map_some, if_true, if_false, ite_true, ite_false, reduceIte, reduceCtorEq, BEq.rfl, Bool.false_eq_true, Bool.not_true, Bool.not_false, List.all_cons, List.all_nil, Bool.and_true, Bool.true_and, Bool.and_self, true_and, and_true, exists_eq_left, exists_eq_left', D.bl.injEq, D.int.injEq, D.str.injEq, D.tup.injEq, Out.rt.injEq, Nat.lt_add_left_iff_pos, Nat.zero_lt_succ, Nat.reduceAdd, Nat.reduceLT]
    exact q

/-! ### the sheet without some conditions: the program's way, the law's way -/
def workW (cs : List Cond) (w : Str × Int × Int) : Str × Int × Int := (w.1, if .beg w.1 ∈ cs then 0 else w.2.1, if .fin w.1 ∈ cs then 1000 else w.2.2)
def tieW (cs : List Cond) (t : Str × Str × Int) : Option (Str × Str × Int) := if .tie t.1 t.2.1 ∈ cs then none else some t
def withoutS (S : Sheet) (cs : List Cond) : Sheet := ⟨rstrip S.rest (newRow S.row cs), S.rest, S.works.map (workW cs), S.ties.filterMap (tieW cs)⟩
theorem take_at {α : Type} {l : List α} {i : Nat} (h : i < l.length) : l.take (i + 1) = l.take i ++ [l[i]] := by
  rw [List.take_succ]; simp [h]
theorem at_cond {cs : List Cond} {i : Nat} {d : D} (h : (cs.map condD)[i]? = some d) : ∃ hi : i < cs.length, d = condD cs[i] := by
  rw [List.getElem?_map] at h
  obtain ⟨c, h1, h2⟩ := Option.map_eq_some_iff.mp h
  obtain ⟨h3, h4⟩ := List.getElem?_eq_some_iff.mp h1
  exact ⟨h3, by rw [h4, h2]⟩
theorem at_mapE {α : Type} {f : α → D} {l : List α} {i : Nat} {d : D} (h : (l.map f)[i]? = some d) : ∃ hi : i < l.length, d = f l[i] := by
  rw [List.getElem?_map] at h
  obtain ⟨c, h1, h2⟩ := Option.map_eq_some_iff.mp h
  obtain ⟨h3, h4⟩ := List.getElem?_eq_some_iff.mp h1
  exact ⟨h3, by rw [h4, h2]⟩
theorem cond_imm1 (c : Cond) : isImm (condD c) = true := by cases c <;> rfl
theorem sheet_without_w {S : Sheet} {cs : List Cond} {Q : D × List (Option D) → Prop} (hS : S.Fine) (hc : CsOk S.row cs) (hz : cs.length ≤ 100000) (q : Q (sheetD (withoutS S cs), [some (sheetD S), some (.tup (cs.map condD))])) : Ok (F_sheet_without [sheetD S, .tup (cs.map condD)]) Q := by
  obtain ⟨h1, h2, h5, h3, h4, _⟩ := hS
  refine fn_ok rfl ?_
  unfold B_sheet_without
  simp only [List.map_cons, List.map_nil, List.replicate_succ, List.replicate_zero, List.cons_append, List.nil_append]
  refine seq_ok ?_
  simp only [w_pC, w_pVar, w_pOwn, w_p1, w_p2, w_pSl, w_oNo, w_oSome, w_pTup, w_pCall, w_aNil, w_aCons, w_pIsi, w_pIsi2, w_eP, w_eMove, w_e1, w_e2, w_eTup, w_eLst, w_eFz, w_eCall, w_aNilE, w_aConsE, w_eIf, w_eComp, w_eDc, w_eDef, w_cNil, w_cVal, w_cBor, w_eMeth, w_eMetP, w_plVar, w_plIx, w_eSMet, w_yesT, w_tP, w_p2t, w_e2t, w_tTruP, w_tTru, w_tNo, w_tAnd2, w_tOr2, w_iSeq, w_iRange1, w_iRange2, w_iEnumE, rngD_len, w_gNm, w_gTup, w_gsNil, w_gsCons, w_gPut, w_sNil, w_sRet, w_sExpr, w_sAsg, w_sIf, w_sFor, w_sFz, ok_some, ok_map, takeB, giveB, outsOf, wipeE, im_non, im_bl, im_int, im_str, im_tup, im_scr, im_lst, im_dcK, im_dcT, fz_non, fz_bl, fz_int, fz_str, fz_tup, fz_scr, fz_lstT, fz_lst, fz_dcT, fz_dcK, wk_tup, wk_lst, wk_scr, wk_str, sI_tup, sI_lst, tr_bl, lt_int, gt_int, le_int, ge_int, eq_int, ne_int, eq_str, ne_str, ne_bl, eq_bl, add_int, sub_int, neg_int, g_int, g_abs, ix_tup, ix_lst, at0, at1, at2, g_len_tup, g_len_lst, List.getElem?_cons_zero, List.getElem?_cons_succ, List.set_cons_zero, List.set_cons_succ, List.length_cons, List.length_nil, List.map_cons, List.map_nil, List.replicate_succ, List.replicate_zero, List.cons_append, List.nil_append, List.head?_cons, List.tail_cons, Option.join_some, Option.map_some, if_true, if_false, ite_true, ite_false, reduceIte, reduceCtorEq, BEq.rfl, Bool.false_eq_true, Bool.not_true, Bool.not_false, List.all_cons, List.all_nil, Bool.and_true, Bool.true_and, Bool.and_self, true_and, and_true, exists_eq_left, exists_eq_left', D.bl.injEq, D.int.injEq, D.str.injEq, D.tup.injEq, Out.rt.injEq, Nat.lt_add_left_iff_pos, Nat.zero_lt_succ, Nat.reduceAdd, Nat.reduceLT]
  refine dc_ok (fun i e acc => ∃ x10, e = [some (sheetD S), some (.tup (cs.map condD)), none, none, none, none, none, none, none, none, x10, none] ∧ Tab false (cs.take i) acc) ⟨none, rfl, [], [], rfl, rfl, by simp, by simp, fun _ m => (nomatch m)⟩ ?_ ?_
  · rintro i dd e acc hi ⟨x10, rfl, ht⟩
    obtain ⟨hil, rfl⟩ := at_cond hi
    obtain ⟨d', e1, e2⟩ := tab_put (c := cs[i]) ht (by rw [List.length_take]; omega)
    simp only [wipeE, w_pC, w_pVar, w_pOwn, w_p1, w_p2, w_pSl, w_oNo, w_oSome, w_pTup, w_pCall, w_aNil, w_aCons, w_pIsi, w_pIsi2, w_eP, w_eMove, w_e1, w_e2, w_eTup, w_eLst, w_eFz, w_eCall, w_aNilE, w_aConsE, w_eIf, w_eComp, w_eDc, w_eDef, w_cNil, w_cVal, w_cBor, w_eMeth, w_eMetP, w_plVar, w_plIx, w_eSMet, w_yesT, w_tP, w_p2t, w_e2t, w_tTruP, w_tTru, w_tNo, w_tAnd2, w_tOr2, w_iSeq, w_iRange1, w_iRange2, w_iEnumE, rngD_len, w_gNm, w_gTup, w_gsNil, w_gsCons, w_gPut, w_sNil, w_sRet, w_sExpr, w_sAsg, w_sIf, w_sFor, w_sFz, ok_some, ok_map, takeB, giveB, outsOf, wipeE, im_non, im_bl, im_int, im_str, im_tup, im_scr, im_lst, im_dcK, im_dcT, fz_non, fz_bl, fz_int, fz_str, fz_tup, fz_scr, fz_lstT, fz_lst, fz_dcT, fz_dcK, wk_tup, wk_lst, wk_scr, wk_str, sI_tup, sI_lst, tr_bl, lt_int, gt_int, le_int, ge_int, eq_int, ne_int, eq_str, ne_str, ne_bl, eq_bl, add_int, sub_int, neg_int, g_int, g_abs, ix_tup, ix_lst, at0, at1, at2, g_len_tup, g_len_lst, List.getElem?_cons_zero, List.getElem?_cons_succ, List.set_cons_zero, List.set_cons_succ, List.length_cons, List.length_nil, List.map_cons, List.map_nil, List.replicate_succ, List.replicate_zero, List.cons_append, List.nil_append, List.head?_cons, List.tail_cons, Option.join_some, Option.map_some, if_true, if_false, ite_true, ite_false, reduceIte, reduceCtorEq, BEq.rfl, Bool.false_eq_true, Bool.not_true, Bool.not_false, List.all_cons, List.all_nil, Bool.and_true, Bool.true_and, Bool.and_self, true_and, and_true, exists_eq_left, exists_eq_left', D.bl.injEq, D.int.injEq, D.str.injEq, D.tup.injEq, Out.rt.injEq, Nat.lt_add_left_iff_pos, Nat.zero_lt_succ, Nat.reduceAdd, Nat.reduceLT, cond_imm1, e1]
    exact ⟨_, rfl, by rw [take_at hil]; exact e2⟩
  rintro e acc ⟨x10, rfl, ht⟩
  rw [List.length_map, List.take_length] at ht
  have ht := tab_fz ht
  generalize fz acc = d at ht ⊢
  have imd : isImm d = true := by obtain ⟨ks, ds, rfl, _⟩ := ht; rfl
  simp only [wipeE, w_pC, w_pVar, w_pOwn, w_p1, w_p2, w_pSl, w_oNo, w_oSome, w_pTup, w_pCall, w_aNil, w_aCons, w_pIsi, w_pIsi2, w_eP, w_eMove, w_e1, w_e2, w_eTup, w_eLst, w_eFz, w_eCall, w_aNilE, w_aConsE, w_eIf, w_eComp, w_eDc, w_eDef, w_cNil, w_cVal, w_cBor, w_eMeth, w_eMetP, w_plVar, w_plIx, w_eSMet, w_yesT, w_tP, w_p2t, w_e2t, w_tTruP, w_tTru, w_tNo, w_tAnd2, w_tOr2, w_iSeq, w_iRange1, w_iRange2, w_iEnumE, rngD_len, w_gNm, w_gTup, w_gsNil, w_gsCons, w_gPut, w_sNil, w_sRet, w_sExpr, w_sAsg, w_sIf, w_sFor, w_sFz, ok_some, ok_map, takeB, giveB, outsOf, wipeE, im_non, im_bl, im_int, im_str, im_tup, im_scr, im_lst, im_dcK, im_dcT, fz_non, fz_bl, fz_int, fz_str, fz_tup, fz_scr, fz_lstT, fz_lst, fz_dcT, fz_dcK, wk_tup, wk_lst, wk_scr, wk_str, sI_tup, sI_lst, tr_bl, lt_int, gt_int, le_int, ge_int, eq_int, ne_int, eq_str, ne_str, ne_bl, eq_bl, add_int, sub_int, neg_int, g_int, g_abs, ix_tup, ix_lst, at0, at1, at2, g_len_tup, g_len_lst, List.getElem?_cons_zero, List.getElem?_cons_succ, List.set_cons_zero, List.set_cons_succ, List.length_cons, List.length_nil, List.map_cons, List.map_nil, List.replicate_succ, List.replicate_zero, List.cons_append, List.nil_append, List.head?_cons, List.tail_cons, Option.join_some, Option.map_some, if_true, if_false, ite_true, ite_false, reduceIte, reduceCtorEq, BEq.rfl, Bool.false_eq_true, Bool.not_true, Bool.not_false, List.all_cons, List.all_nil, Bool.and_true, Bool.true_and, Bool.and_self, true_and, and_true, exists_eq_left, exists_eq_left', D.bl.injEq, D.int.injEq, D.str.injEq, D.tup.injEq, Out.rt.injEq, Nat.lt_add_left_iff_pos, Nat.zero_lt_succ, Nat.reduceAdd, Nat.reduceLT]
  refine seq_ok ?_
  simp only [w_pC, w_pVar, w_pOwn, w_p1, w_p2, w_pSl, w_oNo, w_oSome, w_pTup, w_pCall, w_aNil, w_aCons, w_pIsi, w_pIsi2, w_eP, w_eMove, w_e1, w_e2, w_eTup, w_eLst, w_eFz, w_eCall, w_aNilE, w_aConsE, w_eIf, w_eComp, w_eDc, w_eDef, w_cNil, w_cVal, w_cBor, w_eMeth, w_eMetP, w_plVar, w_plIx, w_eSMet, w_yesT, w_tP, w_p2t, w_e2t, w_tTruP, w_tTru, w_tNo, w_tAnd2, w_tOr2, w_iSeq, w_iRange1, w_iRange2, w_iEnumE, rngD_len, w_gNm, w_gTup, w_gsNil, w_gsCons, w_gPut, w_sNil, w_sRet, w_sExpr, w_sAsg, w_sIf, w_sFor, w_sFz, ok_some, ok_map, takeB, giveB, outsOf, wipeE, im_non, im_bl, im_int, im_str, im_tup, im_scr, im_lst, im_dcK, im_dcT, fz_non, fz_bl, fz_int, fz_str, fz_tup, fz_scr, fz_lstT, fz_lst, fz_dcT, fz_dcK, wk_tup, wk_lst, wk_scr, wk_str, sI_tup, sI_lst, tr_bl, lt_int, gt_int, le_int, ge_int, eq_int, ne_int, eq_str, ne_str, ne_bl, eq_bl, add_int, sub_int, neg_int, g_int, g_abs, ix_tup, ix_lst, at0, at1, at2, g_len_tup, g_len_lst, List.getElem?_cons_zero, List.getElem?_cons_succ, List.set_cons_zero, List.set_cons_succ, List.length_cons, List.length_nil, List.map_cons, List.map_nil, List.replicate_succ, List.replicate_zero, List.cons_append, List.nil_append, List.head?_cons, List.tail_cons, Option.join_some, Option.map_some, if_true, if_false, ite_true, ite_false, reduceIte, reduceCtorEq, BEq.rfl, Bool.false_eq_true, Bool.not_true, Bool.not_false, List.all_cons, List.all_nil, Bool.and_true, Bool.true_and, Bool.and_self, true_and, and_true, exists_eq_left, exists_eq_left', D.bl.injEq, D.int.injEq, D.str.injEq, D.tup.injEq, Out.rt.injEq, Nat.lt_add_left_iff_pos, Nat.zero_lt_succ, Nat.reduceAdd, Nat.reduceLT]
  refine ⟨by decide, ?_⟩
  refine seq_ok ?_
  have ix1 : dIx (sheetD S) (.int 1) = some (.tup (S.works.map workD)) := by unfold sheetD; rw [ix_tup, at1]
  have ix2 : dIx (sheetD S) (.int 2) = some (.tup (S.ties.map tieD)) := by unfold sheetD; rw [ix_tup, at2]
  have ix0' : dIx (sheetD S) (.int 0) = some (.tup [.tup (S.row.map D.int), .int S.rest]) := by unfold sheetD; rw [ix_tup, at0]
  simp only [w_pC, w_pVar, w_pOwn, w_p1, w_p2, w_pSl, w_oNo, w_oSome, w_pTup, w_pCall, w_aNil, w_aCons, w_pIsi, w_pIsi2, w_eP, w_eMove, w_e1, w_e2, w_eTup, w_eLst, w_eFz, w_eCall, w_aNilE, w_aConsE, w_eIf, w_eComp, w_eDc, w_eDef, w_cNil, w_cVal, w_cBor, w_eMeth, w_eMetP, w_plVar, w_plIx, w_eSMet, w_yesT, w_tP, w_p2t, w_e2t, w_tTruP, w_tTru, w_tNo, w_tAnd2, w_tOr2, w_iSeq, w_iRange1, w_iRange2, w_iEnumE, rngD_len, w_gNm, w_gTup, w_gsNil, w_gsCons, w_gPut, w_sNil, w_sRet, w_sExpr, w_sAsg, w_sIf, w_sFor, w_sFz, ok_some, ok_map, takeB, giveB, outsOf, wipeE, im_non, im_bl, im_int, im_str, im_tup, im_scr, im_lst, im_dcK, im_dcT, fz_non, fz_bl, fz_int, fz_str, fz_tup, fz_scr, fz_lstT, fz_lst, fz_dcT, fz_dcK, wk_tup, wk_lst, wk_scr, wk_str, sI_tup, sI_lst, tr_bl, lt_int, gt_int, le_int, ge_int, eq_int, ne_int, eq_str, ne_str, ne_bl, eq_bl, add_int, sub_int, neg_int, g_int, g_abs, ix_tup, ix_lst, at0, at1, at2, g_len_tup, g_len_lst, List.getElem?_cons_zero, List.getElem?_cons_succ, List.set_cons_zero, List.set_cons_succ, List.length_cons, List.length_nil, List.map_cons, List.map_nil, List.replicate_succ, List.replicate_zero, List.cons_append, List.nil_append, List.head?_cons, List.tail_cons, Option.join_some, Option.map_some, if_true, if_false, ite_true, ite_false, reduceIte, reduceCtorEq, BEq.rfl, Bool.false_eq_true, Bool.not_true, Bool.not_false, List.all_cons, List.all_nil, Bool.and_true, Bool.true_and, Bool.and_self, true_and, and_true, exists_eq_left, exists_eq_left', D.bl.injEq, D.int.injEq, D.str.injEq, D.tup.injEq, Out.rt.injEq, Nat.lt_add_left_iff_pos, Nat.zero_lt_succ, Nat.reduceAdd, Nat.reduceLT, ix1]
  refine for_ok (fun i e => ∃ x4 x5 x6 x7, e = [some (sheetD S), some (.tup (cs.map condD)), some d, some (.lst false (((S.works.take i).map (workW cs)).map workD)), x4, x5, x6, x7, none, none, none, none]) ⟨none, none, none, none, rfl⟩ ?_ ?_
  · rintro i dd e hi ⟨x4, x5, x6, x7, rfl⟩
    obtain ⟨hil, rfl⟩ := at_mapE hi
    have e1 := tab_in ht (.beg S.works[i].1)
    have e2 := tab_in ht (.fin S.works[i].1)
    simp only [condD] at e1 e2
    simp only [workD, w_pC, w_pVar, w_pOwn, w_p1, w_p2, w_pSl, w_oNo, w_oSome, w_pTup, w_pCall, w_aNil, w_aCons, w_pIsi, w_pIsi2, w_eP, w_eMove, w_e1, w_e2, w_eTup, w_eLst, w_eFz, w_eCall, w_aNilE, w_aConsE, w_eIf, w_eComp, w_eDc, w_eDef, w_cNil, w_cVal, w_cBor, w_eMeth, w_eMetP, w_plVar, w_plIx, w_eSMet, w_yesT, w_tP, w_p2t, w_e2t, w_tTruP, w_tTru, w_tNo, w_tAnd2, w_tOr2, w_iSeq, w_iRange1, w_iRange2, w_iEnumE, rngD_len, w_gNm, w_gTup, w_gsNil, w_gsCons, w_gPut, w_sNil, w_sRet, w_sExpr, w_sAsg, w_sIf, w_sFor, w_sFz, ok_some, ok_map, takeB, giveB, outsOf, wipeE, im_non, im_bl, im_int, im_str, im_tup, im_scr, im_lst, im_dcK, im_dcT, fz_non, fz_bl, fz_int, fz_str, fz_tup, fz_scr, fz_lstT, fz_lst, fz_dcT, fz_dcK, wk_tup, wk_lst, wk_scr, wk_str, sI_tup, sI_lst, tr_bl, lt_int, gt_int, le_int, ge_int, eq_int, ne_int, eq_str, ne_str, ne_bl, eq_bl, add_int, sub_int, neg_int, g_int, g_abs, ix_tup, ix_lst, at0, at1, at2, g_len_tup, g_len_lst, List.getElem?_cons_zero, List.getElem?_cons_succ, List.set_cons_zero, List.set_cons_succ, List.length_cons, List.length_nil, List.map_cons, List.map_nil, List.replicate_succ, List.replicate_zero, List.cons_append, List.nil_append, List.head?_cons, List.tail_cons, Option.join_some, Option.map_some, if_true, if_false, ite_true, ite_false, reduceIte, reduceCtorEq, BEq.rfl, Bool.false_eq_true, Bool.not_true, Bool.not_false, List.all_cons, List.all_nil, Bool.and_true, Bool.true_and, Bool.and_self, true_and, and_true, exists_eq_left, exists_eq_left', D.bl.injEq, D.int.injEq, D.str.injEq, D.tup.injEq, Out.rt.injEq, Nat.lt_add_left_iff_pos, Nat.zero_lt_succ, Nat.reduceAdd, Nat.reduceLT]
    have hL : (((S.works.take i).map (workW cs)).map workD).length < 16777216 := by simp only [List.length_map, List.length_take]; omega
    have rl : ∀ l, okRecv "list" (.lst false l) = true := fun _ => rfl
    have tk : (S.works.take (i + 1)).map (workW cs) = (S.works.take i).map (workW cs) ++ [workW cs S.works[i]] := by rw [take_at hil, List.map_append]; rfl
    refine seq_ok ?_
    by_cases b1 : Cond.beg S.works[i].1 ∈ cs <;> by_cases b2 : Cond.fin S.works[i].1 ∈ cs
    all_goals
      simp only [w_pC, w_pVar, w_pOwn, w_p1, w_p2, w_pSl, w_oNo, w_oSome, w_pTup, w_pCall, w_aNil, w_aCons, w_pIsi, w_pIsi2, w_eP, w_eMove, w_e1, w_e2, w_eTup, w_eLst, w_eFz, w_eCall, w_aNilE, w_aConsE, w_eIf, w_eComp, w_eDc, w_eDef, w_cNil, w_cVal, w_cBor, w_eMeth, w_eMetP, w_plVar, w_plIx, w_eSMet, w_yesT, w_tP, w_p2t, w_e2t, w_tTruP, w_tTru, w_tNo, w_tAnd2, w_tOr2, w_iSeq, w_iRange1, w_iRange2, w_iEnumE, rngD_len, w_gNm, w_gTup, w_gsNil, w_gsCons, w_gPut, w_sNil, w_sRet, w_sExpr, w_sAsg, w_sIf, w_sFor, w_sFz, ok_some, ok_map, takeB, giveB, outsOf, wipeE, im_non, im_bl, im_int, im_str, im_tup, im_scr, im_lst, im_dcK, im_dcT, fz_non, fz_bl, fz_int, fz_str, fz_tup, fz_scr, fz_lstT, fz_lst, fz_dcT, fz_dcK, wk_tup, wk_lst, wk_scr, wk_str, sI_tup, sI_lst, tr_bl, lt_int, gt_int, le_int, ge_int, eq_int, ne_int, eq_str, ne_str, ne_bl, eq_bl, add_int, sub_int, neg_int, g_int, g_abs, ix_tup, ix_lst, at0, at1, at2, g_len_tup, g_len_lst, List.getElem?_cons_zero, List.getElem?_cons_succ, List.set_cons_zero, List.set_cons_succ, List.length_cons, List.length_nil, List.map_cons, List.map_nil, List.replicate_succ, List.replicate_zero, List.cons_append, List.nil_append, List.head?_cons, List.tail_cons, Option.join_some, Option.map_some, if_true, if_false, ite_true, ite_false, reduceIte, reduceCtorEq, BEq.rfl, Bool.false_eq_true, Bool.not_true, Bool.not_false, List.all_cons, List.all_nil, Bool.and_true, Bool.true_and, Bool.and_self, true_and, and_true, exists_eq_left, exists_eq_left', D.bl.injEq, D.int.injEq, D.str.injEq, D.tup.injEq, Out.rt.injEq, Nat.lt_add_left_iff_pos, Nat.zero_lt_succ, Nat.reduceAdd, Nat.reduceLT, e1, b1, decide_true, decide_false]
      refine ⟨by decide, ?_⟩
      simp only [w_pC, w_pVar, w_pOwn, w_p1, w_p2, w_pSl, w_oNo, w_oSome, w_pTup, w_pCall, w_aNil, w_aCons, w_pIsi, w_pIsi2, w_eP, w_eMove, w_e1, w_e2, w_eTup, w_eLst, w_eFz, w_eCall, w_aNilE, w_aConsE, w_eIf, w_eComp, w_eDc, w_eDef, w_cNil, w_cVal, w_cBor, w_eMeth, w_eMetP, w_plVar, w_plIx, w_eSMet, w_yesT, w_tP, w_p2t, w_e2t, w_tTruP, w_tTru, w_tNo, w_tAnd2, w_tOr2, w_iSeq, w_iRange1, w_iRange2, w_iEnumE, rngD_len, w_gNm, w_gTup, w_gsNil, w_gsCons, w_gPut, w_sNil, w_sRet, w_sExpr, w_sAsg, w_sIf, w_sFor, w_sFz, ok_some, ok_map, takeB, giveB, outsOf, wipeE, im_non, im_bl, im_int, im_str, im_tup, im_scr, im_lst, im_dcK, im_dcT, fz_non, fz_bl, fz_int, fz_str, fz_tup, fz_scr, fz_lstT, fz_lst, fz_dcT, fz_dcK, wk_tup, wk_lst, wk_scr, wk_str, sI_tup, sI_lst, tr_bl, lt_int, gt_int, le_int, ge_int, eq_int, ne_int, eq_str, ne_str, ne_bl, eq_bl, add_int, sub_int, neg_int, g_int, g_abs, ix_tup, ix_lst, at0, at1, at2, g_len_tup, g_len_lst, List.getElem?_cons_zero, List.getElem?_cons_succ, List.set_cons_zero, List.set_cons_succ, List.length_cons, List.length_nil, List.map_cons, List.map_nil, List.replicate_succ, List.replicate_zero, List.cons_append, List.nil_append, List.head?_cons, List.tail_cons, Option.join_some, Option.map_some, if_true, if_false, ite_true, ite_false, reduceIte, reduceCtorEq, BEq.rfl, Bool.false_eq_true, Bool.not_true, Bool.not_false, List.all_cons, List.all_nil, Bool.and_true, Bool.true_and, Bool.and_self, true_and, and_true, exists_eq_left, exists_eq_left', D.bl.injEq, D.int.injEq, D.str.injEq, D.tup.injEq, Out.rt.injEq, Nat.lt_add_left_iff_pos, Nat.zero_lt_succ, Nat.reduceAdd, Nat.reduceLT, e2, b2, rl, decide_true, decide_false, app_lst hL]
      refine ⟨by decide, by decide, some (.str S.works[i].1), some (.int S.works[i].2.1), some (.int S.works[i].2.2), some (.int (workW cs S.works[i]).2.1), ?_⟩
      rw [tk, List.map_append]
      simp [workW, workD, b1, b2]
  rintro e ⟨x4, x5, x6, x7, rfl⟩
  rw [List.length_map, List.take_length]
  refine ⟨rfl, ?_⟩
  refine seq_ok ?_
  simp only [w_pC, w_pVar, w_pOwn, w_p1, w_p2, w_pSl, w_oNo, w_oSome, w_pTup, w_pCall, w_aNil, w_aCons, w_pIsi, w_pIsi2, w_eP, w_eMove, w_e1, w_e2, w_eTup, w_eLst, w_eFz, w_eCall, w_aNilE, w_aConsE, w_eIf, w_eComp, w_eDc, w_eDef, w_cNil, w_cVal, w_cBor, w_eMeth, w_eMetP, w_plVar, w_plIx, w_eSMet, w_yesT, w_tP, w_p2t, w_e2t, w_tTruP, w_tTru, w_tNo, w_tAnd2, w_tOr2, w_iSeq, w_iRange1, w_iRange2, w_iEnumE, rngD_len, w_gNm, w_gTup, w_gsNil, w_gsCons, w_gPut, w_sNil, w_sRet, w_sExpr, w_sAsg, w_sIf, w_sFor, w_sFz, ok_some, ok_map, takeB, giveB, outsOf, wipeE, im_non, im_bl, im_int, im_str, im_tup, im_scr, im_lst, im_dcK, im_dcT, fz_non, fz_bl, fz_int, fz_str, fz_tup, fz_scr, fz_lstT, fz_lst, fz_dcT, fz_dcK, wk_tup, wk_lst, wk_scr, wk_str, sI_tup, sI_lst, tr_bl, lt_int, gt_int, le_int, ge_int, eq_int, ne_int, eq_str, ne_str, ne_bl, eq_bl, add_int, sub_int, neg_int, g_int, g_abs, ix_tup, ix_lst, at0, at1, at2, g_len_tup, g_len_lst, List.getElem?_cons_zero, List.getElem?_cons_succ, List.set_cons_zero, List.set_cons_succ, List.length_cons, List.length_nil, List.map_cons, List.map_nil, List.replicate_succ, List.replicate_zero, List.cons_append, List.nil_append, List.head?_cons, List.tail_cons, Option.join_some, Option.map_some, if_true, if_false, ite_true, ite_false, reduceIte, reduceCtorEq, BEq.rfl, Bool.false_eq_true, Bool.not_true, Bool.not_false, List.all_cons, List.all_nil, Bool.and_true, Bool.true_and, Bool.and_self, true_and, and_true, exists_eq_left, exists_eq_left', D.bl.injEq, D.int.injEq, D.str.injEq, D.tup.injEq, Out.rt.injEq, Nat.lt_add_left_iff_pos, Nat.zero_lt_succ, Nat.reduceAdd, Nat.reduceLT, ix2]
  refine comp_fm (h := tieD) (tieW cs) (by rfl) (fun t _ => ?_) (by rw [List.length_nil]; omega) ?_
  · have e1 := tab_notin ht (.tie t.1 t.2.1)
    simp only [condD] at e1
    simp only [wipeE, tieD, w_pC, w_pVar, w_pOwn, w_p1, w_p2, w_pSl, w_oNo, w_oSome, w_pTup, w_pCall, w_aNil, w_aCons, w_pIsi, w_pIsi2, w_eP, w_eMove, w_e1, w_e2, w_eTup, w_eLst, w_eFz, w_eCall, w_aNilE, w_aConsE, w_eIf, w_eComp, w_eDc, w_eDef, w_cNil, w_cVal, w_cBor, w_eMeth, w_eMetP, w_plVar, w_plIx, w_eSMet, w_yesT, w_tP, w_p2t, w_e2t, w_tTruP, w_tTru, w_tNo, w_tAnd2, w_tOr2, w_iSeq, w_iRange1, w_iRange2, w_iEnumE, rngD_len, w_gNm, w_gTup, w_gsNil, w_gsCons, w_gPut, w_sNil, w_sRet, w_sExpr, w_sAsg, w_sIf, w_sFor, w_sFz, ok_some, ok_map, takeB, giveB, outsOf, wipeE, im_non, im_bl, im_int, im_str, im_tup, im_scr, im_lst, im_dcK, im_dcT, fz_non, fz_bl, fz_int, fz_str, fz_tup, fz_scr, fz_lstT, fz_lst, fz_dcT, fz_dcK, wk_tup, wk_lst, wk_scr, wk_str, sI_tup, sI_lst, tr_bl, lt_int, gt_int, le_int, ge_int, eq_int, ne_int, eq_str, ne_str, ne_bl, eq_bl, add_int, sub_int, neg_int, g_int, g_abs, ix_tup, ix_lst, at0, at1, at2, g_len_tup, g_len_lst, List.getElem?_cons_zero, List.getElem?_cons_succ, List.set_cons_zero, List.set_cons_succ, List.length_cons, List.length_nil, List.map_cons, List.map_nil, List.replicate_succ, List.replicate_zero, List.cons_append, List.nil_append, List.head?_cons, List.tail_cons, Option.join_some, Option.map_some, if_true, if_false, ite_true, ite_false, reduceIte, reduceCtorEq, BEq.rfl, Bool.false_eq_true, Bool.not_true, Bool.not_false, List.all_cons, List.all_nil, Bool.and_true, Bool.true_and, Bool.and_self, true_and, and_true, exists_eq_left, exists_eq_left', D.bl.injEq, D.int.injEq, D.str.injEq, D.tup.injEq, Out.rt.injEq, Nat.lt_add_left_iff_pos, Nat.zero_lt_succ, Nat.reduceAdd, Nat.reduceLT, e1, tieW]
    by_cases b1 : Cond.tie t.1 t.2.1 ∈ cs
    · simp only [w_pC, w_pVar, w_pOwn, w_p1, w_p2, w_pSl, w_oNo, w_oSome, w_pTup, w_pCall, w_aNil, w_aCons, w_pIsi, w_pIsi2, w_eP, w_eMove, w_e1, w_e2, w_eTup, w_eLst, w_eFz, w_eCall, w_aNilE, w_aConsE, w_eIf, w_eComp, w_eDc, w_eDef, w_cNil, w_cVal, w_cBor, w_eMeth, w_eMetP, w_plVar, w_plIx, w_eSMet, w_yesT, w_tP, w_p2t, w_e2t, w_tTruP, w_tTru, w_tNo, w_tAnd2, w_tOr2, w_iSeq, w_iRange1, w_iRange2, w_iEnumE, rngD_len, w_gNm, w_gTup, w_gsNil, w_gsCons, w_gPut, w_sNil, w_sRet, w_sExpr, w_sAsg, w_sIf, w_sFor, w_sFz, ok_some, ok_map, takeB, giveB, outsOf, wipeE, im_non, im_bl, im_int, im_str, im_tup, im_scr, im_lst, im_dcK, im_dcT, fz_non, fz_bl, fz_int, fz_str, fz_tup, fz_scr, fz_lstT, fz_lst, fz_dcT, fz_dcK, wk_tup, wk_lst, wk_scr, wk_str, sI_tup, sI_lst, tr_bl, lt_int, gt_int, le_int, ge_int, eq_int, ne_int, eq_str, ne_str, ne_bl, eq_bl, add_int, sub_int, neg_int, g_int, g_abs, ix_tup, ix_lst, at0, at1, at2, g_len_tup, g_len_lst, List.getElem?_cons_zero, List.getElem?_cons_succ, List.set_cons_zero, List.set_cons_succ, List.length_cons, List.length_nil, List.map_cons, List.map_nil, List.replicate_succ, List.replicate_zero, List.cons_append, List.nil_append, List.head?_cons, List.tail_cons, Option.join_some, Option.map_some, if_true, if_false, ite_true, ite_false, reduceIte, reduceCtorEq, BEq.rfl, Bool.false_eq_true, Bool.not_true, Bool.not_false, List.all_cons, List.all_nil, Bool.and_true, Bool.true_and, Bool.and_self, true_and, and_true, exists_eq_left, exists_eq_left', D.bl.injEq, D.int.injEq, D.str.injEq, D.tup.injEq, Out.rt.injEq, Nat.lt_add_left_iff_pos, Nat.zero_lt_succ, Nat.reduceAdd, Nat.reduceLT, b1, decide_true]
      decide
    · simp only [w_pC, w_pVar, w_pOwn, w_p1, w_p2, w_pSl, w_oNo, w_oSome, w_pTup, w_pCall, w_aNil, w_aCons, w_pIsi, w_pIsi2, w_eP, w_eMove, w_e1, w_e2, w_eTup, w_eLst, w_eFz, w_eCall, w_aNilE, w_aConsE, w_eIf, w_eComp, w_eDc, w_eDef, w_cNil, w_cVal, w_cBor, w_eMeth, w_eMetP, w_plVar, w_plIx, w_eSMet, w_yesT, w_tP, w_p2t, w_e2t, w_tTruP, w_tTru, w_tNo, w_tAnd2, w_tOr2, w_iSeq, w_iRange1, w_iRange2, w_iEnumE, rngD_len, w_gNm, w_gTup, w_gsNil, w_gsCons, w_gPut, w_sNil, w_sRet, w_sExpr, w_sAsg, w_sIf, w_sFor, w_sFz, ok_some, ok_map, takeB, giveB, outsOf, wipeE, im_non, im_bl, im_int, im_str, im_tup, im_scr, im_lst, im_dcK, im_dcT, fz_non, fz_bl, fz_int, fz_str, fz_tup, fz_scr, fz_lstT, fz_lst, fz_dcT, fz_dcK, wk_tup, wk_lst, wk_scr, wk_str, sI_tup, sI_lst, tr_bl, lt_int, gt_int, le_int, ge_int, eq_int, ne_int, eq_str, ne_str, ne_bl, eq_bl, add_int, sub_int, neg_int, g_int, g_abs, ix_tup, ix_lst, at0, at1, at2, g_len_tup, g_len_lst, List.getElem?_cons_zero, List.getElem?_cons_succ, List.set_cons_zero, List.set_cons_succ, List.length_cons, List.length_nil, List.map_cons, List.map_nil, List.replicate_succ, List.replicate_zero, List.cons_append, List.nil_append, List.head?_cons, List.tail_cons, Option.join_some, Option.map_some, if_true, if_false, ite_true, ite_false, reduceIte, reduceCtorEq, BEq.rfl, Bool.false_eq_true, Bool.not_true, Bool.not_false, List.all_cons, List.all_nil, Bool.and_true, Bool.true_and, Bool.and_self, true_and, and_true, exists_eq_left, exists_eq_left', D.bl.injEq, D.int.injEq, D.str.injEq, D.tup.injEq, Out.rt.injEq, Nat.lt_add_left_iff_pos, Nat.zero_lt_succ, Nat.reduceAdd, Nat.reduceLT, b1, decide_false]
      exact ⟨by decide, t, rfl, rfl⟩
  simp only [wipeE, w_pC, w_pVar, w_pOwn, w_p1, w_p2, w_pSl, w_oNo, w_oSome, w_pTup, w_pCall, w_aNil, w_aCons, w_pIsi, w_pIsi2, w_eP, w_eMove, w_e1, w_e2, w_eTup, w_eLst, w_eFz, w_eCall, w_aNilE, w_aConsE, w_eIf, w_eComp, w_eDc, w_eDef, w_cNil, w_cVal, w_cBor, w_eMeth, w_eMetP, w_plVar, w_plIx, w_eSMet, w_yesT, w_tP, w_p2t, w_e2t, w_tTruP, w_tTru, w_tNo, w_tAnd2, w_tOr2, w_iSeq, w_iRange1, w_iRange2, w_iEnumE, rngD_len, w_gNm, w_gTup, w_gsNil, w_gsCons, w_gPut, w_sNil, w_sRet, w_sExpr, w_sAsg, w_sIf, w_sFor, w_sFz, ok_some, ok_map, takeB, giveB, outsOf, wipeE, im_non, im_bl, im_int, im_str, im_tup, im_scr, im_lst, im_dcK, im_dcT, fz_non, fz_bl, fz_int, fz_str, fz_tup, fz_scr, fz_lstT, fz_lst, fz_dcT, fz_dcK, wk_tup, wk_lst, wk_scr, wk_str, sI_tup, sI_lst, tr_bl, lt_int, gt_int, le_int, ge_int, eq_int, ne_int, eq_str, ne_str, ne_bl, eq_bl, add_int, sub_int, neg_int, g_int, g_abs, ix_tup, ix_lst, at0, at1, at2, g_len_tup, g_len_lst, List.getElem?_cons_zero, List.getElem?_cons_succ, List.set_cons_zero, List.set_cons_succ, List.length_cons, List.length_nil, List.map_cons, List.map_nil, List.replicate_succ, List.replicate_zero, List.cons_append, List.nil_append, List.head?_cons, List.tail_cons, Option.join_some, Option.map_some, if_true, if_false, ite_true, ite_false, reduceIte, reduceCtorEq, BEq.rfl, Bool.false_eq_true, Bool.not_true, Bool.not_false, List.all_cons, List.all_nil, Bool.and_true, Bool.true_and, Bool.and_self, true_and, and_true, exists_eq_left, exists_eq_left', D.bl.injEq, D.int.injEq, D.str.injEq, D.tup.injEq, Out.rt.injEq, Nat.lt_add_left_iff_pos, Nat.zero_lt_succ, Nat.reduceAdd, Nat.reduceLT, g_tuple (all_map (S.ties.filterMap (tieW cs)) (fun t => (rfl : isImm (tieD t) = true))), ix0', imd]
  refine freed_w h1 h2 h5 hc ht ?_
  simp only [w_pC, w_pVar, w_pOwn, w_p1, w_p2, w_pSl, w_oNo, w_oSome, w_pTup, w_pCall, w_aNil, w_aCons, w_pIsi, w_pIsi2, w_eP, w_eMove, w_e1, w_e2, w_eTup, w_eLst, w_eFz, w_eCall, w_aNilE, w_aConsE, w_eIf, w_eComp, w_eDc, w_eDef, w_cNil, w_cVal, w_cBor, w_eMeth, w_eMetP, w_plVar, w_plIx, w_eSMet, w_yesT, w_tP, w_p2t, w_e2t, w_tTruP, w_tTru, w_tNo, w_tAnd2, w_tOr2, w_iSeq, w_iRange1, w_iRange2, w_iEnumE, rngD_len, w_gNm, w_gTup, w_gsNil, w_gsCons, w_gPut, w_sNil, w_sRet, w_sExpr, w_sAsg, w_sIf, w_sFor, w_sFz, ok_some, ok_map, takeB, giveB, outsOf, wipeE, im_non, im_bl, im_int, im_str, im_tup, im_scr, im_lst, im_dcK, im_dcT, fz_non, fz_bl, fz_int, fz_str, fz_tup, fz_scr, fz_lstT, fz_lst, fz_dcT, fz_dcK, wk_tup, wk_lst, wk_scr, wk_str, sI_tup, sI_lst, tr_bl, lt_int, gt_int, le_int, ge_int, eq_int, ne_int, eq_str, ne_str, ne_bl, eq_bl, add_int, sub_int, neg_int, g_int, g_abs, ix_tup, ix_lst, at0, at1, at2, g_len_tup, g_len_lst, List.getElem?_cons_zero, List.getElem?_cons_succ, List.set_cons_zero, List.set_cons_succ, List.length_cons, List.length_nil, List.map_cons, List.map_nil, List.replicate_succ, List.replicate_zero, List.cons_append, List.nil_append, List.head?_cons, List.tail_cons, Option.join_some, Option.map_some, if_true, if_false, ite_true, ite_false, reduceIte, reduceCtorEq, BEq.rfl, Bool.false_eq_true, Bool.not_true, Bool.not_false, List.all_cons, List.all_nil, Bool.and_true, Bool.true_and, Bool.and_self, true_and, and_true, exists_eq_left, exists_eq_left', D.bl.injEq, D.int.injEq, D.str.injEq, D.tup.injEq, Out.rt.injEq, Nat.lt_add_left_iff_pos, Nat.zero_lt_succ, Nat.reduceAdd, Nat.reduceLT, imd, g_tuple (all_map (S.works.map (workW cs)) (fun t => (rfl : isImm (workD t) = true)))]
  exact ⟨by decide, q⟩

/-! ### the law's own way -/
def begN : Cond → Option Str
  | .beg n => some n
  | _ => none
def finN : Cond → Option Str
  | .fin n => some n
  | _ => none
def tieP : Cond → Option (Str × Str)
  | .tie a b => some (a, b)
  | _ => none
def pairS (p : Str × Str) : D := .tup [.str p.1, .str p.2]
theorem mem_begN {cs : List Cond} {n : Str} : n ∈ cs.filterMap begN ↔ .beg n ∈ cs := by
  rw [List.mem_filterMap]
  constructor
  · rintro ⟨c, m, e⟩
    cases c <;> simp [begN] at e
    subst e; exact m
  · intro m; exact ⟨_, m, rfl⟩
theorem mem_finN {cs : List Cond} {n : Str} : n ∈ cs.filterMap finN ↔ .fin n ∈ cs := by
  rw [List.mem_filterMap]
  constructor
  · rintro ⟨c, m, e⟩
    cases c <;> simp [finN] at e
    subst e; exact m
  · intro m; exact ⟨_, m, rfl⟩
theorem mem_tieP {cs : List Cond} {a b : Str} : (a, b) ∈ cs.filterMap tieP ↔ .tie a b ∈ cs := by
  rw [List.mem_filterMap]
  constructor
  · rintro ⟨c, m, e⟩
    cases c <;> simp [tieP] at e
    obtain ⟨rfl, rfl⟩ := e; exact m
  · intro m; exact ⟨_, m, rfl⟩
theorem in_strs {z : Bool} {n : Str} {bs : List Str} : dIn (.str n) (.lst z (bs.map D.str)) = some (.bl (decide (n ∈ bs))) := by
  have e : dIn0 (.str n) (.lst z (bs.map D.str)) = some (L2.inV (fv (.str n)) ((bs.map D.str).map fv)) := by
    simp only [dIn0, dGet, seqD]
    rw [if_pos ⟨rfl, all_map _ fun _ => rfl⟩]
  unfold dIn
  rw [e]
  show some (D.bl (L2.inV (.str n) ((bs.map D.str).map fv))) = _
  congr 2
  unfold L2.inV
  induction bs with
  | nil => simp
  | cons b bs ih =>
    rw [List.map_cons, List.map_cons, List.any_cons, ih (by
      simp only [dIn0, dGet, seqD]
      rw [if_pos ⟨rfl, all_map _ fun _ => rfl⟩])]
    by_cases hb : b = n
    · subst hb
      simp [fv, L2.eqV]
    · have : L2.eqV (fv (.str b)) (.str n) = false := by simp [fv, L2.eqV, hb]
      rw [this]
      simp [Ne.symm hb]
theorem pys_map {α : Type} (f : α → D) : ∀ l : List α, pys (l.map f) = l.map fun a => py (f a)
  | [] => by simp [pys]
  | a :: l => by simp [pys, pys_map f l]
theorem lay_all : ∀ {l : List PyData}, (∀ d ∈ l, d.canLay0 = true) → PyData.canLayAll0 l = true
  | [], _ => by simp [PyData.canLayAll0]
  | d :: l, h => by rw [PyData.canLayAll0, h d List.mem_cons_self, lay_all fun e m => h e (List.mem_cons_of_mem _ m)]; rfl
theorem dep_all : ∀ {l : List PyData}, (∀ d ∈ l, d.depth ≤ 1) → PyData.depthAll l ≤ 1
  | [], _ => by simp [PyData.depthAll]
  | d :: l, h => by
    rw [PyData.depthAll]
    have := h d List.mem_cons_self
    have := dep_all fun e m => h e (List.mem_cons_of_mem _ m)
    omega
theorem py_pair (p : Str × Str) : py (pairS p) = .tuple [.str p.1, .str p.2] := by simp [pairS, py, pys]
theorem notin_pairs {a b : Str} {ps : List (Str × Str)} (ha : PyData.strOk a = true) (hb : PyData.strOk b = true) (hp : ∀ p ∈ ps, PyData.strOk p.1 = true ∧ PyData.strOk p.2 = true) : dNotIn (.tup [.str a, .str b]) (.lst true (ps.map pairS)) = some (.bl (!decide ((a, b) ∈ ps))) := by
  have s1 : SeqAt.shaped (py (.tup [.str a, .str b])) = true := by
    simp [SeqAt.shaped, py, pys, PyData.canLay0, PyData.canLayAll0, PyData.depth, PyData.depthAll, ha, hb]
  have s2 : SeqAt.shaped (.list (pys (ps.map pairS))) = true := by
    unfold SeqAt.shaped
    rw [pys_map, Bool.and_eq_true]
    constructor
    · rw [PyData.canLay0]
      refine lay_all fun d m => ?_
      obtain ⟨p, mp, rfl⟩ := List.mem_map.mp m
      have := hp p mp
      simp [py_pair, PyData.canLay0, PyData.canLayAll0, this]
    · have := dep_all (l := ps.map fun a => py (pairS a)) fun d m => by
        obtain ⟨p, mp, rfl⟩ := List.mem_map.mp m
        simp [py_pair, PyData.depth, PyData.depthAll]
      simp [PyData.depth]
      omega
  have n1 : nodic (.tup [.str a, .str b]) = true := by simp [nodic, nodics]
  have n2 : nodics (ps.map pairS) = true := nodics_all fun d m => by
    obtain ⟨p, mp, rfl⟩ := List.mem_map.mp m
    simp [pairS, nodic, nodics]
  have e : dIn0 (.tup [.str a, .str b]) (.lst true (ps.map pairS)) = some ((pys (ps.map pairS)).any fun z => PyData.eqv z (py (.tup [.str a, .str b]))) := by
    simp only [dIn0, dGet, seqD]
    rw [if_neg (fun h => nomatch h.1), if_pos ⟨n1, n2, s1, s2⟩]
  unfold dNotIn
  rw [e]
  show some (D.bl (!(pys (ps.map pairS)).any fun z => PyData.eqv z (py (.tup [.str a, .str b])))) = _
  congr 3
  rw [pys_map]
  clear e s2 n2 hp
  induction ps with
  | nil => simp
  | cons p ps ih =>
    rw [List.map_cons, List.any_cons, ih]
    have e1 : PyData.eqv (py (pairS p)) (py (.tup [.str a, .str b])) = (decide (p.1 = a) && decide (p.2 = b)) := by
      rw [py_pair]
      have : py (.tup [.str a, .str b]) = .tuple [.str a, .str b] := py_pair (a, b)
      rw [this]
      simp [PyData.eqv, PyData.eqvAll]
      have b1 : (p.1 == a) = decide (p.1 = a) := by by_cases h : p.1 = a <;> simp [h]
      have b2 : (p.2 == b) = decide (p.2 = b) := by by_cases h : p.2 = b <;> simp [h]
      rw [b1, b2]
    rw [e1]
    obtain ⟨p1, p2⟩ := p
    by_cases h1 : p1 = a
    · by_cases h2 : p2 = b
      · subst h1 h2; simp
      · simp [h1, h2, Ne.symm h2]
    · simp [h1, Ne.symm h1]
theorem s_h {c : Cond} : dIx (condD c) (.int 0) = some (.str (match c with | .beg _ => "begin" | .fin _ => "end" | .hand _ _ => "hand" | .tie _ _ => "tie")) := by
  cases c <;> (simp only [condD]; rw [ix_tup, at0])
theorem lwithout_w {S : Sheet} {cs : List Cond} {Q : D × List (Option D) → Prop} (hS : S.Fine) (hc : CsOk S.row cs) (hz : cs.length ≤ 100000) (q : Q (sheetD (withoutS S cs), [some (sheetD S), some (.tup (cs.map condD))])) : Ok (F__law_without [sheetD S, .tup (cs.map condD)]) Q := by
  obtain ⟨h1, h2, h5, h3, h4, h6⟩ := hS
  refine fn_ok rfl ?_
  unfold B__law_without
  simp only [List.map_cons, List.map_nil, List.replicate_succ, List.replicate_zero, List.cons_append, List.nil_append]
  refine seq_ok ?_
  have im : isImm (sheetD S) = true := rfl
  simp only [w_pC, w_pVar, w_pOwn, w_p1, w_p2, w_pSl, w_oNo, w_oSome, w_pTup, w_pCall, w_aNil, w_aCons, w_pIsi, w_pIsi2, w_eP, w_eMove, w_e1, w_e2, w_eTup, w_eLst, w_eFz, w_eCall, w_aNilE, w_aConsE, w_eIf, w_eComp, w_eDc, w_eDef, w_cNil, w_cVal, w_cBor, w_eMeth, w_eMetP, w_plVar, w_plIx, w_eSMet, w_yesT, w_tP, w_p2t, w_e2t, w_tTruP, w_tTru, w_tNo, w_tAnd2, w_tOr2, w_iSeq, w_iRange1, w_iRange2, w_iEnumE, rngD_len, w_gNm, w_gTup, w_gsNil, w_gsCons, w_gPut, w_sNil, w_sRet, w_sExpr, w_sAsg, w_sIf, w_sFor, w_sFz, ok_some, ok_map, takeB, giveB, outsOf, wipeE, im_non, im_bl, im_int, im_str, im_tup, im_scr, im_lst, im_dcK, im_dcT, fz_non, fz_bl, fz_int, fz_str, fz_tup, fz_scr, fz_lstT, fz_lst, fz_dcT, fz_dcK, wk_tup, wk_lst, wk_scr, wk_str, sI_tup, sI_lst, tr_bl, lt_int, gt_int, le_int, ge_int, eq_int, ne_int, eq_str, ne_str, ne_bl, eq_bl, add_int, sub_int, neg_int, g_int, g_abs, ix_tup, ix_lst, at0, at1, at2, g_len_tup, g_len_lst, List.getElem?_cons_zero, List.getElem?_cons_succ, List.set_cons_zero, List.set_cons_succ, List.length_cons, List.length_nil, List.map_cons, List.map_nil, List.replicate_succ, List.replicate_zero, List.cons_append, List.nil_append, List.head?_cons, List.tail_cons, Option.join_some, Option.map_some, if_true, if_false, ite_true, ite_false, reduceIte, reduceCtorEq, BEq.rfl, Bool.false_eq_true, Bool.not_true, Bool.not_false, List.all_cons, List.all_nil, Bool.and_true, Bool.true_and, Bool.and_self, true_and, and_true, exists_eq_left, exists_eq_left', D.bl.injEq, D.int.injEq, D.str.injEq, D.tup.injEq, Out.rt.injEq, Nat.lt_add_left_iff_pos, Nat.zero_lt_succ, Nat.reduceAdd, Nat.reduceLT, im]
  simp only [sheetD, w_pC, w_pVar, w_pOwn, w_p1, w_p2, w_pSl, w_oNo, w_oSome, w_pTup, w_pCall, w_aNil, w_aCons, w_pIsi, w_pIsi2, w_eP, w_eMove, w_e1, w_e2, w_eTup, w_eLst, w_eFz, w_eCall, w_aNilE, w_aConsE, w_eIf, w_eComp, w_eDc, w_eDef, w_cNil, w_cVal, w_cBor, w_eMeth, w_eMetP, w_plVar, w_plIx, w_eSMet, w_yesT, w_tP, w_p2t, w_e2t, w_tTruP, w_tTru, w_tNo, w_tAnd2, w_tOr2, w_iSeq, w_iRange1, w_iRange2, w_iEnumE, rngD_len, w_gNm, w_gTup, w_gsNil, w_gsCons, w_gPut, w_sNil, w_sRet, w_sExpr, w_sAsg, w_sIf, w_sFor, w_sFz, ok_some, ok_map, takeB, giveB, outsOf, wipeE, im_non, im_bl, im_int, im_str, im_tup, im_scr, im_lst, im_dcK, im_dcT, fz_non, fz_bl, fz_int, fz_str, fz_tup, fz_scr, fz_lstT, fz_lst, fz_dcT, fz_dcK, wk_tup, wk_lst, wk_scr, wk_str, sI_tup, sI_lst, tr_bl, lt_int, gt_int, le_int, ge_int, eq_int, ne_int, eq_str, ne_str, ne_bl, eq_bl, add_int, sub_int, neg_int, g_int, g_abs, ix_tup, ix_lst, at0, at1, at2, g_len_tup, g_len_lst, List.getElem?_cons_zero, List.getElem?_cons_succ, List.set_cons_zero, List.set_cons_succ, List.length_cons, List.length_nil, List.map_cons, List.map_nil, List.replicate_succ, List.replicate_zero, List.cons_append, List.nil_append, List.head?_cons, List.tail_cons, Option.join_some, Option.map_some, if_true, if_false, ite_true, ite_false, reduceIte, reduceCtorEq, BEq.rfl, Bool.false_eq_true, Bool.not_true, Bool.not_false, List.all_cons, List.all_nil, Bool.and_true, Bool.true_and, Bool.and_self, true_and, and_true, exists_eq_left, exists_eq_left', D.bl.injEq, D.int.injEq, D.str.injEq, D.tup.injEq, Out.rt.injEq, Nat.lt_add_left_iff_pos, Nat.zero_lt_succ, Nat.reduceAdd, Nat.reduceLT]
  refine seq_ok ?_
  simp only [w_pC, w_pVar, w_pOwn, w_p1, w_p2, w_pSl, w_oNo, w_oSome, w_pTup, w_pCall, w_aNil, w_aCons, w_pIsi, w_pIsi2, w_eP, w_eMove, w_e1, w_e2, w_eTup, w_eLst, w_eFz, w_eCall, w_aNilE, w_aConsE, w_eIf, w_eComp, w_eDc, w_eDef, w_cNil, w_cVal, w_cBor, w_eMeth, w_eMetP, w_plVar, w_plIx, w_eSMet, w_yesT, w_tP, w_p2t, w_e2t, w_tTruP, w_tTru, w_tNo, w_tAnd2, w_tOr2, w_iSeq, w_iRange1, w_iRange2, w_iEnumE, rngD_len, w_gNm, w_gTup, w_gsNil, w_gsCons, w_gPut, w_sNil, w_sRet, w_sExpr, w_sAsg, w_sIf, w_sFor, w_sFz, ok_some, ok_map, takeB, giveB, outsOf, wipeE, im_non, im_bl, im_int, im_str, im_tup, im_scr, im_lst, im_dcK, im_dcT, fz_non, fz_bl, fz_int, fz_str, fz_tup, fz_scr, fz_lstT, fz_lst, fz_dcT, fz_dcK, wk_tup, wk_lst, wk_scr, wk_str, sI_tup, sI_lst, tr_bl, lt_int, gt_int, le_int, ge_int, eq_int, ne_int, eq_str, ne_str, ne_bl, eq_bl, add_int, sub_int, neg_int, g_int, g_abs, ix_tup, ix_lst, at0, at1, at2, g_len_tup, g_len_lst, List.getElem?_cons_zero, List.getElem?_cons_succ, List.set_cons_zero, List.set_cons_succ, List.length_cons, List.length_nil, List.map_cons, List.map_nil, List.replicate_succ, List.replicate_zero, List.cons_append, List.nil_append, List.head?_cons, List.tail_cons, Option.join_some, Option.map_some, if_true, if_false, ite_true, ite_false, reduceIte, reduceCtorEq, BEq.rfl, Bool.false_eq_true, Bool.not_true, Bool.not_false, List.all_cons, List.all_nil, Bool.and_true, Bool.true_and, Bool.and_self, true_and, and_true, exists_eq_left, exists_eq_left', D.bl.injEq, D.int.injEq, D.str.injEq, D.tup.injEq, Out.rt.injEq, Nat.lt_add_left_iff_pos, Nat.zero_lt_succ, Nat.reduceAdd, Nat.reduceLT, g_list_tup (ints_imm S.row)]
  refine seq_ok ?_
  simp only [w_pC, w_pVar, w_pOwn, w_p1, w_p2, w_pSl, w_oNo, w_oSome, w_pTup, w_pCall, w_aNil, w_aCons, w_pIsi, w_pIsi2, w_eP, w_eMove, w_e1, w_e2, w_eTup, w_eLst, w_eFz, w_eCall, w_aNilE, w_aConsE, w_eIf, w_eComp, w_eDc, w_eDef, w_cNil, w_cVal, w_cBor, w_eMeth, w_eMetP, w_plVar, w_plIx, w_eSMet, w_yesT, w_tP, w_p2t, w_e2t, w_tTruP, w_tTru, w_tNo, w_tAnd2, w_tOr2, w_iSeq, w_iRange1, w_iRange2, w_iEnumE, rngD_len, w_gNm, w_gTup, w_gsNil, w_gsCons, w_gPut, w_sNil, w_sRet, w_sExpr, w_sAsg, w_sIf, w_sFor, w_sFz, ok_some, ok_map, takeB, giveB, outsOf, wipeE, im_non, im_bl, im_int, im_str, im_tup, im_scr, im_lst, im_dcK, im_dcT, fz_non, fz_bl, fz_int, fz_str, fz_tup, fz_scr, fz_lstT, fz_lst, fz_dcT, fz_dcK, wk_tup, wk_lst, wk_scr, wk_str, sI_tup, sI_lst, tr_bl, lt_int, gt_int, le_int, ge_int, eq_int, ne_int, eq_str, ne_str, ne_bl, eq_bl, add_int, sub_int, neg_int, g_int, g_abs, ix_tup, ix_lst, at0, at1, at2, g_len_tup, g_len_lst, List.getElem?_cons_zero, List.getElem?_cons_succ, List.set_cons_zero, List.set_cons_succ, List.length_cons, List.length_nil, List.map_cons, List.map_nil, List.replicate_succ, List.replicate_zero, List.cons_append, List.nil_append, List.head?_cons, List.tail_cons, Option.join_some, Option.map_some, if_true, if_false, ite_true, ite_false, reduceIte, reduceCtorEq, BEq.rfl, Bool.false_eq_true, Bool.not_true, Bool.not_false, List.all_cons, List.all_nil, Bool.and_true, Bool.true_and, Bool.and_self, true_and, and_true, exists_eq_left, exists_eq_left', D.bl.injEq, D.int.injEq, D.str.injEq, D.tup.injEq, Out.rt.injEq, Nat.lt_add_left_iff_pos, Nat.zero_lt_succ, Nat.reduceAdd, Nat.reduceLT]
  refine for_ok (fun i e => ∃ x6, ∃ l : List Int, e = [some (.tup [.tup [.tup (S.row.map D.int), .int S.rest], .tup (S.works.map workD), .tup (S.ties.map tieD)]), some (.tup (cs.map condD)), some (.tup [.tup (S.row.map D.int), .int S.rest]), some (.tup (S.works.map workD)), some (.tup (S.ties.map tieD)), some (.lst false (l.map D.int)), x6, none, none, none, none, none, none, none, none, none] ∧ l.length = S.row.length ∧ ∀ h (hh : h < S.row.length), l[h]? = some (newAt S.row[h] h (cs.take i))) ⟨none, S.row, rfl, rfl, fun h hh => by simp [newAt, hh]⟩ ?_ ?_
  · rintro i dd e hi ⟨x6, l, rfl, hll, hlv⟩
    obtain ⟨hil, rfl⟩ := at_cond hi
    have tk := take_at hil
    have keep : ∀ (R : ∀ m h, cs[i] ≠ Cond.hand h m), ∃ x6', ∃ l' : List Int, [some (D.tup [.tup [.tup (S.row.map D.int), .int S.rest], .tup (S.works.map workD), .tup (S.ties.map tieD)]), some (.tup (cs.map condD)), some (.tup [.tup (S.row.map D.int), .int S.rest]), some (.tup (S.works.map workD)), some (.tup (S.ties.map tieD)), some (.lst false (l.map D.int)), some (condD cs[i]), none, none, none, none, none, none, none, none, none] = [some (.tup [.tup [.tup (S.row.map D.int), .int S.rest], .tup (S.works.map workD), .tup (S.ties.map tieD)]), some (.tup (cs.map condD)), some (.tup [.tup (S.row.map D.int), .int S.rest]), some (.tup (S.works.map workD)), some (.tup (S.ties.map tieD)), some (.lst false (l'.map D.int)), x6', none, none, none, none, none, none, none, none, none] ∧ l'.length = S.row.length ∧ ∀ h (hh : h < S.row.length), l'[h]? = some (newAt S.row[h] h (cs.take (i + 1))) := fun R =>
      ⟨_, l, rfl, hll, fun h hh => by rw [hlv h hh, tk, newAt_snoc_other fun m => R m h]⟩
    simp only [w_pC, w_pVar, w_pOwn, w_p1, w_p2, w_pSl, w_oNo, w_oSome, w_pTup, w_pCall, w_aNil, w_aCons, w_pIsi, w_pIsi2, w_eP, w_eMove, w_e1, w_e2, w_eTup, w_eLst, w_eFz, w_eCall, w_aNilE, w_aConsE, w_eIf, w_eComp, w_eDc, w_eDef, w_cNil, w_cVal, w_cBor, w_eMeth, w_eMetP, w_plVar, w_plIx, w_eSMet, w_yesT, w_tP, w_p2t, w_e2t, w_tTruP, w_tTru, w_tNo, w_tAnd2, w_tOr2, w_iSeq, w_iRange1, w_iRange2, w_iEnumE, rngD_len, w_gNm, w_gTup, w_gsNil, w_gsCons, w_gPut, w_sNil, w_sRet, w_sExpr, w_sAsg, w_sIf, w_sFor, w_sFz, ok_some, ok_map, takeB, giveB, outsOf, wipeE, im_non, im_bl, im_int, im_str, im_tup, im_scr, im_lst, im_dcK, im_dcT, fz_non, fz_bl, fz_int, fz_str, fz_tup, fz_scr, fz_lstT, fz_lst, fz_dcT, fz_dcK, wk_tup, wk_lst, wk_scr, wk_str, sI_tup, sI_lst, tr_bl, lt_int, gt_int, le_int, ge_int, eq_int, ne_int, eq_str, ne_str, ne_bl, eq_bl, add_int, sub_int, neg_int, g_int, g_abs, ix_tup, ix_lst, at0, at1, at2, g_len_tup, g_len_lst, List.getElem?_cons_zero, List.getElem?_cons_succ, List.set_cons_zero, List.set_cons_succ, List.length_cons, List.length_nil, List.map_cons, List.map_nil, List.replicate_succ, List.replicate_zero, List.cons_append, List.nil_append, List.head?_cons, List.tail_cons, Option.join_some, Option.map_some, if_true, if_false, ite_true, ite_false, reduceIte, reduceCtorEq, BEq.rfl, Bool.false_eq_true, Bool.not_true, Bool.not_false, List.all_cons, List.all_nil, Bool.and_true, Bool.true_and, Bool.and_self, true_and, and_true, exists_eq_left, exists_eq_left', D.bl.injEq, D.int.injEq, D.str.injEq, D.tup.injEq, Out.rt.injEq, Nat.lt_add_left_iff_pos, Nat.zero_lt_succ, Nat.reduceAdd, Nat.reduceLT, s_h]
    generalize hcc : cs[i] = c at keep tk ⊢
    cases c with
    | beg n => simp only [w_pC, w_pVar, w_pOwn, w_p1, w_p2, w_pSl, w_oNo, w_oSome, w_pTup, w_pCall, w_aNil, w_aCons, w_pIsi, w_pIsi2, w_eP, w_eMove, w_e1, w_e2, w_eTup, w_eLst, w_eFz, w_eCall, w_aNilE, w_aConsE, w_eIf, w_eComp, w_eDc, w_eDef, w_cNil, w_cVal, w_cBor, w_eMeth, w_eMetP, w_plVar, w_plIx, w_eSMet, w_yesT, w_tP, w_p2t, w_e2t, w_tTruP, w_tTru, w_tNo, w_tAnd2, w_tOr2, w_iSeq, w_iRange1, w_iRange2, w_iEnumE, rngD_len, w_gNm, w_gTup, w_gsNil, w_gsCons, w_gPut, w_sNil, w_sRet, w_sExpr, w_sAsg, w_sIf, w_sFor, w_sFz, ok_some, ok_map, takeB, giveB, outsOf, wipeE, im_non, im_bl, im_int, im_str, im_tup, im_scr, im_lst, im_dcK, im_dcT, fz_non, fz_bl, fz_int, fz_str, fz_tup, fz_scr, fz_lstT, fz_lst, fz_dcT, fz_dcK, wk_tup, wk_lst, wk_scr, wk_str, sI_tup, sI_lst, tr_bl, lt_int, gt_int, le_int, ge_int, eq_int, ne_int, eq_str, ne_str, ne_bl, eq_bl, add_int, sub_int, neg_int, g_int, g_abs, ix_tup, ix_lst, at0, at1, at2, g_len_tup, g_len_lst, List.getElem?_cons_zero, List.getElem?_cons_succ, List.set_cons_zero, List.set_cons_succ, List.length_cons, List.length_nil, List.map_cons, List.map_nil, List.replicate_succ, List.replicate_zero, List.cons_append, List.nil_append, List.head?_cons, List.tail_cons, Option.join_some, Option.map_some, if_true, if_false, ite_true, ite_false, reduceIte, reduceCtorEq, BEq.rfl, Bool.false_eq_true, Bool.not_true, Bool.not_false, List.all_cons, List.all_nil, Bool.and_true, Bool.true_and, Bool.and_self, true_and, and_true, exists_eq_left, exists_eq_left', D.bl.injEq, D.int.injEq, D.str.injEq, D.tup.injEq, Out.rt.injEq, Nat.lt_add_left_iff_pos, Nat.zero_lt_succ, Nat.reduceAdd, Nat.reduceLT, s_bh, decide_false]; exact keep fun m h e => (nomatch e)
    | fin n => simp only [w_pC, w_pVar, w_pOwn, w_p1, w_p2, w_pSl, w_oNo, w_oSome, w_pTup, w_pCall, w_aNil, w_aCons, w_pIsi, w_pIsi2, w_eP, w_eMove, w_e1, w_e2, w_eTup, w_eLst, w_eFz, w_eCall, w_aNilE, w_aConsE, w_eIf, w_eComp, w_eDc, w_eDef, w_cNil, w_cVal, w_cBor, w_eMeth, w_eMetP, w_plVar, w_plIx, w_eSMet, w_yesT, w_tP, w_p2t, w_e2t, w_tTruP, w_tTru, w_tNo, w_tAnd2, w_tOr2, w_iSeq, w_iRange1, w_iRange2, w_iEnumE, rngD_len, w_gNm, w_gTup, w_gsNil, w_gsCons, w_gPut, w_sNil, w_sRet, w_sExpr, w_sAsg, w_sIf, w_sFor, w_sFz, ok_some, ok_map, takeB, giveB, outsOf, wipeE, im_non, im_bl, im_int, im_str, im_tup, im_scr, im_lst, im_dcK, im_dcT, fz_non, fz_bl, fz_int, fz_str, fz_tup, fz_scr, fz_lstT, fz_lst, fz_dcT, fz_dcK, wk_tup, wk_lst, wk_scr, wk_str, sI_tup, sI_lst, tr_bl, lt_int, gt_int, le_int, ge_int, eq_int, ne_int, eq_str, ne_str, ne_bl, eq_bl, add_int, sub_int, neg_int, g_int, g_abs, ix_tup, ix_lst, at0, at1, at2, g_len_tup, g_len_lst, List.getElem?_cons_zero, List.getElem?_cons_succ, List.set_cons_zero, List.set_cons_succ, List.length_cons, List.length_nil, List.map_cons, List.map_nil, List.replicate_succ, List.replicate_zero, List.cons_append, List.nil_append, List.head?_cons, List.tail_cons, Option.join_some, Option.map_some, if_true, if_false, ite_true, ite_false, reduceIte, reduceCtorEq, BEq.rfl, Bool.false_eq_true, Bool.not_true, Bool.not_false, List.all_cons, List.all_nil, Bool.and_true, Bool.true_and, Bool.and_self, true_and, and_true, exists_eq_left, exists_eq_left', D.bl.injEq, D.int.injEq, D.str.injEq, D.tup.injEq, Out.rt.injEq, Nat.lt_add_left_iff_pos, Nat.zero_lt_succ, Nat.reduceAdd, Nat.reduceLT, s_eh, decide_false]; exact keep fun m h e => (nomatch e)
    | tie a b => simp only [w_pC, w_pVar, w_pOwn, w_p1, w_p2, w_pSl, w_oNo, w_oSome, w_pTup, w_pCall, w_aNil, w_aCons, w_pIsi, w_pIsi2, w_eP, w_eMove, w_e1, w_e2, w_eTup, w_eLst, w_eFz, w_eCall, w_aNilE, w_aConsE, w_eIf, w_eComp, w_eDc, w_eDef, w_cNil, w_cVal, w_cBor, w_eMeth, w_eMetP, w_plVar, w_plIx, w_eSMet, w_yesT, w_tP, w_p2t, w_e2t, w_tTruP, w_tTru, w_tNo, w_tAnd2, w_tOr2, w_iSeq, w_iRange1, w_iRange2, w_iEnumE, rngD_len, w_gNm, w_gTup, w_gsNil, w_gsCons, w_gPut, w_sNil, w_sRet, w_sExpr, w_sAsg, w_sIf, w_sFor, w_sFz, ok_some, ok_map, takeB, giveB, outsOf, wipeE, im_non, im_bl, im_int, im_str, im_tup, im_scr, im_lst, im_dcK, im_dcT, fz_non, fz_bl, fz_int, fz_str, fz_tup, fz_scr, fz_lstT, fz_lst, fz_dcT, fz_dcK, wk_tup, wk_lst, wk_scr, wk_str, sI_tup, sI_lst, tr_bl, lt_int, gt_int, le_int, ge_int, eq_int, ne_int, eq_str, ne_str, ne_bl, eq_bl, add_int, sub_int, neg_int, g_int, g_abs, ix_tup, ix_lst, at0, at1, at2, g_len_tup, g_len_lst, List.getElem?_cons_zero, List.getElem?_cons_succ, List.set_cons_zero, List.set_cons_succ, List.length_cons, List.length_nil, List.map_cons, List.map_nil, List.replicate_succ, List.replicate_zero, List.cons_append, List.nil_append, List.head?_cons, List.tail_cons, Option.join_some, Option.map_some, if_true, if_false, ite_true, ite_false, reduceIte, reduceCtorEq, BEq.rfl, Bool.false_eq_true, Bool.not_true, Bool.not_false, List.all_cons, List.all_nil, Bool.and_true, Bool.true_and, Bool.and_self, true_and, and_true, exists_eq_left, exists_eq_left', D.bl.injEq, D.int.injEq, D.str.injEq, D.tup.injEq, Out.rt.injEq, Nat.lt_add_left_iff_pos, Nat.zero_lt_succ, Nat.reduceAdd, Nat.reduceLT, s_ht.symm, decide_false]; exact keep fun m h e => (nomatch e)
    | hand h m =>
      have hmem : Cond.hand h m ∈ cs := by rw [← hcc]; exact List.getElem_mem hil
      obtain ⟨hh, b1, b2⟩ := hc.of h m hmem
      have pos : 0 ≤ S.row[h] := h2 _ (List.getElem_mem hh)
      have hv := hlv h hh
      obtain ⟨hx, hv⟩ := List.getElem?_eq_some_iff.mp hv
      simp only [w_pC, w_pVar, w_pOwn, w_p1, w_p2, w_pSl, w_oNo, w_oSome, w_pTup, w_pCall, w_aNil, w_aCons, w_pIsi, w_pIsi2, w_eP, w_eMove, w_e1, w_e2, w_eTup, w_eLst, w_eFz, w_eCall, w_aNilE, w_aConsE, w_eIf, w_eComp, w_eDc, w_eDef, w_cNil, w_cVal, w_cBor, w_eMeth, w_eMetP, w_plVar, w_plIx, w_eSMet, w_yesT, w_tP, w_p2t, w_e2t, w_tTruP, w_tTru, w_tNo, w_tAnd2, w_tOr2, w_iSeq, w_iRange1, w_iRange2, w_iEnumE, rngD_len, w_gNm, w_gTup, w_gsNil, w_gsCons, w_gPut, w_sNil, w_sRet, w_sExpr, w_sAsg, w_sIf, w_sFor, w_sFz, ok_some, ok_map, takeB, giveB, outsOf, wipeE, im_non, im_bl, im_int, im_str, im_tup, im_scr, im_lst, im_dcK, im_dcT, fz_non, fz_bl, fz_int, fz_str, fz_tup, fz_scr, fz_lstT, fz_lst, fz_dcT, fz_dcK, wk_tup, wk_lst, wk_scr, wk_str, sI_tup, sI_lst, tr_bl, lt_int, gt_int, le_int, ge_int, eq_int, ne_int, eq_str, ne_str, ne_bl, eq_bl, add_int, sub_int, neg_int, g_int, g_abs, ix_tup, ix_lst, at0, at1, at2, g_len_tup, g_len_lst, List.getElem?_cons_zero, List.getElem?_cons_succ, List.set_cons_zero, List.set_cons_succ, List.length_cons, List.length_nil, List.map_cons, List.map_nil, List.replicate_succ, List.replicate_zero, List.cons_append, List.nil_append, List.head?_cons, List.tail_cons, Option.join_some, Option.map_some, if_true, if_false, ite_true, ite_false, reduceIte, reduceCtorEq, BEq.rfl, Bool.false_eq_true, Bool.not_true, Bool.not_false, List.all_cons, List.all_nil, Bool.and_true, Bool.true_and, Bool.and_self, true_and, and_true, exists_eq_left, exists_eq_left', D.bl.injEq, D.int.injEq, D.str.injEq, D.tup.injEq, Out.rt.injEq, Nat.lt_add_left_iff_pos, Nat.zero_lt_succ, Nat.reduceAdd, Nat.reduceLT, decide_true]
      simp only [condD, w_pC, w_pVar, w_pOwn, w_p1, w_p2, w_pSl, w_oNo, w_oSome, w_pTup, w_pCall, w_aNil, w_aCons, w_pIsi, w_pIsi2, w_eP, w_eMove, w_e1, w_e2, w_eTup, w_eLst, w_eFz, w_eCall, w_aNilE, w_aConsE, w_eIf, w_eComp, w_eDc, w_eDef, w_cNil, w_cVal, w_cBor, w_eMeth, w_eMetP, w_plVar, w_plIx, w_eSMet, w_yesT, w_tP, w_p2t, w_e2t, w_tTruP, w_tTru, w_tNo, w_tAnd2, w_tOr2, w_iSeq, w_iRange1, w_iRange2, w_iEnumE, rngD_len, w_gNm, w_gTup, w_gsNil, w_gsCons, w_gPut, w_sNil, w_sRet, w_sExpr, w_sAsg, w_sIf, w_sFor, w_sFz, ok_some, ok_map, takeB, giveB, outsOf, wipeE, im_non, im_bl, im_int, im_str, im_tup, im_scr, im_lst, im_dcK, im_dcT, fz_non, fz_bl, fz_int, fz_str, fz_tup, fz_scr, fz_lstT, fz_lst, fz_dcT, fz_dcK, wk_tup, wk_lst, wk_scr, wk_str, sI_tup, sI_lst, tr_bl, lt_int, gt_int, le_int, ge_int, eq_int, ne_int, eq_str, ne_str, ne_bl, eq_bl, add_int, sub_int, neg_int, g_int, g_abs, ix_tup, ix_lst, at0, at1, at2, g_len_tup, g_len_lst, List.getElem?_cons_zero, List.getElem?_cons_succ, List.set_cons_zero, List.set_cons_succ, List.length_cons, List.length_nil, List.map_cons, List.map_nil, List.replicate_succ, List.replicate_zero, List.cons_append, List.nil_append, List.head?_cons, List.tail_cons, Option.join_some, Option.map_some, if_true, if_false, ite_true, ite_false, reduceIte, reduceCtorEq, BEq.rfl, Bool.false_eq_true, Bool.not_true, Bool.not_false, List.all_cons, List.all_nil, Bool.and_true, Bool.true_and, Bool.and_self, true_and, and_true, exists_eq_left, exists_eq_left', D.bl.injEq, D.int.injEq, D.str.injEq, D.tup.injEq, Out.rt.injEq, Nat.lt_add_left_iff_pos, Nat.zero_lt_succ, Nat.reduceAdd, Nat.reduceLT, at_map (f := D.int) hx, g_max, put_at hx]
      refine ⟨_, l.set h _, rfl, by rw [List.length_set]; exact hll, fun k hk => ?_⟩
      by_cases e : k = h
      · subst e
        rw [List.getElem?_set_self hx, hv, newAt_snoc pos b1 b2, tk]
      · rw [List.getElem?_set_ne (Ne.symm e), hlv k hk, tk, newAt_snoc_other fun m' z => e (by cases z; rfl)]
  rintro e ⟨x6, l, rfl, hll, hlv⟩
  rw [List.length_map] at hlv
  rw [List.take_length] at hlv
  have el : l = newRow S.row cs := newRow_ext hll hlv
  refine ⟨rfl, ?_⟩
  refine seq_ok ?_
  simp only [w_pC, w_pVar, w_pOwn, w_p1, w_p2, w_pSl, w_oNo, w_oSome, w_pTup, w_pCall, w_aNil, w_aCons, w_pIsi, w_pIsi2, w_eP, w_eMove, w_e1, w_e2, w_eTup, w_eLst, w_eFz, w_eCall, w_aNilE, w_aConsE, w_eIf, w_eComp, w_eDc, w_eDef, w_cNil, w_cVal, w_cBor, w_eMeth, w_eMetP, w_plVar, w_plIx, w_eSMet, w_yesT, w_tP, w_p2t, w_e2t, w_tTruP, w_tTru, w_tNo, w_tAnd2, w_tOr2, w_iSeq, w_iRange1, w_iRange2, w_iEnumE, rngD_len, w_gNm, w_gTup, w_gsNil, w_gsCons, w_gPut, w_sNil, w_sRet, w_sExpr, w_sAsg, w_sIf, w_sFor, w_sFz, ok_some, ok_map, takeB, giveB, outsOf, wipeE, im_non, im_bl, im_int, im_str, im_tup, im_scr, im_lst, im_dcK, im_dcT, fz_non, fz_bl, fz_int, fz_str, fz_tup, fz_scr, fz_lstT, fz_lst, fz_dcT, fz_dcK, wk_tup, wk_lst, wk_scr, wk_str, sI_tup, sI_lst, tr_bl, lt_int, gt_int, le_int, ge_int, eq_int, ne_int, eq_str, ne_str, ne_bl, eq_bl, add_int, sub_int, neg_int, g_int, g_abs, ix_tup, ix_lst, at0, at1, at2, g_len_tup, g_len_lst, List.getElem?_cons_zero, List.getElem?_cons_succ, List.set_cons_zero, List.set_cons_succ, List.length_cons, List.length_nil, List.map_cons, List.map_nil, List.replicate_succ, List.replicate_zero, List.cons_append, List.nil_append, List.head?_cons, List.tail_cons, Option.join_some, Option.map_some, if_true, if_false, ite_true, ite_false, reduceIte, reduceCtorEq, BEq.rfl, Bool.false_eq_true, Bool.not_true, Bool.not_false, List.all_cons, List.all_nil, Bool.and_true, Bool.true_and, Bool.and_self, true_and, and_true, exists_eq_left, exists_eq_left', D.bl.injEq, D.int.injEq, D.str.injEq, D.tup.injEq, Out.rt.injEq, Nat.lt_add_left_iff_pos, Nat.zero_lt_succ, Nat.reduceAdd, Nat.reduceLT]
  refine comp_fm (h := D.str) begN (by rfl) (fun c _ => ?_) (by rw [List.length_nil]; omega) ?_
  · simp only [wipeE, w_pC, w_pVar, w_pOwn, w_p1, w_p2, w_pSl, w_oNo, w_oSome, w_pTup, w_pCall, w_aNil, w_aCons, w_pIsi, w_pIsi2, w_eP, w_eMove, w_e1, w_e2, w_eTup, w_eLst, w_eFz, w_eCall, w_aNilE, w_aConsE, w_eIf, w_eComp, w_eDc, w_eDef, w_cNil, w_cVal, w_cBor, w_eMeth, w_eMetP, w_plVar, w_plIx, w_eSMet, w_yesT, w_tP, w_p2t, w_e2t, w_tTruP, w_tTru, w_tNo, w_tAnd2, w_tOr2, w_iSeq, w_iRange1, w_iRange2, w_iEnumE, rngD_len, w_gNm, w_gTup, w_gsNil, w_gsCons, w_gPut, w_sNil, w_sRet, w_sExpr, w_sAsg, w_sIf, w_sFor, w_sFz, ok_some, ok_map, takeB, giveB, outsOf, wipeE, im_non, im_bl, im_int, im_str, im_tup, im_scr, im_lst, im_dcK, im_dcT, fz_non, fz_bl, fz_int, fz_str, fz_tup, fz_scr, fz_lstT, fz_lst, fz_dcT, fz_dcK, wk_tup, wk_lst, wk_scr, wk_str, sI_tup, sI_lst, tr_bl, lt_int, gt_int, le_int, ge_int, eq_int, ne_int, eq_str, ne_str, ne_bl, eq_bl, add_int, sub_int, neg_int, g_int, g_abs, ix_tup, ix_lst, at0, at1, at2, g_len_tup, g_len_lst, List.getElem?_cons_zero, List.getElem?_cons_succ, List.set_cons_zero, List.set_cons_succ, List.length_cons, List.length_nil, List.map_cons, List.map_nil, List.replicate_succ, List.replicate_zero, List.cons_append, List.nil_append, List.head?_cons, List.tail_cons, Option.join_some, Option.map_some, if_true, if_false, ite_true, ite_false, reduceIte, reduceCtorEq, BEq.rfl, Bool.false_eq_true, Bool.not_true, Bool.not_false, List.all_cons, List.all_nil, Bool.and_true, Bool.true_and, Bool.and_self, true_and, and_true, exists_eq_left, exists_eq_left', D.bl.injEq, D.int.injEq, D.str.injEq, D.tup.injEq, Out.rt.injEq, Nat.lt_add_left_iff_pos, Nat.zero_lt_succ, Nat.reduceAdd, Nat.reduceLT, s_h]
    cases c with
    | beg n => simp only [w_pC, w_pVar, w_pOwn, w_p1, w_p2, w_pSl, w_oNo, w_oSome, w_pTup, w_pCall, w_aNil, w_aCons, w_pIsi, w_pIsi2, w_eP, w_eMove, w_e1, w_e2, w_eTup, w_eLst, w_eFz, w_eCall, w_aNilE, w_aConsE, w_eIf, w_eComp, w_eDc, w_eDef, w_cNil, w_cVal, w_cBor, w_eMeth, w_eMetP, w_plVar, w_plIx, w_eSMet, w_yesT, w_tP, w_p2t, w_e2t, w_tTruP, w_tTru, w_tNo, w_tAnd2, w_tOr2, w_iSeq, w_iRange1, w_iRange2, w_iEnumE, rngD_len, w_gNm, w_gTup, w_gsNil, w_gsCons, w_gPut, w_sNil, w_sRet, w_sExpr, w_sAsg, w_sIf, w_sFor, w_sFz, ok_some, ok_map, takeB, giveB, outsOf, wipeE, im_non, im_bl, im_int, im_str, im_tup, im_scr, im_lst, im_dcK, im_dcT, fz_non, fz_bl, fz_int, fz_str, fz_tup, fz_scr, fz_lstT, fz_lst, fz_dcT, fz_dcK, wk_tup, wk_lst, wk_scr, wk_str, sI_tup, sI_lst, tr_bl, lt_int, gt_int, le_int, ge_int, eq_int, ne_int, eq_str, ne_str, ne_bl, eq_bl, add_int, sub_int, neg_int, g_int, g_abs, ix_tup, ix_lst, at0, at1, at2, g_len_tup, g_len_lst, List.getElem?_cons_zero, List.getElem?_cons_succ, List.set_cons_zero, List.set_cons_succ, List.length_cons, List.length_nil, List.map_cons, List.map_nil, List.replicate_succ, List.replicate_zero, List.cons_append, List.nil_append, List.head?_cons, List.tail_cons, Option.join_some, Option.map_some, if_true, if_false, ite_true, ite_false, reduceIte, reduceCtorEq, BEq.rfl, Bool.false_eq_true, Bool.not_true, Bool.not_false, List.all_cons, List.all_nil, Bool.and_true, Bool.true_and, Bool.and_self, true_and, and_true, exists_eq_left, exists_eq_left', D.bl.injEq, D.int.injEq, D.str.injEq, D.tup.injEq, Out.rt.injEq, Nat.lt_add_left_iff_pos, Nat.zero_lt_succ, Nat.reduceAdd, Nat.reduceLT, decide_true, condD, begN]; exact ⟨n, rfl, rfl⟩
    | fin n => simp only [w_pC, w_pVar, w_pOwn, w_p1, w_p2, w_pSl, w_oNo, w_oSome, w_pTup, w_pCall, w_aNil, w_aCons, w_pIsi, w_pIsi2, w_eP, w_eMove, w_e1, w_e2, w_eTup, w_eLst, w_eFz, w_eCall, w_aNilE, w_aConsE, w_eIf, w_eComp, w_eDc, w_eDef, w_cNil, w_cVal, w_cBor, w_eMeth, w_eMetP, w_plVar, w_plIx, w_eSMet, w_yesT, w_tP, w_p2t, w_e2t, w_tTruP, w_tTru, w_tNo, w_tAnd2, w_tOr2, w_iSeq, w_iRange1, w_iRange2, w_iEnumE, rngD_len, w_gNm, w_gTup, w_gsNil, w_gsCons, w_gPut, w_sNil, w_sRet, w_sExpr, w_sAsg, w_sIf, w_sFor, w_sFz, ok_some, ok_map, takeB, giveB, outsOf, wipeE, im_non, im_bl, im_int, im_str, im_tup, im_scr, im_lst, im_dcK, im_dcT, fz_non, fz_bl, fz_int, fz_str, fz_tup, fz_scr, fz_lstT, fz_lst, fz_dcT, fz_dcK, wk_tup, wk_lst, wk_scr, wk_str, sI_tup, sI_lst, tr_bl, lt_int, gt_int, le_int, ge_int, eq_int, ne_int, eq_str, ne_str, ne_bl, eq_bl, add_int, sub_int, neg_int, g_int, g_abs, ix_tup, ix_lst, at0, at1, at2, g_len_tup, g_len_lst, List.getElem?_cons_zero, List.getElem?_cons_succ, List.set_cons_zero, List.set_cons_succ, List.length_cons, List.length_nil, List.map_cons, List.map_nil, List.replicate_succ, List.replicate_zero, List.cons_append, List.nil_append, List.head?_cons, List.tail_cons, Option.join_some, Option.map_some, if_true, if_false, ite_true, ite_false, reduceIte, reduceCtorEq, BEq.rfl, Bool.false_eq_true, Bool.not_true, Bool.not_false, List.all_cons, List.all_nil, Bool.and_true, Bool.true_and, Bool.and_self, true_and, and_true, exists_eq_left, exists_eq_left', D.bl.injEq, D.int.injEq, D.str.injEq, D.tup.injEq, Out.rt.injEq, Nat.lt_add_left_iff_pos, Nat.zero_lt_succ, Nat.reduceAdd, Nat.reduceLT, s_be.symm, decide_false, begN]
    | tie a b => simp only [w_pC, w_pVar, w_pOwn, w_p1, w_p2, w_pSl, w_oNo, w_oSome, w_pTup, w_pCall, w_aNil, w_aCons, w_pIsi, w_pIsi2, w_eP, w_eMove, w_e1, w_e2, w_eTup, w_eLst, w_eFz, w_eCall, w_aNilE, w_aConsE, w_eIf, w_eComp, w_eDc, w_eDef, w_cNil, w_cVal, w_cBor, w_eMeth, w_eMetP, w_plVar, w_plIx, w_eSMet, w_yesT, w_tP, w_p2t, w_e2t, w_tTruP, w_tTru, w_tNo, w_tAnd2, w_tOr2, w_iSeq, w_iRange1, w_iRange2, w_iEnumE, rngD_len, w_gNm, w_gTup, w_gsNil, w_gsCons, w_gPut, w_sNil, w_sRet, w_sExpr, w_sAsg, w_sIf, w_sFor, w_sFz, ok_some, ok_map, takeB, giveB, outsOf, wipeE, im_non, im_bl, im_int, im_str, im_tup, im_scr, im_lst, im_dcK, im_dcT, fz_non, fz_bl, fz_int, fz_str, fz_tup, fz_scr, fz_lstT, fz_lst, fz_dcT, fz_dcK, wk_tup, wk_lst, wk_scr, wk_str, sI_tup, sI_lst, tr_bl, lt_int, gt_int, le_int, ge_int, eq_int, ne_int, eq_str, ne_str, ne_bl, eq_bl, add_int, sub_int, neg_int, g_int, g_abs, ix_tup, ix_lst, at0, at1, at2, g_len_tup, g_len_lst, List.getElem?_cons_zero, List.getElem?_cons_succ, List.set_cons_zero, List.set_cons_succ, List.length_cons, List.length_nil, List.map_cons, List.map_nil, List.replicate_succ, List.replicate_zero, List.cons_append, List.nil_append, List.head?_cons, List.tail_cons, Option.join_some, Option.map_some, if_true, if_false, ite_true, ite_false, reduceIte, reduceCtorEq, BEq.rfl, Bool.false_eq_true, Bool.not_true, Bool.not_false, List.all_cons, List.all_nil, Bool.and_true, Bool.true_and, Bool.and_self, true_and, and_true, exists_eq_left, exists_eq_left', D.bl.injEq, D.int.injEq, D.str.injEq, D.tup.injEq, Out.rt.injEq, Nat.lt_add_left_iff_pos, Nat.zero_lt_succ, Nat.reduceAdd, Nat.reduceLT, s_bt.symm, decide_false, begN]
    | hand h m => simp only [w_pC, w_pVar, w_pOwn, w_p1, w_p2, w_pSl, w_oNo, w_oSome, w_pTup, w_pCall, w_aNil, w_aCons, w_pIsi, w_pIsi2, w_eP, w_eMove, w_e1, w_e2, w_eTup, w_eLst, w_eFz, w_eCall, w_aNilE, w_aConsE, w_eIf, w_eComp, w_eDc, w_eDef, w_cNil, w_cVal, w_cBor, w_eMeth, w_eMetP, w_plVar, w_plIx, w_eSMet, w_yesT, w_tP, w_p2t, w_e2t, w_tTruP, w_tTru, w_tNo, w_tAnd2, w_tOr2, w_iSeq, w_iRange1, w_iRange2, w_iEnumE, rngD_len, w_gNm, w_gTup, w_gsNil, w_gsCons, w_gPut, w_sNil, w_sRet, w_sExpr, w_sAsg, w_sIf, w_sFor, w_sFz, ok_some, ok_map, takeB, giveB, outsOf, wipeE, im_non, im_bl, im_int, im_str, im_tup, im_scr, im_lst, im_dcK, im_dcT, fz_non, fz_bl, fz_int, fz_str, fz_tup, fz_scr, fz_lstT, fz_lst, fz_dcT, fz_dcK, wk_tup, wk_lst, wk_scr, wk_str, sI_tup, sI_lst, tr_bl, lt_int, gt_int, le_int, ge_int, eq_int, ne_int, eq_str, ne_str, ne_bl, eq_bl, add_int, sub_int, neg_int, g_int, g_abs, ix_tup, ix_lst, at0, at1, at2, g_len_tup, g_len_lst, List.getElem?_cons_zero, List.getElem?_cons_succ, List.set_cons_zero, List.set_cons_succ, List.length_cons, List.length_nil, List.map_cons, List.map_nil, List.replicate_succ, List.replicate_zero, List.cons_append, List.nil_append, List.head?_cons, List.tail_cons, Option.join_some, Option.map_some, if_true, if_false, ite_true, ite_false, reduceIte, reduceCtorEq, BEq.rfl, Bool.false_eq_true, Bool.not_true, Bool.not_false, List.all_cons, List.all_nil, Bool.and_true, Bool.true_and, Bool.and_self, true_and, and_true, exists_eq_left, exists_eq_left', D.bl.injEq, D.int.injEq, D.str.injEq, D.tup.injEq, Out.rt.injEq, Nat.lt_add_left_iff_pos, Nat.zero_lt_succ, Nat.reduceAdd, Nat.reduceLT, s_bh.symm, decide_false, begN]
  simp only [wipeE, w_pC, w_pVar, w_pOwn, w_p1, w_p2, w_pSl, w_oNo, w_oSome, w_pTup, w_pCall, w_aNil, w_aCons, w_pIsi, w_pIsi2, w_eP, w_eMove, w_e1, w_e2, w_eTup, w_eLst, w_eFz, w_eCall, w_aNilE, w_aConsE, w_eIf, w_eComp, w_eDc, w_eDef, w_cNil, w_cVal, w_cBor, w_eMeth, w_eMetP, w_plVar, w_plIx, w_eSMet, w_yesT, w_tP, w_p2t, w_e2t, w_tTruP, w_tTru, w_tNo, w_tAnd2, w_tOr2, w_iSeq, w_iRange1, w_iRange2, w_iEnumE, rngD_len, w_gNm, w_gTup, w_gsNil, w_gsCons, w_gPut, w_sNil, w_sRet, w_sExpr, w_sAsg, w_sIf, w_sFor, w_sFz, ok_some, ok_map, takeB, giveB, outsOf, wipeE, im_non, im_bl, im_int, im_str, im_tup, im_scr, im_lst, im_dcK, im_dcT, fz_non, fz_bl, fz_int, fz_str, fz_tup, fz_scr, fz_lstT, fz_lst, fz_dcT, fz_dcK, wk_tup, wk_lst, wk_scr, wk_str, sI_tup, sI_lst, tr_bl, lt_int, gt_int, le_int, ge_int, eq_int, ne_int, eq_str, ne_str, ne_bl, eq_bl, add_int, sub_int, neg_int, g_int, g_abs, ix_tup, ix_lst, at0, at1, at2, g_len_tup, g_len_lst, List.getElem?_cons_zero, List.getElem?_cons_succ, List.set_cons_zero, List.set_cons_succ, List.length_cons, List.length_nil, List.map_cons, List.map_nil, List.replicate_succ, List.replicate_zero, List.cons_append, List.nil_append, List.head?_cons, List.tail_cons, Option.join_some, Option.map_some, if_true, if_false, ite_true, ite_false, reduceIte, reduceCtorEq, BEq.rfl, Bool.false_eq_true, Bool.not_true, Bool.not_false, List.all_cons, List.all_nil, Bool.and_true, Bool.true_and, Bool.and_self, true_and, and_true, exists_eq_left, exists_eq_left', D.bl.injEq, D.int.injEq, D.str.injEq, D.tup.injEq, Out.rt.injEq, Nat.lt_add_left_iff_pos, Nat.zero_lt_succ, Nat.reduceAdd, Nat.reduceLT]
  refine seq_ok ?_
  simp only [w_pC, w_pVar, w_pOwn, w_p1, w_p2, w_pSl, w_oNo, w_oSome, w_pTup, w_pCall, w_aNil, w_aCons, w_pIsi, w_pIsi2, w_eP, w_eMove, w_e1, w_e2, w_eTup, w_eLst, w_eFz, w_eCall, w_aNilE, w_aConsE, w_eIf, w_eComp, w_eDc, w_eDef, w_cNil, w_cVal, w_cBor, w_eMeth, w_eMetP, w_plVar, w_plIx, w_eSMet, w_yesT, w_tP, w_p2t, w_e2t, w_tTruP, w_tTru, w_tNo, w_tAnd2, w_tOr2, w_iSeq, w_iRange1, w_iRange2, w_iEnumE, rngD_len, w_gNm, w_gTup, w_gsNil, w_gsCons, w_gPut, w_sNil, w_sRet, w_sExpr, w_sAsg, w_sIf, w_sFor, w_sFz, ok_some, ok_map, takeB, giveB, outsOf, wipeE, im_non, im_bl, im_int, im_str, im_tup, im_scr, im_lst, im_dcK, im_dcT, fz_non, fz_bl, fz_int, fz_str, fz_tup, fz_scr, fz_lstT, fz_lst, fz_dcT, fz_dcK, wk_tup, wk_lst, wk_scr, wk_str, sI_tup, sI_lst, tr_bl, lt_int, gt_int, le_int, ge_int, eq_int, ne_int, eq_str, ne_str, ne_bl, eq_bl, add_int, sub_int, neg_int, g_int, g_abs, ix_tup, ix_lst, at0, at1, at2, g_len_tup, g_len_lst, List.getElem?_cons_zero, List.getElem?_cons_succ, List.set_cons_zero, List.set_cons_succ, List.length_cons, List.length_nil, List.map_cons, List.map_nil, List.replicate_succ, List.replicate_zero, List.cons_append, List.nil_append, List.head?_cons, List.tail_cons, Option.join_some, Option.map_some, if_true, if_false, ite_true, ite_false, reduceIte, reduceCtorEq, BEq.rfl, Bool.false_eq_true, Bool.not_true, Bool.not_false, List.all_cons, List.all_nil, Bool.and_true, Bool.true_and, Bool.and_self, true_and, and_true, exists_eq_left, exists_eq_left', D.bl.injEq, D.int.injEq, D.str.injEq, D.tup.injEq, Out.rt.injEq, Nat.lt_add_left_iff_pos, Nat.zero_lt_succ, Nat.reduceAdd, Nat.reduceLT, fzs_map (cs.filterMap begN) (fun _ => fz_str)]
  refine comp_fm (h := D.str) finN (by rfl) (fun c _ => ?_) (by rw [List.length_nil]; omega) ?_
  · simp only [wipeE, w_pC, w_pVar, w_pOwn, w_p1, w_p2, w_pSl, w_oNo, w_oSome, w_pTup, w_pCall, w_aNil, w_aCons, w_pIsi, w_pIsi2, w_eP, w_eMove, w_e1, w_e2, w_eTup, w_eLst, w_eFz, w_eCall, w_aNilE, w_aConsE, w_eIf, w_eComp, w_eDc, w_eDef, w_cNil, w_cVal, w_cBor, w_eMeth, w_eMetP, w_plVar, w_plIx, w_eSMet, w_yesT, w_tP, w_p2t, w_e2t, w_tTruP, w_tTru, w_tNo, w_tAnd2, w_tOr2, w_iSeq, w_iRange1, w_iRange2, w_iEnumE, rngD_len, w_gNm, w_gTup, w_gsNil, w_gsCons, w_gPut, w_sNil, w_sRet, w_sExpr, w_sAsg, w_sIf, w_sFor, w_sFz, ok_some, ok_map, takeB, giveB, outsOf, wipeE, im_non, im_bl, im_int, im_str, im_tup, im_scr, im_lst, im_dcK, im_dcT, fz_non, fz_bl, fz_int, fz_str, fz_tup, fz_scr, fz_lstT, fz_lst, fz_dcT, fz_dcK, wk_tup, wk_lst, wk_scr, wk_str, sI_tup, sI_lst, tr_bl, lt_int, gt_int, le_int, ge_int, eq_int, ne_int, eq_str, ne_str, ne_bl, eq_bl, add_int, sub_int, neg_int, g_int, g_abs, ix_tup, ix_lst, at0, at1, at2, g_len_tup, g_len_lst, List.getElem?_cons_zero, List.getElem?_cons_succ, List.set_cons_zero, List.set_cons_succ, List.length_cons, List.length_nil, List.map_cons, List.map_nil, List.replicate_succ, List.replicate_zero, List.cons_append, List.nil_append, List.head?_cons, List.tail_cons, Option.join_some, Option.map_some, if_true, if_false, ite_true, ite_false, reduceIte, reduceCtorEq, BEq.rfl, Bool.false_eq_true, Bool.not_true, Bool.not_false, List.all_cons, List.all_nil, Bool.and_true, Bool.true_and, Bool.and_self, true_and, and_true, exists_eq_left, exists_eq_left', D.bl.injEq, D.int.injEq, D.str.injEq, D.tup.injEq, Out.rt.injEq, Nat.lt_add_left_iff_pos, Nat.zero_lt_succ, Nat.reduceAdd, Nat.reduceLT, s_h]
    cases c with
    | beg n => simp only [w_pC, w_pVar, w_pOwn, w_p1, w_p2, w_pSl, w_oNo, w_oSome, w_pTup, w_pCall, w_aNil, w_aCons, w_pIsi, w_pIsi2, w_eP, w_eMove, w_e1, w_e2, w_eTup, w_eLst, w_eFz, w_eCall, w_aNilE, w_aConsE, w_eIf, w_eComp, w_eDc, w_eDef, w_cNil, w_cVal, w_cBor, w_eMeth, w_eMetP, w_plVar, w_plIx, w_eSMet, w_yesT, w_tP, w_p2t, w_e2t, w_tTruP, w_tTru, w_tNo, w_tAnd2, w_tOr2, w_iSeq, w_iRange1, w_iRange2, w_iEnumE, rngD_len, w_gNm, w_gTup, w_gsNil, w_gsCons, w_gPut, w_sNil, w_sRet, w_sExpr, w_sAsg, w_sIf, w_sFor, w_sFz, ok_some, ok_map, takeB, giveB, outsOf, wipeE, im_non, im_bl, im_int, im_str, im_tup, im_scr, im_lst, im_dcK, im_dcT, fz_non, fz_bl, fz_int, fz_str, fz_tup, fz_scr, fz_lstT, fz_lst, fz_dcT, fz_dcK, wk_tup, wk_lst, wk_scr, wk_str, sI_tup, sI_lst, tr_bl, lt_int, gt_int, le_int, ge_int, eq_int, ne_int, eq_str, ne_str, ne_bl, eq_bl, add_int, sub_int, neg_int, g_int, g_abs, ix_tup, ix_lst, at0, at1, at2, g_len_tup, g_len_lst, List.getElem?_cons_zero, List.getElem?_cons_succ, List.set_cons_zero, List.set_cons_succ, List.length_cons, List.length_nil, List.map_cons, List.map_nil, List.replicate_succ, List.replicate_zero, List.cons_append, List.nil_append, List.head?_cons, List.tail_cons, Option.join_some, Option.map_some, if_true, if_false, ite_true, ite_false, reduceIte, reduceCtorEq, BEq.rfl, Bool.false_eq_true, Bool.not_true, Bool.not_false, List.all_cons, List.all_nil, Bool.and_true, Bool.true_and, Bool.and_self, true_and, and_true, exists_eq_left, exists_eq_left', D.bl.injEq, D.int.injEq, D.str.injEq, D.tup.injEq, Out.rt.injEq, Nat.lt_add_left_iff_pos, Nat.zero_lt_succ, Nat.reduceAdd, Nat.reduceLT, s_be, decide_false, finN]
    | fin n => simp only [w_pC, w_pVar, w_pOwn, w_p1, w_p2, w_pSl, w_oNo, w_oSome, w_pTup, w_pCall, w_aNil, w_aCons, w_pIsi, w_pIsi2, w_eP, w_eMove, w_e1, w_e2, w_eTup, w_eLst, w_eFz, w_eCall, w_aNilE, w_aConsE, w_eIf, w_eComp, w_eDc, w_eDef, w_cNil, w_cVal, w_cBor, w_eMeth, w_eMetP, w_plVar, w_plIx, w_eSMet, w_yesT, w_tP, w_p2t, w_e2t, w_tTruP, w_tTru, w_tNo, w_tAnd2, w_tOr2, w_iSeq, w_iRange1, w_iRange2, w_iEnumE, rngD_len, w_gNm, w_gTup, w_gsNil, w_gsCons, w_gPut, w_sNil, w_sRet, w_sExpr, w_sAsg, w_sIf, w_sFor, w_sFz, ok_some, ok_map, takeB, giveB, outsOf, wipeE, im_non, im_bl, im_int, im_str, im_tup, im_scr, im_lst, im_dcK, im_dcT, fz_non, fz_bl, fz_int, fz_str, fz_tup, fz_scr, fz_lstT, fz_lst, fz_dcT, fz_dcK, wk_tup, wk_lst, wk_scr, wk_str, sI_tup, sI_lst, tr_bl, lt_int, gt_int, le_int, ge_int, eq_int, ne_int, eq_str, ne_str, ne_bl, eq_bl, add_int, sub_int, neg_int, g_int, g_abs, ix_tup, ix_lst, at0, at1, at2, g_len_tup, g_len_lst, List.getElem?_cons_zero, List.getElem?_cons_succ, List.set_cons_zero, List.set_cons_succ, List.length_cons, List.length_nil, List.map_cons, List.map_nil, List.replicate_succ, List.replicate_zero, List.cons_append, List.nil_append, List.head?_cons, List.tail_cons, Option.join_some, Option.map_some, if_true, if_false, ite_true, ite_false, reduceIte, reduceCtorEq, BEq.rfl, Bool.false_eq_true, Bool.not_true, Bool.not_false, List.all_cons, List.all_nil, Bool.and_true, Bool.true_and, Bool.and_self, true_and, and_true, exists_eq_left, exists_eq_left', D.bl.injEq, D.int.injEq, D.str.injEq, D.tup.injEq, Out.rt.injEq, Nat.lt_add_left_iff_pos, Nat.zero_lt_succ, Nat.reduceAdd, Nat.reduceLT, decide_true, condD, finN]; exact ⟨n, rfl, rfl⟩
    | tie a b => simp only [w_pC, w_pVar, w_pOwn, w_p1, w_p2, w_pSl, w_oNo, w_oSome, w_pTup, w_pCall, w_aNil, w_aCons, w_pIsi, w_pIsi2, w_eP, w_eMove, w_e1, w_e2, w_eTup, w_eLst, w_eFz, w_eCall, w_aNilE, w_aConsE, w_eIf, w_eComp, w_eDc, w_eDef, w_cNil, w_cVal, w_cBor, w_eMeth, w_eMetP, w_plVar, w_plIx, w_eSMet, w_yesT, w_tP, w_p2t, w_e2t, w_tTruP, w_tTru, w_tNo, w_tAnd2, w_tOr2, w_iSeq, w_iRange1, w_iRange2, w_iEnumE, rngD_len, w_gNm, w_gTup, w_gsNil, w_gsCons, w_gPut, w_sNil, w_sRet, w_sExpr, w_sAsg, w_sIf, w_sFor, w_sFz, ok_some, ok_map, takeB, giveB, outsOf, wipeE, im_non, im_bl, im_int, im_str, im_tup, im_scr, im_lst, im_dcK, im_dcT, fz_non, fz_bl, fz_int, fz_str, fz_tup, fz_scr, fz_lstT, fz_lst, fz_dcT, fz_dcK, wk_tup, wk_lst, wk_scr, wk_str, sI_tup, sI_lst, tr_bl, lt_int, gt_int, le_int, ge_int, eq_int, ne_int, eq_str, ne_str, ne_bl, eq_bl, add_int, sub_int, neg_int, g_int, g_abs, ix_tup, ix_lst, at0, at1, at2, g_len_tup, g_len_lst, List.getElem?_cons_zero, List.getElem?_cons_succ, List.set_cons_zero, List.set_cons_succ, List.length_cons, List.length_nil, List.map_cons, List.map_nil, List.replicate_succ, List.replicate_zero, List.cons_append, List.nil_append, List.head?_cons, List.tail_cons, Option.join_some, Option.map_some, if_true, if_false, ite_true, ite_false, reduceIte, reduceCtorEq, BEq.rfl, Bool.false_eq_true, Bool.not_true, Bool.not_false, List.all_cons, List.all_nil, Bool.and_true, Bool.true_and, Bool.and_self, true_and, and_true, exists_eq_left, exists_eq_left', D.bl.injEq, D.int.injEq, D.str.injEq, D.tup.injEq, Out.rt.injEq, Nat.lt_add_left_iff_pos, Nat.zero_lt_succ, Nat.reduceAdd, Nat.reduceLT, s_et.symm, decide_false, finN]
    | hand h m => simp only [w_pC, w_pVar, w_pOwn, w_p1, w_p2, w_pSl, w_oNo, w_oSome, w_pTup, w_pCall, w_aNil, w_aCons, w_pIsi, w_pIsi2, w_eP, w_eMove, w_e1, w_e2, w_eTup, w_eLst, w_eFz, w_eCall, w_aNilE, w_aConsE, w_eIf, w_eComp, w_eDc, w_eDef, w_cNil, w_cVal, w_cBor, w_eMeth, w_eMetP, w_plVar, w_plIx, w_eSMet, w_yesT, w_tP, w_p2t, w_e2t, w_tTruP, w_tTru, w_tNo, w_tAnd2, w_tOr2, w_iSeq, w_iRange1, w_iRange2, w_iEnumE, rngD_len, w_gNm, w_gTup, w_gsNil, w_gsCons, w_gPut, w_sNil, w_sRet, w_sExpr, w_sAsg, w_sIf, w_sFor, w_sFz, ok_some, ok_map, takeB, giveB, outsOf, wipeE, im_non, im_bl, im_int, im_str, im_tup, im_scr, im_lst, im_dcK, im_dcT, fz_non, fz_bl, fz_int, fz_str, fz_tup, fz_scr, fz_lstT, fz_lst, fz_dcT, fz_dcK, wk_tup, wk_lst, wk_scr, wk_str, sI_tup, sI_lst, tr_bl, lt_int, gt_int, le_int, ge_int, eq_int, ne_int, eq_str, ne_str, ne_bl, eq_bl, add_int, sub_int, neg_int, g_int, g_abs, ix_tup, ix_lst, at0, at1, at2, g_len_tup, g_len_lst, List.getElem?_cons_zero, List.getElem?_cons_succ, List.set_cons_zero, List.set_cons_succ, List.length_cons, List.length_nil, List.map_cons, List.map_nil, List.replicate_succ, List.replicate_zero, List.cons_append, List.nil_append, List.head?_cons, List.tail_cons, Option.join_some, Option.map_some, if_true, if_false, ite_true, ite_false, reduceIte, reduceCtorEq, BEq.rfl, Bool.false_eq_true, Bool.not_true, Bool.not_false, List.all_cons, List.all_nil, Bool.and_true, Bool.true_and, Bool.and_self, true_and, and_true, exists_eq_left, exists_eq_left', D.bl.injEq, D.int.injEq, D.str.injEq, D.tup.injEq, Out.rt.injEq, Nat.lt_add_left_iff_pos, Nat.zero_lt_succ, Nat.reduceAdd, Nat.reduceLT, s_eh.symm, decide_false, finN]
  simp only [wipeE, w_pC, w_pVar, w_pOwn, w_p1, w_p2, w_pSl, w_oNo, w_oSome, w_pTup, w_pCall, w_aNil, w_aCons, w_pIsi, w_pIsi2, w_eP, w_eMove, w_e1, w_e2, w_eTup, w_eLst, w_eFz, w_eCall, w_aNilE, w_aConsE, w_eIf, w_eComp, w_eDc, w_eDef, w_cNil, w_cVal, w_cBor, w_eMeth, w_eMetP, w_plVar, w_plIx, w_eSMet, w_yesT, w_tP, w_p2t, w_e2t, w_tTruP, w_tTru, w_tNo, w_tAnd2, w_tOr2, w_iSeq, w_iRange1, w_iRange2, w_iEnumE, rngD_len, w_gNm, w_gTup, w_gsNil, w_gsCons, w_gPut, w_sNil, w_sRet, w_sExpr, w_sAsg, w_sIf, w_sFor, w_sFz, ok_some, ok_map, takeB, giveB, outsOf, wipeE, im_non, im_bl, im_int, im_str, im_tup, im_scr, im_lst, im_dcK, im_dcT, fz_non, fz_bl, fz_int, fz_str, fz_tup, fz_scr, fz_lstT, fz_lst, fz_dcT, fz_dcK, wk_tup, wk_lst, wk_scr, wk_str, sI_tup, sI_lst, tr_bl, lt_int, gt_int, le_int, ge_int, eq_int, ne_int, eq_str, ne_str, ne_bl, eq_bl, add_int, sub_int, neg_int, g_int, g_abs, ix_tup, ix_lst, at0, at1, at2, g_len_tup, g_len_lst, List.getElem?_cons_zero, List.getElem?_cons_succ, List.set_cons_zero, List.set_cons_succ, List.length_cons, List.length_nil, List.map_cons, List.map_nil, List.replicate_succ, List.replicate_zero, List.cons_append, List.nil_append, List.head?_cons, List.tail_cons, Option.join_some, Option.map_some, if_true, if_false, ite_true, ite_false, reduceIte, reduceCtorEq, BEq.rfl, Bool.false_eq_true, Bool.not_true, Bool.not_false, List.all_cons, List.all_nil, Bool.and_true, Bool.true_and, Bool.and_self, true_and, and_true, exists_eq_left, exists_eq_left', D.bl.injEq, D.int.injEq, D.str.injEq, D.tup.injEq, Out.rt.injEq, Nat.lt_add_left_iff_pos, Nat.zero_lt_succ, Nat.reduceAdd, Nat.reduceLT]
  refine seq_ok ?_
  simp only [w_pC, w_pVar, w_pOwn, w_p1, w_p2, w_pSl, w_oNo, w_oSome, w_pTup, w_pCall, w_aNil, w_aCons, w_pIsi, w_pIsi2, w_eP, w_eMove, w_e1, w_e2, w_eTup, w_eLst, w_eFz, w_eCall, w_aNilE, w_aConsE, w_eIf, w_eComp, w_eDc, w_eDef, w_cNil, w_cVal, w_cBor, w_eMeth, w_eMetP, w_plVar, w_plIx, w_eSMet, w_yesT, w_tP, w_p2t, w_e2t, w_tTruP, w_tTru, w_tNo, w_tAnd2, w_tOr2, w_iSeq, w_iRange1, w_iRange2, w_iEnumE, rngD_len, w_gNm, w_gTup, w_gsNil, w_gsCons, w_gPut, w_sNil, w_sRet, w_sExpr, w_sAsg, w_sIf, w_sFor, w_sFz, ok_some, ok_map, takeB, giveB, outsOf, wipeE, im_non, im_bl, im_int, im_str, im_tup, im_scr, im_lst, im_dcK, im_dcT, fz_non, fz_bl, fz_int, fz_str, fz_tup, fz_scr, fz_lstT, fz_lst, fz_dcT, fz_dcK, wk_tup, wk_lst, wk_scr, wk_str, sI_tup, sI_lst, tr_bl, lt_int, gt_int, le_int, ge_int, eq_int, ne_int, eq_str, ne_str, ne_bl, eq_bl, add_int, sub_int, neg_int, g_int, g_abs, ix_tup, ix_lst, at0, at1, at2, g_len_tup, g_len_lst, List.getElem?_cons_zero, List.getElem?_cons_succ, List.set_cons_zero, List.set_cons_succ, List.length_cons, List.length_nil, List.map_cons, List.map_nil, List.replicate_succ, List.replicate_zero, List.cons_append, List.nil_append, List.head?_cons, List.tail_cons, Option.join_some, Option.map_some, if_true, if_false, ite_true, ite_false, reduceIte, reduceCtorEq, BEq.rfl, Bool.false_eq_true, Bool.not_true, Bool.not_false, List.all_cons, List.all_nil, Bool.and_true, Bool.true_and, Bool.and_self, true_and, and_true, exists_eq_left, exists_eq_left', D.bl.injEq, D.int.injEq, D.str.injEq, D.tup.injEq, Out.rt.injEq, Nat.lt_add_left_iff_pos, Nat.zero_lt_succ, Nat.reduceAdd, Nat.reduceLT, fzs_map (cs.filterMap finN) (fun _ => fz_str)]
  have cut3 : ∀ a b c : D, dSl (.tup [a, b, c]) (some 1) none = some (.tup [b, c]) := fun a b c => rfl
  have cut2 : ∀ a b c : D, dSl (.tup [a, b, c]) none (some 2) = some (.tup [a, b]) := fun a b c => rfl
  refine comp_fm (h := pairS) tieP (by rfl) (fun c _ => ?_) (by rw [List.length_nil]; omega) ?_
  · simp only [wipeE, w_pC, w_pVar, w_pOwn, w_p1, w_p2, w_pSl, w_oNo, w_oSome, w_pTup, w_pCall, w_aNil, w_aCons, w_pIsi, w_pIsi2, w_eP, w_eMove, w_e1, w_e2, w_eTup, w_eLst, w_eFz, w_eCall, w_aNilE, w_aConsE, w_eIf, w_eComp, w_eDc, w_eDef, w_cNil, w_cVal, w_cBor, w_eMeth, w_eMetP, w_plVar, w_plIx, w_eSMet, w_yesT, w_tP, w_p2t, w_e2t, w_tTruP, w_tTru, w_tNo, w_tAnd2, w_tOr2, w_iSeq, w_iRange1, w_iRange2, w_iEnumE, rngD_len, w_gNm, w_gTup, w_gsNil, w_gsCons, w_gPut, w_sNil, w_sRet, w_sExpr, w_sAsg, w_sIf, w_sFor, w_sFz, ok_some, ok_map, takeB, giveB, outsOf, wipeE, im_non, im_bl, im_int, im_str, im_tup, im_scr, im_lst, im_dcK, im_dcT, fz_non, fz_bl, fz_int, fz_str, fz_tup, fz_scr, fz_lstT, fz_lst, fz_dcT, fz_dcK, wk_tup, wk_lst, wk_scr, wk_str, sI_tup, sI_lst, tr_bl, lt_int, gt_int, le_int, ge_int, eq_int, ne_int, eq_str, ne_str, ne_bl, eq_bl, add_int, sub_int, neg_int, g_int, g_abs, ix_tup, ix_lst, at0, at1, at2, g_len_tup, g_len_lst, List.getElem?_cons_zero, List.getElem?_cons_succ, List.set_cons_zero, List.set_cons_succ, List.length_cons, List.length_nil, List.map_cons, List.map_nil, List.replicate_succ, List.replicate_zero, List.cons_append, List.nil_append, List.head?_cons, List.tail_cons, Option.join_some, Option.map_some, if_true, if_false, ite_true, ite_false, reduceIte, reduceCtorEq, BEq.rfl, Bool.false_eq_true, Bool.not_true, Bool.not_false, List.all_cons, List.all_nil, Bool.and_true, Bool.true_and, Bool.and_self, true_and, and_true, exists_eq_left, exists_eq_left', D.bl.injEq, D.int.injEq, D.str.injEq, D.tup.injEq, Out.rt.injEq, Nat.lt_add_left_iff_pos, Nat.zero_lt_succ, Nat.reduceAdd, Nat.reduceLT, s_h]
    cases c with
    | beg n => simp only [w_pC, w_pVar, w_pOwn, w_p1, w_p2, w_pSl, w_oNo, w_oSome, w_pTup, w_pCall, w_aNil, w_aCons, w_pIsi, w_pIsi2, w_eP, w_eMove, w_e1, w_e2, w_eTup, w_eLst, w_eFz, w_eCall, w_aNilE, w_aConsE, w_eIf, w_eComp, w_eDc, w_eDef, w_cNil, w_cVal, w_cBor, w_eMeth, w_eMetP, w_plVar, w_plIx, w_eSMet, w_yesT, w_tP, w_p2t, w_e2t, w_tTruP, w_tTru, w_tNo, w_tAnd2, w_tOr2, w_iSeq, w_iRange1, w_iRange2, w_iEnumE, rngD_len, w_gNm, w_gTup, w_gsNil, w_gsCons, w_gPut, w_sNil, w_sRet, w_sExpr, w_sAsg, w_sIf, w_sFor, w_sFz, ok_some, ok_map, takeB, giveB, outsOf, wipeE, im_non, im_bl, im_int, im_str, im_tup, im_scr, im_lst, im_dcK, im_dcT, fz_non, fz_bl, fz_int, fz_str, fz_tup, fz_scr, fz_lstT, fz_lst, fz_dcT, fz_dcK, wk_tup, wk_lst, wk_scr, wk_str, sI_tup, sI_lst, tr_bl, lt_int, gt_int, le_int, ge_int, eq_int, ne_int, eq_str, ne_str, ne_bl, eq_bl, add_int, sub_int, neg_int, g_int, g_abs, ix_tup, ix_lst, at0, at1, at2, g_len_tup, g_len_lst, List.getElem?_cons_zero, List.getElem?_cons_succ, List.set_cons_zero, List.set_cons_succ, List.length_cons, List.length_nil, List.map_cons, List.map_nil, List.replicate_succ, List.replicate_zero, List.cons_append, List.nil_append, List.head?_cons, List.tail_cons, Option.join_some, Option.map_some, if_true, if_false, ite_true, ite_false, reduceIte, reduceCtorEq, BEq.rfl, Bool.false_eq_true, Bool.not_true, Bool.not_false, List.all_cons, List.all_nil, Bool.and_true, Bool.true_and, Bool.and_self, true_and, and_true, exists_eq_left, exists_eq_left', D.bl.injEq, D.int.injEq, D.str.injEq, D.tup.injEq, Out.rt.injEq, Nat.lt_add_left_iff_pos, Nat.zero_lt_succ, Nat.reduceAdd, Nat.reduceLT, s_bt, decide_false, tieP]
    | fin n => simp only [w_pC, w_pVar, w_pOwn, w_p1, w_p2, w_pSl, w_oNo, w_oSome, w_pTup, w_pCall, w_aNil, w_aCons, w_pIsi, w_pIsi2, w_eP, w_eMove, w_e1, w_e2, w_eTup, w_eLst, w_eFz, w_eCall, w_aNilE, w_aConsE, w_eIf, w_eComp, w_eDc, w_eDef, w_cNil, w_cVal, w_cBor, w_eMeth, w_eMetP, w_plVar, w_plIx, w_eSMet, w_yesT, w_tP, w_p2t, w_e2t, w_tTruP, w_tTru, w_tNo, w_tAnd2, w_tOr2, w_iSeq, w_iRange1, w_iRange2, w_iEnumE, rngD_len, w_gNm, w_gTup, w_gsNil, w_gsCons, w_gPut, w_sNil, w_sRet, w_sExpr, w_sAsg, w_sIf, w_sFor, w_sFz, ok_some, ok_map, takeB, giveB, outsOf, wipeE, im_non, im_bl, im_int, im_str, im_tup, im_scr, im_lst, im_dcK, im_dcT, fz_non, fz_bl, fz_int, fz_str, fz_tup, fz_scr, fz_lstT, fz_lst, fz_dcT, fz_dcK, wk_tup, wk_lst, wk_scr, wk_str, sI_tup, sI_lst, tr_bl, lt_int, gt_int, le_int, ge_int, eq_int, ne_int, eq_str, ne_str, ne_bl, eq_bl, add_int, sub_int, neg_int, g_int, g_abs, ix_tup, ix_lst, at0, at1, at2, g_len_tup, g_len_lst, List.getElem?_cons_zero, List.getElem?_cons_succ, List.set_cons_zero, List.set_cons_succ, List.length_cons, List.length_nil, List.map_cons, List.map_nil, List.replicate_succ, List.replicate_zero, List.cons_append, List.nil_append, List.head?_cons, List.tail_cons, Option.join_some, Option.map_some, if_true, if_false, ite_true, ite_false, reduceIte, reduceCtorEq, BEq.rfl, Bool.false_eq_true, Bool.not_true, Bool.not_false, List.all_cons, List.all_nil, Bool.and_true, Bool.true_and, Bool.and_self, true_and, and_true, exists_eq_left, exists_eq_left', D.bl.injEq, D.int.injEq, D.str.injEq, D.tup.injEq, Out.rt.injEq, Nat.lt_add_left_iff_pos, Nat.zero_lt_succ, Nat.reduceAdd, Nat.reduceLT, s_et, decide_false, tieP]
    | tie a b => simp only [w_pC, w_pVar, w_pOwn, w_p1, w_p2, w_pSl, w_oNo, w_oSome, w_pTup, w_pCall, w_aNil, w_aCons, w_pIsi, w_pIsi2, w_eP, w_eMove, w_e1, w_e2, w_eTup, w_eLst, w_eFz, w_eCall, w_aNilE, w_aConsE, w_eIf, w_eComp, w_eDc, w_eDef, w_cNil, w_cVal, w_cBor, w_eMeth, w_eMetP, w_plVar, w_plIx, w_eSMet, w_yesT, w_tP, w_p2t, w_e2t, w_tTruP, w_tTru, w_tNo, w_tAnd2, w_tOr2, w_iSeq, w_iRange1, w_iRange2, w_iEnumE, rngD_len, w_gNm, w_gTup, w_gsNil, w_gsCons, w_gPut, w_sNil, w_sRet, w_sExpr, w_sAsg, w_sIf, w_sFor, w_sFz, ok_some, ok_map, takeB, giveB, outsOf, wipeE, im_non, im_bl, im_int, im_str, im_tup, im_scr, im_lst, im_dcK, im_dcT, fz_non, fz_bl, fz_int, fz_str, fz_tup, fz_scr, fz_lstT, fz_lst, fz_dcT, fz_dcK, wk_tup, wk_lst, wk_scr, wk_str, sI_tup, sI_lst, tr_bl, lt_int, gt_int, le_int, ge_int, eq_int, ne_int, eq_str, ne_str, ne_bl, eq_bl, add_int, sub_int, neg_int, g_int, g_abs, ix_tup, ix_lst, at0, at1, at2, g_len_tup, g_len_lst, List.getElem?_cons_zero, List.getElem?_cons_succ, List.set_cons_zero, List.set_cons_succ, List.length_cons, List.length_nil, List.map_cons, List.map_nil, List.replicate_succ, List.replicate_zero, List.cons_append, List.nil_append, List.head?_cons, List.tail_cons, Option.join_some, Option.map_some, if_true, if_false, ite_true, ite_false, reduceIte, reduceCtorEq, BEq.rfl, Bool.false_eq_true, Bool.not_true, Bool.not_false, List.all_cons, List.all_nil, Bool.and_true, Bool.true_and, Bool.and_self, true_and, and_true, exists_eq_left, exists_eq_left', D.bl.injEq, D.int.injEq, D.str.injEq, D.tup.injEq, Out.rt.injEq, Nat.lt_add_left_iff_pos, Nat.zero_lt_succ, Nat.reduceAdd, Nat.reduceLT, decide_true, condD, tieP, cut3]; exact ⟨(a, b), rfl, rfl⟩
    | hand h m => simp only [w_pC, w_pVar, w_pOwn, w_p1, w_p2, w_pSl, w_oNo, w_oSome, w_pTup, w_pCall, w_aNil, w_aCons, w_pIsi, w_pIsi2, w_eP, w_eMove, w_e1, w_e2, w_eTup, w_eLst, w_eFz, w_eCall, w_aNilE, w_aConsE, w_eIf, w_eComp, w_eDc, w_eDef, w_cNil, w_cVal, w_cBor, w_eMeth, w_eMetP, w_plVar, w_plIx, w_eSMet, w_yesT, w_tP, w_p2t, w_e2t, w_tTruP, w_tTru, w_tNo, w_tAnd2, w_tOr2, w_iSeq, w_iRange1, w_iRange2, w_iEnumE, rngD_len, w_gNm, w_gTup, w_gsNil, w_gsCons, w_gPut, w_sNil, w_sRet, w_sExpr, w_sAsg, w_sIf, w_sFor, w_sFz, ok_some, ok_map, takeB, giveB, outsOf, wipeE, im_non, im_bl, im_int, im_str, im_tup, im_scr, im_lst, im_dcK, im_dcT, fz_non, fz_bl, fz_int, fz_str, fz_tup, fz_scr, fz_lstT, fz_lst, fz_dcT, fz_dcK, wk_tup, wk_lst, wk_scr, wk_str, sI_tup, sI_lst, tr_bl, lt_int, gt_int, le_int, ge_int, eq_int, ne_int, eq_str, ne_str, ne_bl, eq_bl, add_int, sub_int, neg_int, g_int, g_abs, ix_tup, ix_lst, at0, at1, at2, g_len_tup, g_len_lst, List.getElem?_cons_zero, List.getElem?_cons_succ, List.set_cons_zero, List.set_cons_succ, List.length_cons, List.length_nil, List.map_cons, List.map_nil, List.replicate_succ, List.replicate_zero, List.cons_append, List.nil_append, List.head?_cons, List.tail_cons, Option.join_some, Option.map_some, if_true, if_false, ite_true, ite_false, reduceIte, reduceCtorEq, BEq.rfl, Bool.false_eq_true, Bool.not_true, Bool.not_false, List.all_cons, List.all_nil, Bool.and_true, Bool.true_and, Bool.and_self, true_and, and_true, exists_eq_left, exists_eq_left', D.bl.injEq, D.int.injEq, D.str.injEq, D.tup.injEq, Out.rt.injEq, Nat.lt_add_left_iff_pos, Nat.zero_lt_succ, Nat.reduceAdd, Nat.reduceLT, s_ht, decide_false, tieP]
  simp only [wipeE, w_pC, w_pVar, w_pOwn, w_p1, w_p2, w_pSl, w_oNo, w_oSome, w_pTup, w_pCall, w_aNil, w_aCons, w_pIsi, w_pIsi2, w_eP, w_eMove, w_e1, w_e2, w_eTup, w_eLst, w_eFz, w_eCall, w_aNilE, w_aConsE, w_eIf, w_eComp, w_eDc, w_eDef, w_cNil, w_cVal, w_cBor, w_eMeth, w_eMetP, w_plVar, w_plIx, w_eSMet, w_yesT, w_tP, w_p2t, w_e2t, w_tTruP, w_tTru, w_tNo, w_tAnd2, w_tOr2, w_iSeq, w_iRange1, w_iRange2, w_iEnumE, rngD_len, w_gNm, w_gTup, w_gsNil, w_gsCons, w_gPut, w_sNil, w_sRet, w_sExpr, w_sAsg, w_sIf, w_sFor, w_sFz, ok_some, ok_map, takeB, giveB, outsOf, wipeE, im_non, im_bl, im_int, im_str, im_tup, im_scr, im_lst, im_dcK, im_dcT, fz_non, fz_bl, fz_int, fz_str, fz_tup, fz_scr, fz_lstT, fz_lst, fz_dcT, fz_dcK, wk_tup, wk_lst, wk_scr, wk_str, sI_tup, sI_lst, tr_bl, lt_int, gt_int, le_int, ge_int, eq_int, ne_int, eq_str, ne_str, ne_bl, eq_bl, add_int, sub_int, neg_int, g_int, g_abs, ix_tup, ix_lst, at0, at1, at2, g_len_tup, g_len_lst, List.getElem?_cons_zero, List.getElem?_cons_succ, List.set_cons_zero, List.set_cons_succ, List.length_cons, List.length_nil, List.map_cons, List.map_nil, List.replicate_succ, List.replicate_zero, List.cons_append, List.nil_append, List.head?_cons, List.tail_cons, Option.join_some, Option.map_some, if_true, if_false, ite_true, ite_false, reduceIte, reduceCtorEq, BEq.rfl, Bool.false_eq_true, Bool.not_true, Bool.not_false, List.all_cons, List.all_nil, Bool.and_true, Bool.true_and, Bool.and_self, true_and, and_true, exists_eq_left, exists_eq_left', D.bl.injEq, D.int.injEq, D.str.injEq, D.tup.injEq, Out.rt.injEq, Nat.lt_add_left_iff_pos, Nat.zero_lt_succ, Nat.reduceAdd, Nat.reduceLT, fzs_map (cs.filterMap tieP) (f := pairS) (fun _ => rfl)]
  refine seq_ok ?_
  simp only [w_pC, w_pVar, w_pOwn, w_p1, w_p2, w_pSl, w_oNo, w_oSome, w_pTup, w_pCall, w_aNil, w_aCons, w_pIsi, w_pIsi2, w_eP, w_eMove, w_e1, w_e2, w_eTup, w_eLst, w_eFz, w_eCall, w_aNilE, w_aConsE, w_eIf, w_eComp, w_eDc, w_eDef, w_cNil, w_cVal, w_cBor, w_eMeth, w_eMetP, w_plVar, w_plIx, w_eSMet, w_yesT, w_tP, w_p2t, w_e2t, w_tTruP, w_tTru, w_tNo, w_tAnd2, w_tOr2, w_iSeq, w_iRange1, w_iRange2, w_iEnumE, rngD_len, w_gNm, w_gTup, w_gsNil, w_gsCons, w_gPut, w_sNil, w_sRet, w_sExpr, w_sAsg, w_sIf, w_sFor, w_sFz, ok_some, ok_map, takeB, giveB, outsOf, wipeE, im_non, im_bl, im_int, im_str, im_tup, im_scr, im_lst, im_dcK, im_dcT, fz_non, fz_bl, fz_int, fz_str, fz_tup, fz_scr, fz_lstT, fz_lst, fz_dcT, fz_dcK, wk_tup, wk_lst, wk_scr, wk_str, sI_tup, sI_lst, tr_bl, lt_int, gt_int, le_int, ge_int, eq_int, ne_int, eq_str, ne_str, ne_bl, eq_bl, add_int, sub_int, neg_int, g_int, g_abs, ix_tup, ix_lst, at0, at1, at2, g_len_tup, g_len_lst, List.getElem?_cons_zero, List.getElem?_cons_succ, List.set_cons_zero, List.set_cons_succ, List.length_cons, List.length_nil, List.map_cons, List.map_nil, List.replicate_succ, List.replicate_zero, List.cons_append, List.nil_append, List.head?_cons, List.tail_cons, Option.join_some, Option.map_some, if_true, if_false, ite_true, ite_false, reduceIte, reduceCtorEq, BEq.rfl, Bool.false_eq_true, Bool.not_true, Bool.not_false, List.all_cons, List.all_nil, Bool.and_true, Bool.true_and, Bool.and_self, true_and, and_true, exists_eq_left, exists_eq_left', D.bl.injEq, D.int.injEq, D.str.injEq, D.tup.injEq, Out.rt.injEq, Nat.lt_add_left_iff_pos, Nat.zero_lt_succ, Nat.reduceAdd, Nat.reduceLT]
  refine ⟨by decide, ?_⟩
  refine seq_ok ?_
  simp only [w_pC, w_pVar, w_pOwn, w_p1, w_p2, w_pSl, w_oNo, w_oSome, w_pTup, w_pCall, w_aNil, w_aCons, w_pIsi, w_pIsi2, w_eP, w_eMove, w_e1, w_e2, w_eTup, w_eLst, w_eFz, w_eCall, w_aNilE, w_aConsE, w_eIf, w_eComp, w_eDc, w_eDef, w_cNil, w_cVal, w_cBor, w_eMeth, w_eMetP, w_plVar, w_plIx, w_eSMet, w_yesT, w_tP, w_p2t, w_e2t, w_tTruP, w_tTru, w_tNo, w_tAnd2, w_tOr2, w_iSeq, w_iRange1, w_iRange2, w_iEnumE, rngD_len, w_gNm, w_gTup, w_gsNil, w_gsCons, w_gPut, w_sNil, w_sRet, w_sExpr, w_sAsg, w_sIf, w_sFor, w_sFz, ok_some, ok_map, takeB, giveB, outsOf, wipeE, im_non, im_bl, im_int, im_str, im_tup, im_scr, im_lst, im_dcK, im_dcT, fz_non, fz_bl, fz_int, fz_str, fz_tup, fz_scr, fz_lstT, fz_lst, fz_dcT, fz_dcK, wk_tup, wk_lst, wk_scr, wk_str, sI_tup, sI_lst, tr_bl, lt_int, gt_int, le_int, ge_int, eq_int, ne_int, eq_str, ne_str, ne_bl, eq_bl, add_int, sub_int, neg_int, g_int, g_abs, ix_tup, ix_lst, at0, at1, at2, g_len_tup, g_len_lst, List.getElem?_cons_zero, List.getElem?_cons_succ, List.set_cons_zero, List.set_cons_succ, List.length_cons, List.length_nil, List.map_cons, List.map_nil, List.replicate_succ, List.replicate_zero, List.cons_append, List.nil_append, List.head?_cons, List.tail_cons, Option.join_some, Option.map_some, if_true, if_false, ite_true, ite_false, reduceIte, reduceCtorEq, BEq.rfl, Bool.false_eq_true, Bool.not_true, Bool.not_false, List.all_cons, List.all_nil, Bool.and_true, Bool.true_and, Bool.and_self, true_and, and_true, exists_eq_left, exists_eq_left', D.bl.injEq, D.int.injEq, D.str.injEq, D.tup.injEq, Out.rt.injEq, Nat.lt_add_left_iff_pos, Nat.zero_lt_succ, Nat.reduceAdd, Nat.reduceLT]
  refine for_ok (fun i e => ∃ x11 x12 x13, e = [some (.tup [.tup [.tup (S.row.map D.int), .int S.rest], .tup (S.works.map workD), .tup (S.ties.map tieD)]), some (.tup (cs.map condD)), some (.tup [.tup (S.row.map D.int), .int S.rest]), some (.tup (S.works.map workD)), some (.tup (S.ties.map tieD)), some (.lst false (l.map D.int)), none, some (.lst true ((cs.filterMap begN).map D.str)), some (.lst true ((cs.filterMap finN).map D.str)), some (.lst true ((cs.filterMap tieP).map pairS)), some (.lst false (((S.works.take i).map (workW cs)).map workD)), x11, x12, x13, none, none]) ⟨none, none, none, rfl⟩ ?_ ?_
  · rintro i dd e hi ⟨x11, x12, x13, rfl⟩
    obtain ⟨hil, rfl⟩ := at_mapE hi
    have hL : (((S.works.take i).map (workW cs)).map workD).length < 16777216 := by simp only [List.length_map, List.length_take]; omega
    have rl : ∀ l, okRecv "list" (.lst false l) = true := fun _ => rfl
    have tk : (S.works.take (i + 1)).map (workW cs) = (S.works.take i).map (workW cs) ++ [workW cs S.works[i]] := by rw [take_at hil, List.map_append]; rfl
    have i1 := in_strs (z := true) (n := S.works[i].1) (bs := cs.filterMap begN)
    have i2 := in_strs (z := true) (n := S.works[i].1) (bs := cs.filterMap finN)
    rw [show decide (S.works[i].1 ∈ cs.filterMap begN) = decide (Cond.beg S.works[i].1 ∈ cs) from by simp only [mem_begN]] at i1
    rw [show decide (S.works[i].1 ∈ cs.filterMap finN) = decide (Cond.fin S.works[i].1 ∈ cs) from by simp only [mem_finN]] at i2
    simp only [workD, w_pC, w_pVar, w_pOwn, w_p1, w_p2, w_pSl, w_oNo, w_oSome, w_pTup, w_pCall, w_aNil, w_aCons, w_pIsi, w_pIsi2, w_eP, w_eMove, w_e1, w_e2, w_eTup, w_eLst, w_eFz, w_eCall, w_aNilE, w_aConsE, w_eIf, w_eComp, w_eDc, w_eDef, w_cNil, w_cVal, w_cBor, w_eMeth, w_eMetP, w_plVar, w_plIx, w_eSMet, w_yesT, w_tP, w_p2t, w_e2t, w_tTruP, w_tTru, w_tNo, w_tAnd2, w_tOr2, w_iSeq, w_iRange1, w_iRange2, w_iEnumE, rngD_len, w_gNm, w_gTup, w_gsNil, w_gsCons, w_gPut, w_sNil, w_sRet, w_sExpr, w_sAsg, w_sIf, w_sFor, w_sFz, ok_some, ok_map, takeB, giveB, outsOf, wipeE, im_non, im_bl, im_int, im_str, im_tup, im_scr, im_lst, im_dcK, im_dcT, fz_non, fz_bl, fz_int, fz_str, fz_tup, fz_scr, fz_lstT, fz_lst, fz_dcT, fz_dcK, wk_tup, wk_lst, wk_scr, wk_str, sI_tup, sI_lst, tr_bl, lt_int, gt_int, le_int, ge_int, eq_int, ne_int, eq_str, ne_str, ne_bl, eq_bl, add_int, sub_int, neg_int, g_int, g_abs, ix_tup, ix_lst, at0, at1, at2, g_len_tup, g_len_lst, List.getElem?_cons_zero, List.getElem?_cons_succ, List.set_cons_zero, List.set_cons_succ, List.length_cons, List.length_nil, List.map_cons, List.map_nil, List.replicate_succ, List.replicate_zero, List.cons_append, List.nil_append, List.head?_cons, List.tail_cons, Option.join_some, Option.map_some, if_true, if_false, ite_true, ite_false, reduceIte, reduceCtorEq, BEq.rfl, Bool.false_eq_true, Bool.not_true, Bool.not_false, List.all_cons, List.all_nil, Bool.and_true, Bool.true_and, Bool.and_self, true_and, and_true, exists_eq_left, exists_eq_left', D.bl.injEq, D.int.injEq, D.str.injEq, D.tup.injEq, Out.rt.injEq, Nat.lt_add_left_iff_pos, Nat.zero_lt_succ, Nat.reduceAdd, Nat.reduceLT, rl]
    by_cases b1 : Cond.beg S.works[i].1 ∈ cs <;> by_cases b2 : Cond.fin S.works[i].1 ∈ cs
    all_goals
      simp only [w_pC, w_pVar, w_pOwn, w_p1, w_p2, w_pSl, w_oNo, w_oSome, w_pTup, w_pCall, w_aNil, w_aCons, w_pIsi, w_pIsi2, w_eP, w_eMove, w_e1, w_e2, w_eTup, w_eLst, w_eFz, w_eCall, w_aNilE, w_aConsE, w_eIf, w_eComp, w_eDc, w_eDef, w_cNil, w_cVal, w_cBor, w_eMeth, w_eMetP, w_plVar, w_plIx, w_eSMet, w_yesT, w_tP, w_p2t, w_e2t, w_tTruP, w_tTru, w_tNo, w_tAnd2, w_tOr2, w_iSeq, w_iRange1, w_iRange2, w_iEnumE, rngD_len, w_gNm, w_gTup, w_gsNil, w_gsCons, w_gPut, w_sNil, w_sRet, w_sExpr, w_sAsg, w_sIf, w_sFor, w_sFz, ok_some, ok_map, takeB, giveB, outsOf, wipeE, im_non, im_bl, im_int, im_str, im_tup, im_scr, im_lst, im_dcK, im_dcT, fz_non, fz_bl, fz_int, fz_str, fz_tup, fz_scr, fz_lstT, fz_lst, fz_dcT, fz_dcK, wk_tup, wk_lst, wk_scr, wk_str, sI_tup, sI_lst, tr_bl, lt_int, gt_int, le_int, ge_int, eq_int, ne_int, eq_str, ne_str, ne_bl, eq_bl, add_int, sub_int, neg_int, g_int, g_abs, ix_tup, ix_lst, at0, at1, at2, g_len_tup, g_len_lst, List.getElem?_cons_zero, List.getElem?_cons_succ, List.set_cons_zero, List.set_cons_succ, List.length_cons, List.length_nil, List.map_cons, List.map_nil, List.replicate_succ, List.replicate_zero, List.cons_append, List.nil_append, List.head?_cons, List.tail_cons, Option.join_some, Option.map_some, if_true, if_false, ite_true, ite_false, reduceIte, reduceCtorEq, BEq.rfl, Bool.false_eq_true, Bool.not_true, Bool.not_false, List.all_cons, List.all_nil, Bool.and_true, Bool.true_and, Bool.and_self, true_and, and_true, exists_eq_left, exists_eq_left', D.bl.injEq, D.int.injEq, D.str.injEq, D.tup.injEq, Out.rt.injEq, Nat.lt_add_left_iff_pos, Nat.zero_lt_succ, Nat.reduceAdd, Nat.reduceLT, i1, b1, i2, b2, rl, decide_true, decide_false, app_lst hL]
      refine ⟨by decide, some (.str S.works[i].1), some (.int S.works[i].2.1), some (.int S.works[i].2.2), ?_⟩
      rw [tk, List.map_append]
      simp [workW, workD, b1, b2]
  rintro e ⟨x11, x12, x13, rfl⟩
  rw [List.length_map, List.take_length]
  refine ⟨rfl, ?_⟩
  subst el
  simp only [w_pC, w_pVar, w_pOwn, w_p1, w_p2, w_pSl, w_oNo, w_oSome, w_pTup, w_pCall, w_aNil, w_aCons, w_pIsi, w_pIsi2, w_eP, w_eMove, w_e1, w_e2, w_eTup, w_eLst, w_eFz, w_eCall, w_aNilE, w_aConsE, w_eIf, w_eComp, w_eDc, w_eDef, w_cNil, w_cVal, w_cBor, w_eMeth, w_eMetP, w_plVar, w_plIx, w_eSMet, w_yesT, w_tP, w_p2t, w_e2t, w_tTruP, w_tTru, w_tNo, w_tAnd2, w_tOr2, w_iSeq, w_iRange1, w_iRange2, w_iEnumE, rngD_len, w_gNm, w_gTup, w_gsNil, w_gsCons, w_gPut, w_sNil, w_sRet, w_sExpr, w_sAsg, w_sIf, w_sFor, w_sFz, ok_some, ok_map, takeB, giveB, outsOf, wipeE, im_non, im_bl, im_int, im_str, im_tup, im_scr, im_lst, im_dcK, im_dcT, fz_non, fz_bl, fz_int, fz_str, fz_tup, fz_scr, fz_lstT, fz_lst, fz_dcT, fz_dcK, wk_tup, wk_lst, wk_scr, wk_str, sI_tup, sI_lst, tr_bl, lt_int, gt_int, le_int, ge_int, eq_int, ne_int, eq_str, ne_str, ne_bl, eq_bl, add_int, sub_int, neg_int, g_int, g_abs, ix_tup, ix_lst, at0, at1, at2, g_len_tup, g_len_lst, List.getElem?_cons_zero, List.getElem?_cons_succ, List.set_cons_zero, List.set_cons_succ, List.length_cons, List.length_nil, List.map_cons, List.map_nil, List.replicate_succ, List.replicate_zero, List.cons_append, List.nil_append, List.head?_cons, List.tail_cons, Option.join_some, Option.map_some, if_true, if_false, ite_true, ite_false, reduceIte, reduceCtorEq, BEq.rfl, Bool.false_eq_true, Bool.not_true, Bool.not_false, List.all_cons, List.all_nil, Bool.and_true, Bool.true_and, Bool.and_self, true_and, and_true, exists_eq_left, exists_eq_left', D.bl.injEq, D.int.injEq, D.str.injEq, D.tup.injEq, Out.rt.injEq, Nat.lt_add_left_iff_pos, Nat.zero_lt_succ, Nat.reduceAdd, Nat.reduceLT]
  have imo : isImm (.lst false ((newRow S.row cs).map D.int)) = false := rfl
  refine plain_w (l := newRow S.row cs) (g_list_lst (ints_imm _)) (by omega) ?_
  simp only [w_pC, w_pVar, w_pOwn, w_p1, w_p2, w_pSl, w_oNo, w_oSome, w_pTup, w_pCall, w_aNil, w_aCons, w_pIsi, w_pIsi2, w_eP, w_eMove, w_e1, w_e2, w_eTup, w_eLst, w_eFz, w_eCall, w_aNilE, w_aConsE, w_eIf, w_eComp, w_eDc, w_eDef, w_cNil, w_cVal, w_cBor, w_eMeth, w_eMetP, w_plVar, w_plIx, w_eSMet, w_yesT, w_tP, w_p2t, w_e2t, w_tTruP, w_tTru, w_tNo, w_tAnd2, w_tOr2, w_iSeq, w_iRange1, w_iRange2, w_iEnumE, rngD_len, w_gNm, w_gTup, w_gsNil, w_gsCons, w_gPut, w_sNil, w_sRet, w_sExpr, w_sAsg, w_sIf, w_sFor, w_sFz, ok_some, ok_map, takeB, giveB, outsOf, wipeE, im_non, im_bl, im_int, im_str, im_tup, im_scr, im_lst, im_dcK, im_dcT, fz_non, fz_bl, fz_int, fz_str, fz_tup, fz_scr, fz_lstT, fz_lst, fz_dcT, fz_dcK, wk_tup, wk_lst, wk_scr, wk_str, sI_tup, sI_lst, tr_bl, lt_int, gt_int, le_int, ge_int, eq_int, ne_int, eq_str, ne_str, ne_bl, eq_bl, add_int, sub_int, neg_int, g_int, g_abs, ix_tup, ix_lst, at0, at1, at2, g_len_tup, g_len_lst, List.getElem?_cons_zero, List.getElem?_cons_succ, List.set_cons_zero, List.set_cons_succ, List.length_cons, List.length_nil, List.map_cons, List.map_nil, List.replicate_succ, List.replicate_zero, List.cons_append, List.nil_append, List.head?_cons, List.tail_cons, Option.join_some, Option.map_some, if_true, if_false, ite_true, ite_false, reduceIte, reduceCtorEq, BEq.rfl, Bool.false_eq_true, Bool.not_true, Bool.not_false, List.all_cons, List.all_nil, Bool.and_true, Bool.true_and, Bool.and_self, true_and, and_true, exists_eq_left, exists_eq_left', D.bl.injEq, D.int.injEq, D.str.injEq, D.tup.injEq, Out.rt.injEq, Nat.lt_add_left_iff_pos, Nat.zero_lt_succ, Nat.reduceAdd, Nat.reduceLT, imo, g_tuple (all_map (S.works.map (workW cs)) (fun t => (rfl : isImm (workD t) = true)))]
  refine comp_fm (h := tieD) (tieW cs) (by rfl) (fun t mt => ?_) (by rw [List.length_nil]; omega) ?_
  · have e1 := notin_pairs (a := t.1) (b := t.2.1) (ps := cs.filterMap tieP) (h6 t mt).1 (h6 t mt).2 fun p mp => by
      obtain ⟨a, b⟩ := p
      exact hc.oks a b (mem_tieP.mp mp)
    rw [show decide ((t.1, t.2.1) ∈ cs.filterMap tieP) = decide (Cond.tie t.1 t.2.1 ∈ cs) from by simp only [mem_tieP]] at e1
    simp only [wipeE, tieD, w_pC, w_pVar, w_pOwn, w_p1, w_p2, w_pSl, w_oNo, w_oSome, w_pTup, w_pCall, w_aNil, w_aCons, w_pIsi, w_pIsi2, w_eP, w_eMove, w_e1, w_e2, w_eTup, w_eLst, w_eFz, w_eCall, w_aNilE, w_aConsE, w_eIf, w_eComp, w_eDc, w_eDef, w_cNil, w_cVal, w_cBor, w_eMeth, w_eMetP, w_plVar, w_plIx, w_eSMet, w_yesT, w_tP, w_p2t, w_e2t, w_tTruP, w_tTru, w_tNo, w_tAnd2, w_tOr2, w_iSeq, w_iRange1, w_iRange2, w_iEnumE, rngD_len, w_gNm, w_gTup, w_gsNil, w_gsCons, w_gPut, w_sNil, w_sRet, w_sExpr, w_sAsg, w_sIf, w_sFor, w_sFz, ok_some, ok_map, takeB, giveB, outsOf, wipeE, im_non, im_bl, im_int, im_str, im_tup, im_scr, im_lst, im_dcK, im_dcT, fz_non, fz_bl, fz_int, fz_str, fz_tup, fz_scr, fz_lstT, fz_lst, fz_dcT, fz_dcK, wk_tup, wk_lst, wk_scr, wk_str, sI_tup, sI_lst, tr_bl, lt_int, gt_int, le_int, ge_int, eq_int, ne_int, eq_str, ne_str, ne_bl, eq_bl, add_int, sub_int, neg_int, g_int, g_abs, ix_tup, ix_lst, at0, at1, at2, g_len_tup, g_len_lst, List.getElem?_cons_zero, List.getElem?_cons_succ, List.set_cons_zero, List.set_cons_succ, List.length_cons, List.length_nil, List.map_cons, List.map_nil, List.replicate_succ, List.replicate_zero, List.cons_append, List.nil_append, List.head?_cons, List.tail_cons, Option.join_some, Option.map_some, if_true, if_false, ite_true, ite_false, reduceIte, reduceCtorEq, BEq.rfl, Bool.false_eq_true, Bool.not_true, Bool.not_false, List.all_cons, List.all_nil, Bool.and_true, Bool.true_and, Bool.and_self, true_and, and_true, exists_eq_left, exists_eq_left', D.bl.injEq, D.int.injEq, D.str.injEq, D.tup.injEq, Out.rt.injEq, Nat.lt_add_left_iff_pos, Nat.zero_lt_succ, Nat.reduceAdd, Nat.reduceLT, cut2, e1, tieW]
    by_cases b1 : Cond.tie t.1 t.2.1 ∈ cs
    · simp only [w_pC, w_pVar, w_pOwn, w_p1, w_p2, w_pSl, w_oNo, w_oSome, w_pTup, w_pCall, w_aNil, w_aCons, w_pIsi, w_pIsi2, w_eP, w_eMove, w_e1, w_e2, w_eTup, w_eLst, w_eFz, w_eCall, w_aNilE, w_aConsE, w_eIf, w_eComp, w_eDc, w_eDef, w_cNil, w_cVal, w_cBor, w_eMeth, w_eMetP, w_plVar, w_plIx, w_eSMet, w_yesT, w_tP, w_p2t, w_e2t, w_tTruP, w_tTru, w_tNo, w_tAnd2, w_tOr2, w_iSeq, w_iRange1, w_iRange2, w_iEnumE, rngD_len, w_gNm, w_gTup, w_gsNil, w_gsCons, w_gPut, w_sNil, w_sRet, w_sExpr, w_sAsg, w_sIf, w_sFor, w_sFz, ok_some, ok_map, takeB, giveB, outsOf, wipeE, im_non, im_bl, im_int, im_str, im_tup, im_scr, im_lst, im_dcK, im_dcT, fz_non, fz_bl, fz_int, fz_str, fz_tup, fz_scr, fz_lstT, fz_lst, fz_dcT, fz_dcK, wk_tup, wk_lst, wk_scr, wk_str, sI_tup, sI_lst, tr_bl, lt_int, gt_int, le_int, ge_int, eq_int, ne_int, eq_str, ne_str, ne_bl, eq_bl, add_int, sub_int, neg_int, g_int, g_abs, ix_tup, ix_lst, at0, at1, at2, g_len_tup, g_len_lst, List.getElem?_cons_zero, List.getElem?_cons_succ, List.set_cons_zero, List.set_cons_succ, List.length_cons, List.length_nil, List.map_cons, List.map_nil, List.replicate_succ, List.replicate_zero, List.cons_append, List.nil_append, List.head?_cons, List.tail_cons, Option.join_some, Option.map_some, if_true, if_false, ite_true, ite_false, reduceIte, reduceCtorEq, BEq.rfl, Bool.false_eq_true, Bool.not_true, Bool.not_false, List.all_cons, List.all_nil, Bool.and_true, Bool.true_and, Bool.and_self, true_and, and_true, exists_eq_left, exists_eq_left', D.bl.injEq, D.int.injEq, D.str.injEq, D.tup.injEq, Out.rt.injEq, Nat.lt_add_left_iff_pos, Nat.zero_lt_succ, Nat.reduceAdd, Nat.reduceLT, b1, decide_true]
    · simp only [w_pC, w_pVar, w_pOwn, w_p1, w_p2, w_pSl, w_oNo, w_oSome, w_pTup, w_pCall, w_aNil, w_aCons, w_pIsi, w_pIsi2, w_eP, w_eMove, w_e1, w_e2, w_eTup, w_eLst, w_eFz, w_eCall, w_aNilE, w_aConsE, w_eIf, w_eComp, w_eDc, w_eDef, w_cNil, w_cVal, w_cBor, w_eMeth, w_eMetP, w_plVar, w_plIx, w_eSMet, w_yesT, w_tP, w_p2t, w_e2t, w_tTruP, w_tTru, w_tNo, w_tAnd2, w_tOr2, w_iSeq, w_iRange1, w_iRange2, w_iEnumE, rngD_len, w_gNm, w_gTup, w_gsNil, w_gsCons, w_gPut, w_sNil, w_sRet, w_sExpr, w_sAsg, w_sIf, w_sFor, w_sFz, ok_some, ok_map, takeB, giveB, outsOf, wipeE, im_non, im_bl, im_int, im_str, im_tup, im_scr, im_lst, im_dcK, im_dcT, fz_non, fz_bl, fz_int, fz_str, fz_tup, fz_scr, fz_lstT, fz_lst, fz_dcT, fz_dcK, wk_tup, wk_lst, wk_scr, wk_str, sI_tup, sI_lst, tr_bl, lt_int, gt_int, le_int, ge_int, eq_int, ne_int, eq_str, ne_str, ne_bl, eq_bl, add_int, sub_int, neg_int, g_int, g_abs, ix_tup, ix_lst, at0, at1, at2, g_len_tup, g_len_lst, List.getElem?_cons_zero, List.getElem?_cons_succ, List.set_cons_zero, List.set_cons_succ, List.length_cons, List.length_nil, List.map_cons, List.map_nil, List.replicate_succ, List.replicate_zero, List.cons_append, List.nil_append, List.head?_cons, List.tail_cons, Option.join_some, Option.map_some, if_true, if_false, ite_true, ite_false, reduceIte, reduceCtorEq, BEq.rfl, Bool.false_eq_true, Bool.not_true, Bool.not_false, List.all_cons, List.all_nil, Bool.and_true, Bool.true_and, Bool.and_self, true_and, and_true, exists_eq_left, exists_eq_left', D.bl.injEq, D.int.injEq, D.str.injEq, D.tup.injEq, Out.rt.injEq, Nat.lt_add_left_iff_pos, Nat.zero_lt_succ, Nat.reduceAdd, Nat.reduceLT, b1, decide_false]
      exact ⟨t, rfl, rfl⟩
  simp only [wipeE, w_pC, w_pVar, w_pOwn, w_p1, w_p2, w_pSl, w_oNo, w_oSome, w_pTup, w_pCall, w_aNil, w_aCons, w_pIsi, w_pIsi2, w_eP, w_eMove, w_e1, w_e2, w_eTup, w_eLst, w_eFz, w_eCall, w_aNilE, w_aConsE, w_eIf, w_eComp, w_eDc, w_eDef, w_cNil, w_cVal, w_cBor, w_eMeth, w_eMetP, w_plVar, w_plIx, w_eSMet, w_yesT, w_tP, w_p2t, w_e2t, w_tTruP, w_tTru, w_tNo, w_tAnd2, w_tOr2, w_iSeq, w_iRange1, w_iRange2, w_iEnumE, rngD_len, w_gNm, w_gTup, w_gsNil, w_gsCons, w_gPut, w_sNil, w_sRet, w_sExpr, w_sAsg, w_sIf, w_sFor, w_sFz, ok_some, ok_map, takeB, giveB, outsOf, wipeE, im_non, im_bl, im_int, im_str, im_tup, im_scr, im_lst, im_dcK, im_dcT, fz_non, fz_bl, fz_int, fz_str, fz_tup, fz_scr, fz_lstT, fz_lst, fz_dcT, fz_dcK, wk_tup, wk_lst, wk_scr, wk_str, sI_tup, sI_lst, tr_bl, lt_int, gt_int, le_int, ge_int, eq_int, ne_int, eq_str, ne_str, ne_bl, eq_bl, add_int, sub_int, neg_int, g_int, g_abs, ix_tup, ix_lst, at0, at1, at2, g_len_tup, g_len_lst, List.getElem?_cons_zero, List.getElem?_cons_succ, List.set_cons_zero, List.set_cons_succ, List.length_cons, List.length_nil, List.map_cons, List.map_nil, List.replicate_succ, List.replicate_zero, List.cons_append, List.nil_append, List.head?_cons, List.tail_cons, Option.join_some, Option.map_some, if_true, if_false, ite_true, ite_false, reduceIte, reduceCtorEq, BEq.rfl, Bool.false_eq_true, Bool.not_true, Bool.not_false, List.all_cons, List.all_nil, Bool.and_true, Bool.true_and, Bool.and_self, true_and, and_true, exists_eq_left, exists_eq_left', D.bl.injEq, D.int.injEq, D.str.injEq, D.tup.injEq, Out.rt.injEq, Nat.lt_add_left_iff_pos, Nat.zero_lt_succ, Nat.reduceAdd, Nat.reduceLT, g_tuple (all_map (S.ties.filterMap (tieW cs)) (fun t => (rfl : isImm (tieD t) = true)))]
  exact ⟨by decide, q⟩

/-! ### sizes; what is left without all conditions -/
theorem nodesL_map {α : Type} {f : α → D} {k : Nat} (h : ∀ a, nodes (f a) ≤ k) : ∀ l : List α, nodesL (l.map f) ≤ k * l.length
  | [] => by simp [nodesL]
  | a :: l => by
    have := h a
    have := nodesL_map h l
    simp only [List.map_cons, nodesL, List.length_cons, Nat.mul_succ]
    omega
theorem plainL_map {α : Type} {f : α → D} (h : ∀ a, plainD (f a) = true) : ∀ l : List α, plainL (l.map f) = true
  | [] => by simp [plainL]
  | a :: l => by simp only [List.map_cons, plainL, h a, plainL_map h l, Bool.and_self]
theorem cond_plain (c : Cond) : plainD (condD c) = true := by cases c <;> simp [condD, plainD, plainL]
theorem cond_nodes (c : Cond) : nodes (condD c) ≤ 4 := by cases c <;> simp [condD, nodes, nodesL]
theorem sheet_plain (S : Sheet) : plainD (sheetD S) = true := by
  simp only [sheetD, plainD, plainL, Bool.and_true]
  rw [plainL_map (f := D.int) (fun _ => rfl), plainL_map (f := workD) (fun _ => by simp [workD, plainD, plainL]), plainL_map (f := tieD) (fun _ => by simp [tieD, plainD, plainL])]
  rfl
theorem sheet_nodes {S : Sheet} (h : S.Fine) : nodes (sheetD S) ≤ 16777216 := by
  obtain ⟨h1, _, _, h3, h4, _⟩ := h
  have a := nodesL_map (f := D.int) (k := 1) (fun _ => Nat.le_refl _) S.row
  have b := nodesL_map (f := workD) (k := 4) (fun _ => by simp [workD, nodes, nodesL]) S.works
  have c := nodesL_map (f := tieD) (k := 4) (fun _ => by simp [tieD, nodes, nodesL]) S.ties
  simp only [sheetD, nodes, nodesL]
  omega
theorem conds_len {S : Sheet} (h : S.Fine) : (conds S).length ≤ 2280 := by
  obtain ⟨h1, h2, _, h3, h4, _⟩ := h
  have a := fm_len begC S.works
  have b := fm_len finC S.works
  have c := handsTo_len h2 S.row.length (Nat.le_refl _)
  unfold conds
  simp only [List.length_append, List.length_map]
  omega
theorem conds_plain (cs : List Cond) : plainD (.tup (cs.map condD)) = true := by simp only [plainD]; exact plainL_map cond_plain cs
theorem conds_nodes {cs : List Cond} (h : cs.length ≤ 100000) : nodes (.tup (cs.map condD)) ≤ 16777216 := by
  have := nodesL_map cond_nodes cs
  simp only [nodes]
  omega
theorem mem_handsTo {row : List Int} {n h : Nat} {m : Int} : Cond.hand h m ∈ handsTo row n ↔ h < n ∧ ∃ k, k < (2 - row.getD h 0).toNat ∧ m = row.getD h 0 + (k : Nat) := by
  unfold handsTo handsAt
  simp only [List.mem_flatMap, List.mem_range, List.mem_map]
  constructor
  · rintro ⟨a, ha, k, hk, e⟩
    cases e
    exact ⟨ha, k, hk, rfl⟩
  · rintro ⟨ha, k, hk, rfl⟩
    exact ⟨h, ha, k, hk, rfl⟩
theorem hands_only {row : List Int} {n : Nat} {c : Cond} (h : c ∈ handsTo row n) : ∃ a m, c = .hand a m := by
  unfold handsTo handsAt at h
  simp only [List.mem_flatMap, List.mem_map] at h
  obtain ⟨a, _, k, _, e⟩ := h
  exact ⟨_, _, e.symm⟩
theorem beg_mem {S : Sheet} {n : Str} : .beg n ∈ conds S ↔ ∃ w ∈ S.works, 0 < w.2.1 ∧ w.1 = n := by
  unfold conds
  simp only [List.mem_append, List.mem_filterMap, List.mem_map]
  constructor
  · rintro (((⟨w, m, e⟩ | ⟨w, m, e⟩) | h) | ⟨t, m, e⟩)
    · unfold begC at e; split at e
      · cases e; rename_i h; exact ⟨w, m, h, rfl⟩
      · cases e
    · unfold finC at e; split at e <;> cases e
    · obtain ⟨_, _, e⟩ := hands_only h; cases e
    · cases e
  · rintro ⟨w, m, h, rfl⟩
    exact .inl (.inl (.inl ⟨w, m, by unfold begC; rw [if_pos h]⟩))
theorem fin_mem {S : Sheet} {n : Str} : .fin n ∈ conds S ↔ ∃ w ∈ S.works, w.2.2 < 1000 ∧ w.1 = n := by
  unfold conds
  simp only [List.mem_append, List.mem_filterMap, List.mem_map]
  constructor
  · rintro (((⟨w, m, e⟩ | ⟨w, m, e⟩) | h) | ⟨t, m, e⟩)
    · unfold begC at e; split at e <;> cases e
    · unfold finC at e; split at e
      · cases e; rename_i h; exact ⟨w, m, h, rfl⟩
      · cases e
    · obtain ⟨_, _, e⟩ := hands_only h; cases e
    · cases e
  · rintro ⟨w, m, h, rfl⟩
    exact .inl (.inl (.inr ⟨w, m, by unfold finC; rw [if_pos h]⟩))
theorem tie_mem {S : Sheet} {a b : Str} : .tie a b ∈ conds S ↔ ∃ t ∈ S.ties, t.1 = a ∧ t.2.1 = b := by
  unfold conds
  simp only [List.mem_append, List.mem_filterMap, List.mem_map]
  constructor
  · rintro (((⟨w, m, e⟩ | ⟨w, m, e⟩) | h) | ⟨t, m, e⟩)
    · unfold begC at e; split at e <;> cases e
    · unfold finC at e; split at e <;> cases e
    · obtain ⟨_, _, e⟩ := hands_only h; cases e
    · cases e; exact ⟨t, m, rfl, rfl⟩
  · rintro ⟨t, m, rfl, rfl⟩
    exact .inr ⟨t, m, rfl⟩
theorem hand_mem {S : Sheet} {h : Nat} {m : Int} : .hand h m ∈ conds S ↔ h < S.row.length ∧ S.row.getD h 0 ≤ m ∧ m < 2 := by
  unfold conds
  simp only [List.mem_append, List.mem_filterMap, List.mem_map]
  constructor
  · rintro (((⟨w, _, e⟩ | ⟨w, _, e⟩) | h) | ⟨t, _, e⟩)
    · unfold begC at e; split at e <;> cases e
    · unfold finC at e; split at e <;> cases e
    · obtain ⟨a, k, hk, rfl⟩ := mem_handsTo.mp h
      exact ⟨a, by omega, by omega⟩
    · cases e
  · rintro ⟨a, b, c⟩
    refine .inl (.inr (mem_handsTo.mpr ⟨a, (m - S.row.getD h 0).toNat, by omega, by omega⟩))
theorem conds_ok {S : Sheet} (hS : S.Fine) : CsOk S.row (conds S) := by
  refine ⟨fun h m e => ?_, fun a b e => ?_⟩
  · obtain ⟨h1, h2, h3⟩ := hand_mem.mp e
    refine ⟨h1, ?_, h3⟩
    simpa [List.getD_eq_getElem?_getD, h1] using h2
  · obtain ⟨t, m, rfl, rfl⟩ := tie_mem.mp e
    exact hS.oks t m
theorem newAt_bound {r0 : Int} {h : Nat} {cs : List Cond} (h0 : 0 ≤ r0) (h1 : r0 ≤ 1000) : 0 ≤ newAt r0 h cs ∧ newAt r0 h cs ≤ 1000 := by
  unfold newAt
  split
  · omega
  · split <;> omega
theorem newRow_mem {row : List Int} {cs : List Cond} {x : Int} (h : x ∈ newRow row cs) : ∃ i, ∃ hi : i < row.length, x = newAt row[i] i cs := by
  unfold newRow at h
  obtain ⟨i, mi, rfl⟩ := List.mem_map.mp h
  have hi := List.mem_range.mp mi
  exact ⟨i, hi, by simp [List.getD_eq_getElem?_getD, hi]⟩
theorem rstrip_mem {r x : Int} {l : List Int} (h : x ∈ rstrip r l) : x ∈ l := by
  obtain ⟨t, e⟩ := rstrip_pre r l
  rw [e]; exact List.mem_append_left _ h
theorem without_fine {S : Sheet} (hS : S.Fine) (cs : List Cond) : (withoutS S cs).Fine := by
  obtain ⟨h1, h2, h5, h3, h4, h6⟩ := hS
  refine ⟨?_, fun x m => ?_, fun x m => ?_, ?_, ?_, fun t m => ?_⟩
  · have a := rstrip_le S.rest (newRow S.row cs)
    have b : (newRow S.row cs).length = S.row.length := by simp [newRow]
    show (rstrip S.rest (newRow S.row cs)).length ≤ 1000
    omega
  · obtain ⟨i, hi, rfl⟩ := newRow_mem (rstrip_mem m)
    exact (newAt_bound (h2 _ (List.getElem_mem hi)) (h5 _ (List.getElem_mem hi))).1
  · obtain ⟨i, hi, rfl⟩ := newRow_mem (rstrip_mem m)
    exact (newAt_bound (h2 _ (List.getElem_mem hi)) (h5 _ (List.getElem_mem hi))).2
  · show (S.works.map (workW cs)).length ≤ 40
    rw [List.length_map]; exact h3
  · have := fm_len (tieW cs) S.ties
    show (S.ties.filterMap (tieW cs)).length ≤ 200
    omega
  · obtain ⟨t', m', e⟩ := List.mem_filterMap.mp m
    unfold tieW at e
    split at e
    · cases e
    · cases e; exact h6 _ m'
theorem conds_none {S : Sheet} (hS : S.Fine) : conds (withoutS S (conds S)) = [] := by
  have hc := conds_ok hS
  obtain ⟨h1, h2, h5, h3, h4, h6⟩ := hS
  apply List.eq_nil_iff_forall_not_mem.mpr
  intro c m
  cases c with
  | beg n =>
    obtain ⟨w, mw, hw, _⟩ := beg_mem.mp m
    obtain ⟨w', mw', rfl⟩ := List.mem_map.mp (show w ∈ S.works.map (workW (conds S)) from mw)
    simp only [workW] at hw
    by_cases b : Cond.beg w'.1 ∈ conds S
    · rw [if_pos b] at hw; omega
    · rw [if_neg b] at hw
      exact b (beg_mem.mpr ⟨w', mw', hw, rfl⟩)
  | fin n =>
    obtain ⟨w, mw, hw, _⟩ := fin_mem.mp m
    obtain ⟨w', mw', rfl⟩ := List.mem_map.mp (show w ∈ S.works.map (workW (conds S)) from mw)
    simp only [workW] at hw
    by_cases b : Cond.fin w'.1 ∈ conds S
    · rw [if_pos b] at hw; omega
    · rw [if_neg b] at hw
      exact b (fin_mem.mpr ⟨w', mw', hw, rfl⟩)
  | tie a b =>
    obtain ⟨t, mt, _, _⟩ := tie_mem.mp m
    obtain ⟨t', mt', e⟩ := List.mem_filterMap.mp (show t ∈ S.ties.filterMap (tieW (conds S)) from mt)
    unfold tieW at e
    rw [if_pos (tie_mem.mpr ⟨t', mt', rfl, rfl⟩)] at e
    cases e
  | hand h k =>
    obtain ⟨a, b, c⟩ := hand_mem.mp m
    have mx : (withoutS S (conds S)).row[h] ∈ rstrip S.rest (newRow S.row (conds S)) := List.getElem_mem a
    obtain ⟨i, hi, e⟩ := newRow_mem (rstrip_mem mx)
    have b' : (withoutS S (conds S)).row[h] ≤ k := by simpa [List.getD_eq_getElem?_getD, a] using b
    rw [e] at b'
    have : 2 ≤ newAt S.row[i] i (conds S) := by
      by_cases h2' : S.row[i] < 2
      · have : Cond.hand i 1 ∈ conds S := hand_mem.mpr ⟨hi, by simp [List.getD_eq_getElem?_getD, hi]; omega, by omega⟩
        unfold newAt
        rw [if_pos this]
        omega
      · unfold newAt
        split
        · omega
        · split
          · rename_i m0
            obtain ⟨_, q1, q2⟩ := hc.of _ _ m0
            omega
          · omega
    omega

/-! ### what is asked of a sheet -/
def partD (cs : List Cond) : D := .tup (cs.map condD)
theorem part_imm (l : List (List Cond)) : (l.map partD).all isImm = true := all_map _ fun _ => rfl
def Part (S : Sheet) (cs : List Cond) : Prop := (∀ c ∈ cs, c ∈ conds S) ∧ cs.length ≤ 2280
def selH (c : Cond) : Option Cond := match c with
  | .hand _ m => if m = 1 then some c else none
  | _ => none
theorem selH_mem {cs : List Cond} {c : Cond} (h : c ∈ cs.filterMap selH) : c ∈ cs := by
  obtain ⟨d, m, e⟩ := List.mem_filterMap.mp h
  cases d with
  | hand a b =>
    simp only [selH] at e
    split at e
    · cases e; exact m
    · cases e
  | _ => cases e
theorem asked_w {p : D} {S : Sheet} {each : Bool} {Q : D × List (Option D) → Prop} (hp : Pool p) (hS : S.Fine) (q : ∀ p', Pool p' → Q (.bl true, [some p', some (sheetD S), some (.bl each)])) : Ok (F__law_asked [p, sheetD S, .bl each]) Q := by
  have im : isImm (sheetD S) = true := rfl
  have hlen := conds_len hS
  have hok := conds_ok hS
  refine fn_ok rfl ?_
  unfold B__law_asked
  simp only [List.map_cons, List.map_nil, List.replicate_succ, List.replicate_zero, List.cons_append, List.nil_append]
  refine seq_ok ?_
  simp only [w_pC, w_pVar, w_pOwn, w_p1, w_p2, w_pSl, w_oNo, w_oSome, w_pTup, w_pCall, w_aNil, w_aCons, w_pIsi, w_pIsi2, w_eP, w_eMove, w_e1, w_e2, w_eTup, w_eLst, w_eFz, w_eCall, w_aNilE, w_aConsE, w_eIf, w_eComp, w_eDc, w_eDef, w_cNil, w_cVal, w_cBor, w_eMeth, w_eMetP, w_plVar, w_plIx, w_eSMet, w_yesT, w_tP, w_p2t, w_e2t, w_tTruP, w_tTru, w_tNo, w_tAnd2, w_tOr2, w_iSeq, w_iRange1, w_iRange2, w_iEnumE, rngD_len, w_gNm, w_gTup, w_gsNil, w_gsCons, w_gPut, w_sNil, w_sRet, w_sExpr, w_sAsg, w_sIf, w_sFor, w_sFz, ok_some, ok_map, takeB, giveB, outsOf, wipeE, im_non, im_bl, im_int, im_str, im_tup, im_scr, im_lst, im_dcK, im_dcT, fz_non, fz_bl, fz_int, fz_str, fz_tup, fz_scr, fz_lstT, fz_lst, fz_dcT, fz_dcK, wk_tup, wk_lst, wk_scr, wk_str, sI_tup, sI_lst, tr_bl, lt_int, gt_int, le_int, ge_int, eq_int, ne_int, eq_str, ne_str, ne_bl, eq_bl, add_int, sub_int, neg_int, g_int, g_abs, ix_tup, ix_lst, at0, at1, at2, g_len_tup, g_len_lst, List.getElem?_cons_zero, List.getElem?_cons_succ, List.set_cons_zero, List.set_cons_succ, List.length_cons, List.length_nil, List.map_cons, List.map_nil, List.replicate_succ, List.replicate_zero, List.cons_append, List.nil_append, List.head?_cons, List.tail_cons, Option.join_some, Option.map_some, if_true, if_false, ite_true, ite_false, reduceIte, reduceCtorEq, BEq.rfl, Bool.false_eq_true, Bool.not_true, Bool.not_false, List.all_cons, List.all_nil, Bool.and_true, Bool.true_and, Bool.and_self, true_and, and_true, exists_eq_left, exists_eq_left', D.bl.injEq, D.int.injEq, D.str.injEq, D.tup.injEq, Out.rt.injEq, Nat.lt_add_left_iff_pos, Nat.zero_lt_succ, Nat.reduceAdd, Nat.reduceLT, im]
  refine lconditions_w hS ?_
  simp only [w_pC, w_pVar, w_pOwn, w_p1, w_p2, w_pSl, w_oNo, w_oSome, w_pTup, w_pCall, w_aNil, w_aCons, w_pIsi, w_pIsi2, w_eP, w_eMove, w_e1, w_e2, w_eTup, w_eLst, w_eFz, w_eCall, w_aNilE, w_aConsE, w_eIf, w_eComp, w_eDc, w_eDef, w_cNil, w_cVal, w_cBor, w_eMeth, w_eMetP, w_plVar, w_plIx, w_eSMet, w_yesT, w_tP, w_p2t, w_e2t, w_tTruP, w_tTru, w_tNo, w_tAnd2, w_tOr2, w_iSeq, w_iRange1, w_iRange2, w_iEnumE, rngD_len, w_gNm, w_gTup, w_gsNil, w_gsCons, w_gPut, w_sNil, w_sRet, w_sExpr, w_sAsg, w_sIf, w_sFor, w_sFz, ok_some, ok_map, takeB, giveB, outsOf, wipeE, im_non, im_bl, im_int, im_str, im_tup, im_scr, im_lst, im_dcK, im_dcT, fz_non, fz_bl, fz_int, fz_str, fz_tup, fz_scr, fz_lstT, fz_lst, fz_dcT, fz_dcK, wk_tup, wk_lst, wk_scr, wk_str, sI_tup, sI_lst, tr_bl, lt_int, gt_int, le_int, ge_int, eq_int, ne_int, eq_str, ne_str, ne_bl, eq_bl, add_int, sub_int, neg_int, g_int, g_abs, ix_tup, ix_lst, at0, at1, at2, g_len_tup, g_len_lst, List.getElem?_cons_zero, List.getElem?_cons_succ, List.set_cons_zero, List.set_cons_succ, List.length_cons, List.length_nil, List.map_cons, List.map_nil, List.replicate_succ, List.replicate_zero, List.cons_append, List.nil_append, List.head?_cons, List.tail_cons, Option.join_some, Option.map_some, if_true, if_false, ite_true, ite_false, reduceIte, reduceCtorEq, BEq.rfl, Bool.false_eq_true, Bool.not_true, Bool.not_false, List.all_cons, List.all_nil, Bool.and_true, Bool.true_and, Bool.and_self, true_and, and_true, exists_eq_left, exists_eq_left', D.bl.injEq, D.int.injEq, D.str.injEq, D.tup.injEq, Out.rt.injEq, Nat.lt_add_left_iff_pos, Nat.zero_lt_succ, Nat.reduceAdd, Nat.reduceLT, im]
  refine seq_ok ?_
  simp only [w_pC, w_pVar, w_pOwn, w_p1, w_p2, w_pSl, w_oNo, w_oSome, w_pTup, w_pCall, w_aNil, w_aCons, w_pIsi, w_pIsi2, w_eP, w_eMove, w_e1, w_e2, w_eTup, w_eLst, w_eFz, w_eCall, w_aNilE, w_aConsE, w_eIf, w_eComp, w_eDc, w_eDef, w_cNil, w_cVal, w_cBor, w_eMeth, w_eMetP, w_plVar, w_plIx, w_eSMet, w_yesT, w_tP, w_p2t, w_e2t, w_tTruP, w_tTru, w_tNo, w_tAnd2, w_tOr2, w_iSeq, w_iRange1, w_iRange2, w_iEnumE, rngD_len, w_gNm, w_gTup, w_gsNil, w_gsCons, w_gPut, w_sNil, w_sRet, w_sExpr, w_sAsg, w_sIf, w_sFor, w_sFz, ok_some, ok_map, takeB, giveB, outsOf, wipeE, im_non, im_bl, im_int, im_str, im_tup, im_scr, im_lst, im_dcK, im_dcT, fz_non, fz_bl, fz_int, fz_str, fz_tup, fz_scr, fz_lstT, fz_lst, fz_dcT, fz_dcK, wk_tup, wk_lst, wk_scr, wk_str, sI_tup, sI_lst, tr_bl, lt_int, gt_int, le_int, ge_int, eq_int, ne_int, eq_str, ne_str, ne_bl, eq_bl, add_int, sub_int, neg_int, g_int, g_abs, ix_tup, ix_lst, at0, at1, at2, g_len_tup, g_len_lst, List.getElem?_cons_zero, List.getElem?_cons_succ, List.set_cons_zero, List.set_cons_succ, List.length_cons, List.length_nil, List.map_cons, List.map_nil, List.replicate_succ, List.replicate_zero, List.cons_append, List.nil_append, List.head?_cons, List.tail_cons, Option.join_some, Option.map_some, if_true, if_false, ite_true, ite_false, reduceIte, reduceCtorEq, BEq.rfl, Bool.false_eq_true, Bool.not_true, Bool.not_false, List.all_cons, List.all_nil, Bool.and_true, Bool.true_and, Bool.and_self, true_and, and_true, exists_eq_left, exists_eq_left', D.bl.injEq, D.int.injEq, D.str.injEq, D.tup.injEq, Out.rt.injEq, Nat.lt_add_left_iff_pos, Nat.zero_lt_succ, Nat.reduceAdd, Nat.reduceLT, im]
  refine conditions_w hS ?_
  simp only [w_pC, w_pVar, w_pOwn, w_p1, w_p2, w_pSl, w_oNo, w_oSome, w_pTup, w_pCall, w_aNil, w_aCons, w_pIsi, w_pIsi2, w_eP, w_eMove, w_e1, w_e2, w_eTup, w_eLst, w_eFz, w_eCall, w_aNilE, w_aConsE, w_eIf, w_eComp, w_eDc, w_eDef, w_cNil, w_cVal, w_cBor, w_eMeth, w_eMetP, w_plVar, w_plIx, w_eSMet, w_yesT, w_tP, w_p2t, w_e2t, w_tTruP, w_tTru, w_tNo, w_tAnd2, w_tOr2, w_iSeq, w_iRange1, w_iRange2, w_iEnumE, rngD_len, w_gNm, w_gTup, w_gsNil, w_gsCons, w_gPut, w_sNil, w_sRet, w_sExpr, w_sAsg, w_sIf, w_sFor, w_sFz, ok_some, ok_map, takeB, giveB, outsOf, wipeE, im_non, im_bl, im_int, im_str, im_tup, im_scr, im_lst, im_dcK, im_dcT, fz_non, fz_bl, fz_int, fz_str, fz_tup, fz_scr, fz_lstT, fz_lst, fz_dcT, fz_dcK, wk_tup, wk_lst, wk_scr, wk_str, sI_tup, sI_lst, tr_bl, lt_int, gt_int, le_int, ge_int, eq_int, ne_int, eq_str, ne_str, ne_bl, eq_bl, add_int, sub_int, neg_int, g_int, g_abs, ix_tup, ix_lst, at0, at1, at2, g_len_tup, g_len_lst, List.getElem?_cons_zero, List.getElem?_cons_succ, List.set_cons_zero, List.set_cons_succ, List.length_cons, List.length_nil, List.map_cons, List.map_nil, List.replicate_succ, List.replicate_zero, List.cons_append, List.nil_append, List.head?_cons, List.tail_cons, Option.join_some, Option.map_some, if_true, if_false, ite_true, ite_false, reduceIte, reduceCtorEq, BEq.rfl, Bool.false_eq_true, Bool.not_true, Bool.not_false, List.all_cons, List.all_nil, Bool.and_true, Bool.true_and, Bool.and_self, true_and, and_true, exists_eq_left, exists_eq_left', D.bl.injEq, D.int.injEq, D.str.injEq, D.tup.injEq, Out.rt.injEq, Nat.lt_add_left_iff_pos, Nat.zero_lt_succ, Nat.reduceAdd, Nat.reduceLT, im]
  refine seq_ok ?_
  simp only [w_pC, w_pVar, w_pOwn, w_p1, w_p2, w_pSl, w_oNo, w_oSome, w_pTup, w_pCall, w_aNil, w_aCons, w_pIsi, w_pIsi2, w_eP, w_eMove, w_e1, w_e2, w_eTup, w_eLst, w_eFz, w_eCall, w_aNilE, w_aConsE, w_eIf, w_eComp, w_eDc, w_eDef, w_cNil, w_cVal, w_cBor, w_eMeth, w_eMetP, w_plVar, w_plIx, w_eSMet, w_yesT, w_tP, w_p2t, w_e2t, w_tTruP, w_tTru, w_tNo, w_tAnd2, w_tOr2, w_iSeq, w_iRange1, w_iRange2, w_iEnumE, rngD_len, w_gNm, w_gTup, w_gsNil, w_gsCons, w_gPut, w_sNil, w_sRet, w_sExpr, w_sAsg, w_sIf, w_sFor, w_sFz, ok_some, ok_map, takeB, giveB, outsOf, wipeE, im_non, im_bl, im_int, im_str, im_tup, im_scr, im_lst, im_dcK, im_dcT, fz_non, fz_bl, fz_int, fz_str, fz_tup, fz_scr, fz_lstT, fz_lst, fz_dcT, fz_dcK, wk_tup, wk_lst, wk_scr, wk_str, sI_tup, sI_lst, tr_bl, lt_int, gt_int, le_int, ge_int, eq_int, ne_int, eq_str, ne_str, ne_bl, eq_bl, add_int, sub_int, neg_int, g_int, g_abs, ix_tup, ix_lst, at0, at1, at2, g_len_tup, g_len_lst, List.getElem?_cons_zero, List.getElem?_cons_succ, List.set_cons_zero, List.set_cons_succ, List.length_cons, List.length_nil, List.map_cons, List.map_nil, List.replicate_succ, List.replicate_zero, List.cons_append, List.nil_append, List.head?_cons, List.tail_cons, Option.join_some, Option.map_some, if_true, if_false, ite_true, ite_false, reduceIte, reduceCtorEq, BEq.rfl, Bool.false_eq_true, Bool.not_true, Bool.not_false, List.all_cons, List.all_nil, Bool.and_true, Bool.true_and, Bool.and_self, true_and, and_true, exists_eq_left, exists_eq_left', D.bl.injEq, D.int.injEq, D.str.injEq, D.tup.injEq, Out.rt.injEq, Nat.lt_add_left_iff_pos, Nat.zero_lt_succ, Nat.reduceAdd, Nat.reduceLT]
  refine same_w (conds_plain _) (conds_nodes (by omega)) ?_
  simp only [w_pC, w_pVar, w_pOwn, w_p1, w_p2, w_pSl, w_oNo, w_oSome, w_pTup, w_pCall, w_aNil, w_aCons, w_pIsi, w_pIsi2, w_eP, w_eMove, w_e1, w_e2, w_eTup, w_eLst, w_eFz, w_eCall, w_aNilE, w_aConsE, w_eIf, w_eComp, w_eDc, w_eDef, w_cNil, w_cVal, w_cBor, w_eMeth, w_eMetP, w_plVar, w_plIx, w_eSMet, w_yesT, w_tP, w_p2t, w_e2t, w_tTruP, w_tTru, w_tNo, w_tAnd2, w_tOr2, w_iSeq, w_iRange1, w_iRange2, w_iEnumE, rngD_len, w_gNm, w_gTup, w_gsNil, w_gsCons, w_gPut, w_sNil, w_sRet, w_sExpr, w_sAsg, w_sIf, w_sFor, w_sFz, ok_some, ok_map, takeB, giveB, outsOf, wipeE, im_non, im_bl, im_int, im_str, im_tup, im_scr, im_lst, im_dcK, im_dcT, fz_non, fz_bl, fz_int, fz_str, fz_tup, fz_scr, fz_lstT, fz_lst, fz_dcT, fz_dcK, wk_tup, wk_lst, wk_scr, wk_str, sI_tup, sI_lst, tr_bl, lt_int, gt_int, le_int, ge_int, eq_int, ne_int, eq_str, ne_str, ne_bl, eq_bl, add_int, sub_int, neg_int, g_int, g_abs, ix_tup, ix_lst, at0, at1, at2, g_len_tup, g_len_lst, List.getElem?_cons_zero, List.getElem?_cons_succ, List.set_cons_zero, List.set_cons_succ, List.length_cons, List.length_nil, List.map_cons, List.map_nil, List.replicate_succ, List.replicate_zero, List.cons_append, List.nil_append, List.head?_cons, List.tail_cons, Option.join_some, Option.map_some, if_true, if_false, ite_true, ite_false, reduceIte, reduceCtorEq, BEq.rfl, Bool.false_eq_true, Bool.not_true, Bool.not_false, List.all_cons, List.all_nil, Bool.and_true, Bool.true_and, Bool.and_self, true_and, and_true, exists_eq_left, exists_eq_left', D.bl.injEq, D.int.injEq, D.str.injEq, D.tup.injEq, Out.rt.injEq, Nat.lt_add_left_iff_pos, Nat.zero_lt_succ, Nat.reduceAdd, Nat.reduceLT]
  refine seq_ok ?_
  simp only [w_pC, w_pVar, w_pOwn, w_p1, w_p2, w_pSl, w_oNo, w_oSome, w_pTup, w_pCall, w_aNil, w_aCons, w_pIsi, w_pIsi2, w_eP, w_eMove, w_e1, w_e2, w_eTup, w_eLst, w_eFz, w_eCall, w_aNilE, w_aConsE, w_eIf, w_eComp, w_eDc, w_eDef, w_cNil, w_cVal, w_cBor, w_eMeth, w_eMetP, w_plVar, w_plIx, w_eSMet, w_yesT, w_tP, w_p2t, w_e2t, w_tTruP, w_tTru, w_tNo, w_tAnd2, w_tOr2, w_iSeq, w_iRange1, w_iRange2, w_iEnumE, rngD_len, w_gNm, w_gTup, w_gsNil, w_gsCons, w_gPut, w_sNil, w_sRet, w_sExpr, w_sAsg, w_sIf, w_sFor, w_sFz, ok_some, ok_map, takeB, giveB, outsOf, wipeE, im_non, im_bl, im_int, im_str, im_tup, im_scr, im_lst, im_dcK, im_dcT, fz_non, fz_bl, fz_int, fz_str, fz_tup, fz_scr, fz_lstT, fz_lst, fz_dcT, fz_dcK, wk_tup, wk_lst, wk_scr, wk_str, sI_tup, sI_lst, tr_bl, lt_int, gt_int, le_int, ge_int, eq_int, ne_int, eq_str, ne_str, ne_bl, eq_bl, add_int, sub_int, neg_int, g_int, g_abs, ix_tup, ix_lst, at0, at1, at2, g_len_tup, g_len_lst, List.getElem?_cons_zero, List.getElem?_cons_succ, List.set_cons_zero, List.set_cons_succ, List.length_cons, List.length_nil, List.map_cons, List.map_nil, List.replicate_succ, List.replicate_zero, List.cons_append, List.nil_append, List.head?_cons, List.tail_cons, Option.join_some, Option.map_some, if_true, if_false, ite_true, ite_false, reduceIte, reduceCtorEq, BEq.rfl, Bool.false_eq_true, Bool.not_true, Bool.not_false, List.all_cons, List.all_nil, Bool.and_true, Bool.true_and, Bool.and_self, true_and, and_true, exists_eq_left, exists_eq_left', D.bl.injEq, D.int.injEq, D.str.injEq, D.tup.injEq, Out.rt.injEq, Nat.lt_add_left_iff_pos, Nat.zero_lt_succ, Nat.reduceAdd, Nat.reduceLT]
  refine ⟨by decide, ?_⟩
  refine comp_ok (fun j e acc => ∃ p x8, ∃ cs : List Cond, e = [some p, some (sheetD S), some (.bl each), some (.tup ((conds S).map condD)), some (.tup ((conds S).map condD)), none, none, none, x8] ∧ Pool p ∧ acc = cs.map condD ∧ (∀ c ∈ cs, c ∈ conds S) ∧ cs.length ≤ j) ⟨p, none, [], rfl, hp, rfl, fun _ m => (nomatch m), Nat.le_refl _⟩ ?_ ?_
  · rintro j d e acc hj ⟨p, x8, cs, rfl, hp, rfl, hs, hl⟩
    obtain ⟨hjl, rfl⟩ := at_cond hj
    simp only [wipeE, w_pC, w_pVar, w_pOwn, w_p1, w_p2, w_pSl, w_oNo, w_oSome, w_pTup, w_pCall, w_aNil, w_aCons, w_pIsi, w_pIsi2, w_eP, w_eMove, w_e1, w_e2, w_eTup, w_eLst, w_eFz, w_eCall, w_aNilE, w_aConsE, w_eIf, w_eComp, w_eDc, w_eDef, w_cNil, w_cVal, w_cBor, w_eMeth, w_eMetP, w_plVar, w_plIx, w_eSMet, w_yesT, w_tP, w_p2t, w_e2t, w_tTruP, w_tTru, w_tNo, w_tAnd2, w_tOr2, w_iSeq, w_iRange1, w_iRange2, w_iEnumE, rngD_len, w_gNm, w_gTup, w_gsNil, w_gsCons, w_gPut, w_sNil, w_sRet, w_sExpr, w_sAsg, w_sIf, w_sFor, w_sFz, ok_some, ok_map, takeB, giveB, outsOf, wipeE, im_non, im_bl, im_int, im_str, im_tup, im_scr, im_lst, im_dcK, im_dcT, fz_non, fz_bl, fz_int, fz_str, fz_tup, fz_scr, fz_lstT, fz_lst, fz_dcT, fz_dcK, wk_tup, wk_lst, wk_scr, wk_str, sI_tup, sI_lst, tr_bl, lt_int, gt_int, le_int, ge_int, eq_int, ne_int, eq_str, ne_str, ne_bl, eq_bl, add_int, sub_int, neg_int, g_int, g_abs, ix_tup, ix_lst, at0, at1, at2, g_len_tup, g_len_lst, List.getElem?_cons_zero, List.getElem?_cons_succ, List.set_cons_zero, List.set_cons_succ, List.length_cons, List.length_nil, List.map_cons, List.map_nil, List.replicate_succ, List.replicate_zero, List.cons_append, List.nil_append, List.head?_cons, List.tail_cons, Option.join_some, Option.map_some, if_true, if_false, ite_true, ite_false, reduceIte, reduceCtorEq, BEq.rfl, Bool.false_eq_true, Bool.not_true, Bool.not_false, List.all_cons, List.all_nil, Bool.and_true, Bool.true_and, Bool.and_self, true_and, and_true, exists_eq_left, exists_eq_left', D.bl.injEq, D.int.injEq, D.str.injEq, D.tup.injEq, Out.rt.injEq, Nat.lt_add_left_iff_pos, Nat.zero_lt_succ, Nat.reduceAdd, Nat.reduceLT, hp.imm]
    refine draw_w hp (by decide) (by decide) fun r p' r0 r1 hp' => ?_
    by_cases hr : r = 0
    · simp only [w_pC, w_pVar, w_pOwn, w_p1, w_p2, w_pSl, w_oNo, w_oSome, w_pTup, w_pCall, w_aNil, w_aCons, w_pIsi, w_pIsi2, w_eP, w_eMove, w_e1, w_e2, w_eTup, w_eLst, w_eFz, w_eCall, w_aNilE, w_aConsE, w_eIf, w_eComp, w_eDc, w_eDef, w_cNil, w_cVal, w_cBor, w_eMeth, w_eMetP, w_plVar, w_plIx, w_eSMet, w_yesT, w_tP, w_p2t, w_e2t, w_tTruP, w_tTru, w_tNo, w_tAnd2, w_tOr2, w_iSeq, w_iRange1, w_iRange2, w_iEnumE, rngD_len, w_gNm, w_gTup, w_gsNil, w_gsCons, w_gPut, w_sNil, w_sRet, w_sExpr, w_sAsg, w_sIf, w_sFor, w_sFz, ok_some, ok_map, takeB, giveB, outsOf, wipeE, im_non, im_bl, im_int, im_str, im_tup, im_scr, im_lst, im_dcK, im_dcT, fz_non, fz_bl, fz_int, fz_str, fz_tup, fz_scr, fz_lstT, fz_lst, fz_dcT, fz_dcK, wk_tup, wk_lst, wk_scr, wk_str, sI_tup, sI_lst, tr_bl, lt_int, gt_int, le_int, ge_int, eq_int, ne_int, eq_str, ne_str, ne_bl, eq_bl, add_int, sub_int, neg_int, g_int, g_abs, ix_tup, ix_lst, at0, at1, at2, g_len_tup, g_len_lst, List.getElem?_cons_zero, List.getElem?_cons_succ, List.set_cons_zero, List.set_cons_succ, List.length_cons, List.length_nil, List.map_cons, List.map_nil, List.replicate_succ, List.replicate_zero, List.cons_append, List.nil_append, List.head?_cons, List.tail_cons, Option.join_some, Option.map_some, if_true, if_false, ite_true, ite_false, reduceIte, reduceCtorEq, BEq.rfl, Bool.false_eq_true, Bool.not_true, Bool.not_false, List.all_cons, List.all_nil, Bool.and_true, Bool.true_and, Bool.and_self, true_and, and_true, exists_eq_left, exists_eq_left', D.bl.injEq, D.int.injEq, D.str.injEq, D.tup.injEq, Out.rt.injEq, Nat.lt_add_left_iff_pos, Nat.zero_lt_succ, Nat.reduceAdd, Nat.reduceLT, beq_iff_eq.mpr hr, hp.imm, cond_imm1]
      refine ⟨by rw [List.length_map]; show cs.length < 16777216; omega, p', _, cs ++ [(conds S)[j]], rfl, hp', by simp, fun c m => ?_, by simp; omega⟩
      rcases List.mem_append.mp m with m | m
      · exact hs c m
      · have : c = (conds S)[j] := by simpa using m
        rw [this]; exact List.getElem_mem hjl
    · simp only [w_pC, w_pVar, w_pOwn, w_p1, w_p2, w_pSl, w_oNo, w_oSome, w_pTup, w_pCall, w_aNil, w_aCons, w_pIsi, w_pIsi2, w_eP, w_eMove, w_e1, w_e2, w_eTup, w_eLst, w_eFz, w_eCall, w_aNilE, w_aConsE, w_eIf, w_eComp, w_eDc, w_eDef, w_cNil, w_cVal, w_cBor, w_eMeth, w_eMetP, w_plVar, w_plIx, w_eSMet, w_yesT, w_tP, w_p2t, w_e2t, w_tTruP, w_tTru, w_tNo, w_tAnd2, w_tOr2, w_iSeq, w_iRange1, w_iRange2, w_iEnumE, rngD_len, w_gNm, w_gTup, w_gsNil, w_gsCons, w_gPut, w_sNil, w_sRet, w_sExpr, w_sAsg, w_sIf, w_sFor, w_sFz, ok_some, ok_map, takeB, giveB, outsOf, wipeE, im_non, im_bl, im_int, im_str, im_tup, im_scr, im_lst, im_dcK, im_dcT, fz_non, fz_bl, fz_int, fz_str, fz_tup, fz_scr, fz_lstT, fz_lst, fz_dcT, fz_dcK, wk_tup, wk_lst, wk_scr, wk_str, sI_tup, sI_lst, tr_bl, lt_int, gt_int, le_int, ge_int, eq_int, ne_int, eq_str, ne_str, ne_bl, eq_bl, add_int, sub_int, neg_int, g_int, g_abs, ix_tup, ix_lst, at0, at1, at2, g_len_tup, g_len_lst, List.getElem?_cons_zero, List.getElem?_cons_succ, List.set_cons_zero, List.set_cons_succ, List.length_cons, List.length_nil, List.map_cons, List.map_nil, List.replicate_succ, List.replicate_zero, List.cons_append, List.nil_append, List.head?_cons, List.tail_cons, Option.join_some, Option.map_some, if_true, if_false, ite_true, ite_false, reduceIte, reduceCtorEq, BEq.rfl, Bool.false_eq_true, Bool.not_true, Bool.not_false, List.all_cons, List.all_nil, Bool.and_true, Bool.true_and, Bool.and_self, true_and, and_true, exists_eq_left, exists_eq_left', D.bl.injEq, D.int.injEq, D.str.injEq, D.tup.injEq, Out.rt.injEq, Nat.lt_add_left_iff_pos, Nat.zero_lt_succ, Nat.reduceAdd, Nat.reduceLT, beq_eq_false_iff_ne.mpr hr, hp.imm]
      exact ⟨p', _, cs, rfl, hp', rfl, hs, by omega⟩
  rintro e acc ⟨p1, x8, cs1, rfl, hp1, rfl, hs1, hl1⟩
  rw [List.length_map] at hl1
  have P0 : Part S [] := ⟨fun _ m => (nomatch m), by decide⟩
  have P1 : Part S (conds S) := ⟨fun _ m => m, hlen⟩
  have P2 : Part S cs1 := ⟨hs1, by omega⟩
  simp only [wipeE, w_pC, w_pVar, w_pOwn, w_p1, w_p2, w_pSl, w_oNo, w_oSome, w_pTup, w_pCall, w_aNil, w_aCons, w_pIsi, w_pIsi2, w_eP, w_eMove, w_e1, w_e2, w_eTup, w_eLst, w_eFz, w_eCall, w_aNilE, w_aConsE, w_eIf, w_eComp, w_eDc, w_eDef, w_cNil, w_cVal, w_cBor, w_eMeth, w_eMetP, w_plVar, w_plIx, w_eSMet, w_yesT, w_tP, w_p2t, w_e2t, w_tTruP, w_tTru, w_tNo, w_tAnd2, w_tOr2, w_iSeq, w_iRange1, w_iRange2, w_iEnumE, rngD_len, w_gNm, w_gTup, w_gsNil, w_gsCons, w_gPut, w_sNil, w_sRet, w_sExpr, w_sAsg, w_sIf, w_sFor, w_sFz, ok_some, ok_map, takeB, giveB, outsOf, wipeE, im_non, im_bl, im_int, im_str, im_tup, im_scr, im_lst, im_dcK, im_dcT, fz_non, fz_bl, fz_int, fz_str, fz_tup, fz_scr, fz_lstT, fz_lst, fz_dcT, fz_dcK, wk_tup, wk_lst, wk_scr, wk_str, sI_tup, sI_lst, tr_bl, lt_int, gt_int, le_int, ge_int, eq_int, ne_int, eq_str, ne_str, ne_bl, eq_bl, add_int, sub_int, neg_int, g_int, g_abs, ix_tup, ix_lst, at0, at1, at2, g_len_tup, g_len_lst, List.getElem?_cons_zero, List.getElem?_cons_succ, List.set_cons_zero, List.set_cons_succ, List.length_cons, List.length_nil, List.map_cons, List.map_nil, List.replicate_succ, List.replicate_zero, List.cons_append, List.nil_append, List.head?_cons, List.tail_cons, Option.join_some, Option.map_some, if_true, if_false, ite_true, ite_false, reduceIte, reduceCtorEq, BEq.rfl, Bool.false_eq_true, Bool.not_true, Bool.not_false, List.all_cons, List.all_nil, Bool.and_true, Bool.true_and, Bool.and_self, true_and, and_true, exists_eq_left, exists_eq_left', D.bl.injEq, D.int.injEq, D.str.injEq, D.tup.injEq, Out.rt.injEq, Nat.lt_add_left_iff_pos, Nat.zero_lt_succ, Nat.reduceAdd, Nat.reduceLT, g_tuple (cond_imm cs1)]
  refine ⟨by decide, ?_⟩
  refine seq_ok ?_
  have rl : ∀ l, okRecv "list" (.lst false l) = true := fun _ => rfl
  simp only [w_pC, w_pVar, w_pOwn, w_p1, w_p2, w_pSl, w_oNo, w_oSome, w_pTup, w_pCall, w_aNil, w_aCons, w_pIsi, w_pIsi2, w_eP, w_eMove, w_e1, w_e2, w_eTup, w_eLst, w_eFz, w_eCall, w_aNilE, w_aConsE, w_eIf, w_eComp, w_eDc, w_eDef, w_cNil, w_cVal, w_cBor, w_eMeth, w_eMetP, w_plVar, w_plIx, w_eSMet, w_yesT, w_tP, w_p2t, w_e2t, w_tTruP, w_tTru, w_tNo, w_tAnd2, w_tOr2, w_iSeq, w_iRange1, w_iRange2, w_iEnumE, rngD_len, w_gNm, w_gTup, w_gsNil, w_gsCons, w_gPut, w_sNil, w_sRet, w_sExpr, w_sAsg, w_sIf, w_sFor, w_sFz, ok_some, ok_map, takeB, giveB, outsOf, wipeE, im_non, im_bl, im_int, im_str, im_tup, im_scr, im_lst, im_dcK, im_dcT, fz_non, fz_bl, fz_int, fz_str, fz_tup, fz_scr, fz_lstT, fz_lst, fz_dcT, fz_dcK, wk_tup, wk_lst, wk_scr, wk_str, sI_tup, sI_lst, tr_bl, lt_int, gt_int, le_int, ge_int, eq_int, ne_int, eq_str, ne_str, ne_bl, eq_bl, add_int, sub_int, neg_int, g_int, g_abs, ix_tup, ix_lst, at0, at1, at2, g_len_tup, g_len_lst, List.getElem?_cons_zero, List.getElem?_cons_succ, List.set_cons_zero, List.set_cons_succ, List.length_cons, List.length_nil, List.map_cons, List.map_nil, List.replicate_succ, List.replicate_zero, List.cons_append, List.nil_append, List.head?_cons, List.tail_cons, Option.join_some, Option.map_some, if_true, if_false, ite_true, ite_false, reduceIte, reduceCtorEq, BEq.rfl, Bool.false_eq_true, Bool.not_true, Bool.not_false, List.all_cons, List.all_nil, Bool.and_true, Bool.true_and, Bool.and_self, true_and, and_true, exists_eq_left, exists_eq_left', D.bl.injEq, D.int.injEq, D.str.injEq, D.tup.injEq, Out.rt.injEq, Nat.lt_add_left_iff_pos, Nat.zero_lt_succ, Nat.reduceAdd, Nat.reduceLT, rl]
  refine comp_fm (h := condD) selH (by rfl) (fun c _ => ?_) (by rw [List.length_nil]; omega) ?_
  · simp only [wipeE, w_pC, w_pVar, w_pOwn, w_p1, w_p2, w_pSl, w_oNo, w_oSome, w_pTup, w_pCall, w_aNil, w_aCons, w_pIsi, w_pIsi2, w_eP, w_eMove, w_e1, w_e2, w_eTup, w_eLst, w_eFz, w_eCall, w_aNilE, w_aConsE, w_eIf, w_eComp, w_eDc, w_eDef, w_cNil, w_cVal, w_cBor, w_eMeth, w_eMetP, w_plVar, w_plIx, w_eSMet, w_yesT, w_tP, w_p2t, w_e2t, w_tTruP, w_tTru, w_tNo, w_tAnd2, w_tOr2, w_iSeq, w_iRange1, w_iRange2, w_iEnumE, rngD_len, w_gNm, w_gTup, w_gsNil, w_gsCons, w_gPut, w_sNil, w_sRet, w_sExpr, w_sAsg, w_sIf, w_sFor, w_sFz, ok_some, ok_map, takeB, giveB, outsOf, wipeE, im_non, im_bl, im_int, im_str, im_tup, im_scr, im_lst, im_dcK, im_dcT, fz_non, fz_bl, fz_int, fz_str, fz_tup, fz_scr, fz_lstT, fz_lst, fz_dcT, fz_dcK, wk_tup, wk_lst, wk_scr, wk_str, sI_tup, sI_lst, tr_bl, lt_int, gt_int, le_int, ge_int, eq_int, ne_int, eq_str, ne_str, ne_bl, eq_bl, add_int, sub_int, neg_int, g_int, g_abs, ix_tup, ix_lst, at0, at1, at2, g_len_tup, g_len_lst, List.getElem?_cons_zero, List.getElem?_cons_succ, List.set_cons_zero, List.set_cons_succ, List.length_cons, List.length_nil, List.map_cons, List.map_nil, List.replicate_succ, List.replicate_zero, List.cons_append, List.nil_append, List.head?_cons, List.tail_cons, Option.join_some, Option.map_some, if_true, if_false, ite_true, ite_false, reduceIte, reduceCtorEq, BEq.rfl, Bool.false_eq_true, Bool.not_true, Bool.not_false, List.all_cons, List.all_nil, Bool.and_true, Bool.true_and, Bool.and_self, true_and, and_true, exists_eq_left, exists_eq_left', D.bl.injEq, D.int.injEq, D.str.injEq, D.tup.injEq, Out.rt.injEq, Nat.lt_add_left_iff_pos, Nat.zero_lt_succ, Nat.reduceAdd, Nat.reduceLT, s_h]
    cases c with
    | beg n => simp only [w_pC, w_pVar, w_pOwn, w_p1, w_p2, w_pSl, w_oNo, w_oSome, w_pTup, w_pCall, w_aNil, w_aCons, w_pIsi, w_pIsi2, w_eP, w_eMove, w_e1, w_e2, w_eTup, w_eLst, w_eFz, w_eCall, w_aNilE, w_aConsE, w_eIf, w_eComp, w_eDc, w_eDef, w_cNil, w_cVal, w_cBor, w_eMeth, w_eMetP, w_plVar, w_plIx, w_eSMet, w_yesT, w_tP, w_p2t, w_e2t, w_tTruP, w_tTru, w_tNo, w_tAnd2, w_tOr2, w_iSeq, w_iRange1, w_iRange2, w_iEnumE, rngD_len, w_gNm, w_gTup, w_gsNil, w_gsCons, w_gPut, w_sNil, w_sRet, w_sExpr, w_sAsg, w_sIf, w_sFor, w_sFz, ok_some, ok_map, takeB, giveB, outsOf, wipeE, im_non, im_bl, im_int, im_str, im_tup, im_scr, im_lst, im_dcK, im_dcT, fz_non, fz_bl, fz_int, fz_str, fz_tup, fz_scr, fz_lstT, fz_lst, fz_dcT, fz_dcK, wk_tup, wk_lst, wk_scr, wk_str, sI_tup, sI_lst, tr_bl, lt_int, gt_int, le_int, ge_int, eq_int, ne_int, eq_str, ne_str, ne_bl, eq_bl, add_int, sub_int, neg_int, g_int, g_abs, ix_tup, ix_lst, at0, at1, at2, g_len_tup, g_len_lst, List.getElem?_cons_zero, List.getElem?_cons_succ, List.set_cons_zero, List.set_cons_succ, List.length_cons, List.length_nil, List.map_cons, List.map_nil, List.replicate_succ, List.replicate_zero, List.cons_append, List.nil_append, List.head?_cons, List.tail_cons, Option.join_some, Option.map_some, if_true, if_false, ite_true, ite_false, reduceIte, reduceCtorEq, BEq.rfl, Bool.false_eq_true, Bool.not_true, Bool.not_false, List.all_cons, List.all_nil, Bool.and_true, Bool.true_and, Bool.and_self, true_and, and_true, exists_eq_left, exists_eq_left', D.bl.injEq, D.int.injEq, D.str.injEq, D.tup.injEq, Out.rt.injEq, Nat.lt_add_left_iff_pos, Nat.zero_lt_succ, Nat.reduceAdd, Nat.reduceLT, s_bh, decide_false, selH]
    | fin n => simp only [w_pC, w_pVar, w_pOwn, w_p1, w_p2, w_pSl, w_oNo, w_oSome, w_pTup, w_pCall, w_aNil, w_aCons, w_pIsi, w_pIsi2, w_eP, w_eMove, w_e1, w_e2, w_eTup, w_eLst, w_eFz, w_eCall, w_aNilE, w_aConsE, w_eIf, w_eComp, w_eDc, w_eDef, w_cNil, w_cVal, w_cBor, w_eMeth, w_eMetP, w_plVar, w_plIx, w_eSMet, w_yesT, w_tP, w_p2t, w_e2t, w_tTruP, w_tTru, w_tNo, w_tAnd2, w_tOr2, w_iSeq, w_iRange1, w_iRange2, w_iEnumE, rngD_len, w_gNm, w_gTup, w_gsNil, w_gsCons, w_gPut, w_sNil, w_sRet, w_sExpr, w_sAsg, w_sIf, w_sFor, w_sFz, ok_some, ok_map, takeB, giveB, outsOf, wipeE, im_non, im_bl, im_int, im_str, im_tup, im_scr, im_lst, im_dcK, im_dcT, fz_non, fz_bl, fz_int, fz_str, fz_tup, fz_scr, fz_lstT, fz_lst, fz_dcT, fz_dcK, wk_tup, wk_lst, wk_scr, wk_str, sI_tup, sI_lst, tr_bl, lt_int, gt_int, le_int, ge_int, eq_int, ne_int, eq_str, ne_str, ne_bl, eq_bl, add_int, sub_int, neg_int, g_int, g_abs, ix_tup, ix_lst, at0, at1, at2, g_len_tup, g_len_lst, List.getElem?_cons_zero, List.getElem?_cons_succ, List.set_cons_zero, List.set_cons_succ, List.length_cons, List.length_nil, List.map_cons, List.map_nil, List.replicate_succ, List.replicate_zero, List.cons_append, List.nil_append, List.head?_cons, List.tail_cons, Option.join_some, Option.map_some, if_true, if_false, ite_true, ite_false, reduceIte, reduceCtorEq, BEq.rfl, Bool.false_eq_true, Bool.not_true, Bool.not_false, List.all_cons, List.all_nil, Bool.and_true, Bool.true_and, Bool.and_self, true_and, and_true, exists_eq_left, exists_eq_left', D.bl.injEq, D.int.injEq, D.str.injEq, D.tup.injEq, Out.rt.injEq, Nat.lt_add_left_iff_pos, Nat.zero_lt_succ, Nat.reduceAdd, Nat.reduceLT, s_eh, decide_false, selH]
    | tie a b => simp only [w_pC, w_pVar, w_pOwn, w_p1, w_p2, w_pSl, w_oNo, w_oSome, w_pTup, w_pCall, w_aNil, w_aCons, w_pIsi, w_pIsi2, w_eP, w_eMove, w_e1, w_e2, w_eTup, w_eLst, w_eFz, w_eCall, w_aNilE, w_aConsE, w_eIf, w_eComp, w_eDc, w_eDef, w_cNil, w_cVal, w_cBor, w_eMeth, w_eMetP, w_plVar, w_plIx, w_eSMet, w_yesT, w_tP, w_p2t, w_e2t, w_tTruP, w_tTru, w_tNo, w_tAnd2, w_tOr2, w_iSeq, w_iRange1, w_iRange2, w_iEnumE, rngD_len, w_gNm, w_gTup, w_gsNil, w_gsCons, w_gPut, w_sNil, w_sRet, w_sExpr, w_sAsg, w_sIf, w_sFor, w_sFz, ok_some, ok_map, takeB, giveB, outsOf, wipeE, im_non, im_bl, im_int, im_str, im_tup, im_scr, im_lst, im_dcK, im_dcT, fz_non, fz_bl, fz_int, fz_str, fz_tup, fz_scr, fz_lstT, fz_lst, fz_dcT, fz_dcK, wk_tup, wk_lst, wk_scr, wk_str, sI_tup, sI_lst, tr_bl, lt_int, gt_int, le_int, ge_int, eq_int, ne_int, eq_str, ne_str, ne_bl, eq_bl, add_int, sub_int, neg_int, g_int, g_abs, ix_tup, ix_lst, at0, at1, at2, g_len_tup, g_len_lst, List.getElem?_cons_zero, List.getElem?_cons_succ, List.set_cons_zero, List.set_cons_succ, List.length_cons, List.length_nil, List.map_cons, List.map_nil, List.replicate_succ, List.replicate_zero, List.cons_append, List.nil_append, List.head?_cons, List.tail_cons, Option.join_some, Option.map_some, if_true, if_false, ite_true, ite_false, reduceIte, reduceCtorEq, BEq.rfl, Bool.false_eq_true, Bool.not_true, Bool.not_false, List.all_cons, List.all_nil, Bool.and_true, Bool.true_and, Bool.and_self, true_and, and_true, exists_eq_left, exists_eq_left', D.bl.injEq, D.int.injEq, D.str.injEq, D.tup.injEq, Out.rt.injEq, Nat.lt_add_left_iff_pos, Nat.zero_lt_succ, Nat.reduceAdd, Nat.reduceLT, s_ht.symm, decide_false, selH]
    | hand h m =>
      simp only [w_pC, w_pVar, w_pOwn, w_p1, w_p2, w_pSl, w_oNo, w_oSome, w_pTup, w_pCall, w_aNil, w_aCons, w_pIsi, w_pIsi2, w_eP, w_eMove, w_e1, w_e2, w_eTup, w_eLst, w_eFz, w_eCall, w_aNilE, w_aConsE, w_eIf, w_eComp, w_eDc, w_eDef, w_cNil, w_cVal, w_cBor, w_eMeth, w_eMetP, w_plVar, w_plIx, w_eSMet, w_yesT, w_tP, w_p2t, w_e2t, w_tTruP, w_tTru, w_tNo, w_tAnd2, w_tOr2, w_iSeq, w_iRange1, w_iRange2, w_iEnumE, rngD_len, w_gNm, w_gTup, w_gsNil, w_gsCons, w_gPut, w_sNil, w_sRet, w_sExpr, w_sAsg, w_sIf, w_sFor, w_sFz, ok_some, ok_map, takeB, giveB, outsOf, wipeE, im_non, im_bl, im_int, im_str, im_tup, im_scr, im_lst, im_dcK, im_dcT, fz_non, fz_bl, fz_int, fz_str, fz_tup, fz_scr, fz_lstT, fz_lst, fz_dcT, fz_dcK, wk_tup, wk_lst, wk_scr, wk_str, sI_tup, sI_lst, tr_bl, lt_int, gt_int, le_int, ge_int, eq_int, ne_int, eq_str, ne_str, ne_bl, eq_bl, add_int, sub_int, neg_int, g_int, g_abs, ix_tup, ix_lst, at0, at1, at2, g_len_tup, g_len_lst, List.getElem?_cons_zero, List.getElem?_cons_succ, List.set_cons_zero, List.set_cons_succ, List.length_cons, List.length_nil, List.map_cons, List.map_nil, List.replicate_succ, List.replicate_zero, List.cons_append, List.nil_append, List.head?_cons, List.tail_cons, Option.join_some, Option.map_some, if_true, if_false, ite_true, ite_false, reduceIte, reduceCtorEq, BEq.rfl, Bool.false_eq_true, Bool.not_true, Bool.not_false, List.all_cons, List.all_nil, Bool.and_true, Bool.true_and, Bool.and_self, true_and, and_true, exists_eq_left, exists_eq_left', D.bl.injEq, D.int.injEq, D.str.injEq, D.tup.injEq, Out.rt.injEq, Nat.lt_add_left_iff_pos, Nat.zero_lt_succ, Nat.reduceAdd, Nat.reduceLT, decide_true, condD, selH]
      by_cases hm : m = 1
      · simp only [w_pC, w_pVar, w_pOwn, w_p1, w_p2, w_pSl, w_oNo, w_oSome, w_pTup, w_pCall, w_aNil, w_aCons, w_pIsi, w_pIsi2, w_eP, w_eMove, w_e1, w_e2, w_eTup, w_eLst, w_eFz, w_eCall, w_aNilE, w_aConsE, w_eIf, w_eComp, w_eDc, w_eDef, w_cNil, w_cVal, w_cBor, w_eMeth, w_eMetP, w_plVar, w_plIx, w_eSMet, w_yesT, w_tP, w_p2t, w_e2t, w_tTruP, w_tTru, w_tNo, w_tAnd2, w_tOr2, w_iSeq, w_iRange1, w_iRange2, w_iEnumE, rngD_len, w_gNm, w_gTup, w_gsNil, w_gsCons, w_gPut, w_sNil, w_sRet, w_sExpr, w_sAsg, w_sIf, w_sFor, w_sFz, ok_some, ok_map, takeB, giveB, outsOf, wipeE, im_non, im_bl, im_int, im_str, im_tup, im_scr, im_lst, im_dcK, im_dcT, fz_non, fz_bl, fz_int, fz_str, fz_tup, fz_scr, fz_lstT, fz_lst, fz_dcT, fz_dcK, wk_tup, wk_lst, wk_scr, wk_str, sI_tup, sI_lst, tr_bl, lt_int, gt_int, le_int, ge_int, eq_int, ne_int, eq_str, ne_str, ne_bl, eq_bl, add_int, sub_int, neg_int, g_int, g_abs, ix_tup, ix_lst, at0, at1, at2, g_len_tup, g_len_lst, List.getElem?_cons_zero, List.getElem?_cons_succ, List.set_cons_zero, List.set_cons_succ, List.length_cons, List.length_nil, List.map_cons, List.map_nil, List.replicate_succ, List.replicate_zero, List.cons_append, List.nil_append, List.head?_cons, List.tail_cons, Option.join_some, Option.map_some, if_true, if_false, ite_true, ite_false, reduceIte, reduceCtorEq, BEq.rfl, Bool.false_eq_true, Bool.not_true, Bool.not_false, List.all_cons, List.all_nil, Bool.and_true, Bool.true_and, Bool.and_self, true_and, and_true, exists_eq_left, exists_eq_left', D.bl.injEq, D.int.injEq, D.str.injEq, D.tup.injEq, Out.rt.injEq, Nat.lt_add_left_iff_pos, Nat.zero_lt_succ, Nat.reduceAdd, Nat.reduceLT, beq_iff_eq.mpr hm, if_pos hm]
        exact ⟨_, rfl, rfl⟩
      · simp only [w_pC, w_pVar, w_pOwn, w_p1, w_p2, w_pSl, w_oNo, w_oSome, w_pTup, w_pCall, w_aNil, w_aCons, w_pIsi, w_pIsi2, w_eP, w_eMove, w_e1, w_e2, w_eTup, w_eLst, w_eFz, w_eCall, w_aNilE, w_aConsE, w_eIf, w_eComp, w_eDc, w_eDef, w_cNil, w_cVal, w_cBor, w_eMeth, w_eMetP, w_plVar, w_plIx, w_eSMet, w_yesT, w_tP, w_p2t, w_e2t, w_tTruP, w_tTru, w_tNo, w_tAnd2, w_tOr2, w_iSeq, w_iRange1, w_iRange2, w_iEnumE, rngD_len, w_gNm, w_gTup, w_gsNil, w_gsCons, w_gPut, w_sNil, w_sRet, w_sExpr, w_sAsg, w_sIf, w_sFor, w_sFz, ok_some, ok_map, takeB, giveB, outsOf, wipeE, im_non, im_bl, im_int, im_str, im_tup, im_scr, im_lst, im_dcK, im_dcT, fz_non, fz_bl, fz_int, fz_str, fz_tup, fz_scr, fz_lstT, fz_lst, fz_dcT, fz_dcK, wk_tup, wk_lst, wk_scr, wk_str, sI_tup, sI_lst, tr_bl, lt_int, gt_int, le_int, ge_int, eq_int, ne_int, eq_str, ne_str, ne_bl, eq_bl, add_int, sub_int, neg_int, g_int, g_abs, ix_tup, ix_lst, at0, at1, at2, g_len_tup, g_len_lst, List.getElem?_cons_zero, List.getElem?_cons_succ, List.set_cons_zero, List.set_cons_succ, List.length_cons, List.length_nil, List.map_cons, List.map_nil, List.replicate_succ, List.replicate_zero, List.cons_append, List.nil_append, List.head?_cons, List.tail_cons, Option.join_some, Option.map_some, if_true, if_false, ite_true, ite_false, reduceIte, reduceCtorEq, BEq.rfl, Bool.false_eq_true, Bool.not_true, Bool.not_false, List.all_cons, List.all_nil, Bool.and_true, Bool.true_and, Bool.and_self, true_and, and_true, exists_eq_left, exists_eq_left', D.bl.injEq, D.int.injEq, D.str.injEq, D.tup.injEq, Out.rt.injEq, Nat.lt_add_left_iff_pos, Nat.zero_lt_succ, Nat.reduceAdd, Nat.reduceLT, beq_eq_false_iff_ne.mpr hm, if_neg hm]
  have P3 : Part S ((conds S).filterMap selH) := ⟨fun c m => selH_mem m, by have := fm_len selH (conds S); omega⟩
  generalize (conds S).filterMap selH = cs2 at P3 ⊢
  have ap1 : mAppend (.lst false [D.tup [], .tup ((conds S).map condD), .tup (cs1.map condD)]) [.tup (cs2.map condD)] = some (.non, .lst false [D.tup [], .tup ((conds S).map condD), .tup (cs1.map condD), .tup (cs2.map condD)]) := app_lst (by simp)
  simp only [wipeE, w_pC, w_pVar, w_pOwn, w_p1, w_p2, w_pSl, w_oNo, w_oSome, w_pTup, w_pCall, w_aNil, w_aCons, w_pIsi, w_pIsi2, w_eP, w_eMove, w_e1, w_e2, w_eTup, w_eLst, w_eFz, w_eCall, w_aNilE, w_aConsE, w_eIf, w_eComp, w_eDc, w_eDef, w_cNil, w_cVal, w_cBor, w_eMeth, w_eMetP, w_plVar, w_plIx, w_eSMet, w_yesT, w_tP, w_p2t, w_e2t, w_tTruP, w_tTru, w_tNo, w_tAnd2, w_tOr2, w_iSeq, w_iRange1, w_iRange2, w_iEnumE, rngD_len, w_gNm, w_gTup, w_gsNil, w_gsCons, w_gPut, w_sNil, w_sRet, w_sExpr, w_sAsg, w_sIf, w_sFor, w_sFz, ok_some, ok_map, takeB, giveB, outsOf, wipeE, im_non, im_bl, im_int, im_str, im_tup, im_scr, im_lst, im_dcK, im_dcT, fz_non, fz_bl, fz_int, fz_str, fz_tup, fz_scr, fz_lstT, fz_lst, fz_dcT, fz_dcK, wk_tup, wk_lst, wk_scr, wk_str, sI_tup, sI_lst, tr_bl, lt_int, gt_int, le_int, ge_int, eq_int, ne_int, eq_str, ne_str, ne_bl, eq_bl, add_int, sub_int, neg_int, g_int, g_abs, ix_tup, ix_lst, at0, at1, at2, g_len_tup, g_len_lst, List.getElem?_cons_zero, List.getElem?_cons_succ, List.set_cons_zero, List.set_cons_succ, List.length_cons, List.length_nil, List.map_cons, List.map_nil, List.replicate_succ, List.replicate_zero, List.cons_append, List.nil_append, List.head?_cons, List.tail_cons, Option.join_some, Option.map_some, if_true, if_false, ite_true, ite_false, reduceIte, reduceCtorEq, BEq.rfl, Bool.false_eq_true, Bool.not_true, Bool.not_false, List.all_cons, List.all_nil, Bool.and_true, Bool.true_and, Bool.and_self, true_and, and_true, exists_eq_left, exists_eq_left', D.bl.injEq, D.int.injEq, D.str.injEq, D.tup.injEq, Out.rt.injEq, Nat.lt_add_left_iff_pos, Nat.zero_lt_succ, Nat.reduceAdd, Nat.reduceLT, g_tuple (cond_imm cs2), ap1]
  refine seq_ok ?_
  simp only [w_pC, w_pVar, w_pOwn, w_p1, w_p2, w_pSl, w_oNo, w_oSome, w_pTup, w_pCall, w_aNil, w_aCons, w_pIsi, w_pIsi2, w_eP, w_eMove, w_e1, w_e2, w_eTup, w_eLst, w_eFz, w_eCall, w_aNilE, w_aConsE, w_eIf, w_eComp, w_eDc, w_eDef, w_cNil, w_cVal, w_cBor, w_eMeth, w_eMetP, w_plVar, w_plIx, w_eSMet, w_yesT, w_tP, w_p2t, w_e2t, w_tTruP, w_tTru, w_tNo, w_tAnd2, w_tOr2, w_iSeq, w_iRange1, w_iRange2, w_iEnumE, rngD_len, w_gNm, w_gTup, w_gsNil, w_gsCons, w_gPut, w_sNil, w_sRet, w_sExpr, w_sAsg, w_sIf, w_sFor, w_sFz, ok_some, ok_map, takeB, giveB, outsOf, wipeE, im_non, im_bl, im_int, im_str, im_tup, im_scr, im_lst, im_dcK, im_dcT, fz_non, fz_bl, fz_int, fz_str, fz_tup, fz_scr, fz_lstT, fz_lst, fz_dcT, fz_dcK, wk_tup, wk_lst, wk_scr, wk_str, sI_tup, sI_lst, tr_bl, lt_int, gt_int, le_int, ge_int, eq_int, ne_int, eq_str, ne_str, ne_bl, eq_bl, add_int, sub_int, neg_int, g_int, g_abs, ix_tup, ix_lst, at0, at1, at2, g_len_tup, g_len_lst, List.getElem?_cons_zero, List.getElem?_cons_succ, List.set_cons_zero, List.set_cons_succ, List.length_cons, List.length_nil, List.map_cons, List.map_nil, List.replicate_succ, List.replicate_zero, List.cons_append, List.nil_append, List.head?_cons, List.tail_cons, Option.join_some, Option.map_some, if_true, if_false, ite_true, ite_false, reduceIte, reduceCtorEq, BEq.rfl, Bool.false_eq_true, Bool.not_true, Bool.not_false, List.all_cons, List.all_nil, Bool.and_true, Bool.true_and, Bool.and_self, true_and, and_true, exists_eq_left, exists_eq_left', D.bl.injEq, D.int.injEq, D.str.injEq, D.tup.injEq, Out.rt.injEq, Nat.lt_add_left_iff_pos, Nat.zero_lt_succ, Nat.reduceAdd, Nat.reduceLT, rl]
  refine comp_ok (fun j e acc => ∃ p x8, ∃ cs : List Cond, e = [some p, some (sheetD S), some (.bl each), some (.tup ((conds S).map condD)), some (.tup ((conds S).map condD)), some (.lst false [D.tup [], .tup ((conds S).map condD), .tup (cs1.map condD), .tup (cs2.map condD)]), none, none, x8] ∧ Pool p ∧ acc = cs.map condD ∧ (∀ c ∈ cs, c ∈ conds S) ∧ cs.length ≤ j) ⟨p1, none, [], rfl, hp1, rfl, fun _ m => (nomatch m), Nat.le_refl _⟩ ?_ ?_
  · rintro j d e acc hj ⟨p, x8, cs, rfl, hp, rfl, hs, hl⟩
    obtain ⟨hjl, rfl⟩ := at_cond hj
    have go : Ok (e2t dGt (eDef F__law_draw (cBor 0 (cVal (eP (pC (.int 3))) cNil))) (eP (pC (.int 0))) [some p, some (sheetD S), some (.bl each), some (.tup ((conds S).map condD)), some (.tup ((conds S).map condD)), some (.lst false [D.tup [], .tup ((conds S).map condD), .tup (cs1.map condD), .tup (cs2.map condD)]), none, none, some (condD (conds S)[j])]) fun b => ∃ p', Pool p' ∧ b.2 = [some p', some (sheetD S), some (.bl each), some (.tup ((conds S).map condD)), some (.tup ((conds S).map condD)), some (.lst false [D.tup [], .tup ((conds S).map condD), .tup (cs1.map condD), .tup (cs2.map condD)]), none, none, some (condD (conds S)[j])] := by
      simp only [w_pC, w_pVar, w_pOwn, w_p1, w_p2, w_pSl, w_oNo, w_oSome, w_pTup, w_pCall, w_aNil, w_aCons, w_pIsi, w_pIsi2, w_eP, w_eMove, w_e1, w_e2, w_eTup, w_eLst, w_eFz, w_eCall, w_aNilE, w_aConsE, w_eIf, w_eComp, w_eDc, w_eDef, w_cNil, w_cVal, w_cBor, w_eMeth, w_eMetP, w_plVar, w_plIx, w_eSMet, w_yesT, w_tP, w_p2t, w_e2t, w_tTruP, w_tTru, w_tNo, w_tAnd2, w_tOr2, w_iSeq, w_iRange1, w_iRange2, w_iEnumE, rngD_len, w_gNm, w_gTup, w_gsNil, w_gsCons, w_gPut, w_sNil, w_sRet, w_sExpr, w_sAsg, w_sIf, w_sFor, w_sFz, ok_some, ok_map, takeB, giveB, outsOf, wipeE, im_non, im_bl, im_int, im_str, im_tup, im_scr, im_lst, im_dcK, im_dcT, fz_non, fz_bl, fz_int, fz_str, fz_tup, fz_scr, fz_lstT, fz_lst, fz_dcT, fz_dcK, wk_tup, wk_lst, wk_scr, wk_str, sI_tup, sI_lst, tr_bl, lt_int, gt_int, le_int, ge_int, eq_int, ne_int, eq_str, ne_str, ne_bl, eq_bl, add_int, sub_int, neg_int, g_int, g_abs, ix_tup, ix_lst, at0, at1, at2, g_len_tup, g_len_lst, List.getElem?_cons_zero, List.getElem?_cons_succ, List.set_cons_zero, List.set_cons_succ, List.length_cons, List.length_nil, List.map_cons, List.map_nil, List.replicate_succ, List.replicate_zero, List.cons_append, List.nil_append, List.head?_cons, List.tail_cons, Option.join_some, Option.map_some, if_true, if_false, ite_true, ite_false, reduceIte, reduceCtorEq, BEq.rfl, Bool.false_eq_true, Bool.not_true, Bool.not_false, List.all_cons, List.all_nil, Bool.and_true, Bool.true_and, Bool.and_self, true_and, and_true, exists_eq_left, exists_eq_left', D.bl.injEq, D.int.injEq, D.str.injEq, D.tup.injEq, Out.rt.injEq, Nat.lt_add_left_iff_pos, Nat.zero_lt_succ, Nat.reduceAdd, Nat.reduceLT, hp.imm]
      refine draw_w hp (by decide) (by decide) fun r p' r0 r1 hp' => ?_
      simp only [w_pC, w_pVar, w_pOwn, w_p1, w_p2, w_pSl, w_oNo, w_oSome, w_pTup, w_pCall, w_aNil, w_aCons, w_pIsi, w_pIsi2, w_eP, w_eMove, w_e1, w_e2, w_eTup, w_eLst, w_eFz, w_eCall, w_aNilE, w_aConsE, w_eIf, w_eComp, w_eDc, w_eDef, w_cNil, w_cVal, w_cBor, w_eMeth, w_eMetP, w_plVar, w_plIx, w_eSMet, w_yesT, w_tP, w_p2t, w_e2t, w_tTruP, w_tTru, w_tNo, w_tAnd2, w_tOr2, w_iSeq, w_iRange1, w_iRange2, w_iEnumE, rngD_len, w_gNm, w_gTup, w_gsNil, w_gsCons, w_gPut, w_sNil, w_sRet, w_sExpr, w_sAsg, w_sIf, w_sFor, w_sFz, ok_some, ok_map, takeB, giveB, outsOf, wipeE, im_non, im_bl, im_int, im_str, im_tup, im_scr, im_lst, im_dcK, im_dcT, fz_non, fz_bl, fz_int, fz_str, fz_tup, fz_scr, fz_lstT, fz_lst, fz_dcT, fz_dcK, wk_tup, wk_lst, wk_scr, wk_str, sI_tup, sI_lst, tr_bl, lt_int, gt_int, le_int, ge_int, eq_int, ne_int, eq_str, ne_str, ne_bl, eq_bl, add_int, sub_int, neg_int, g_int, g_abs, ix_tup, ix_lst, at0, at1, at2, g_len_tup, g_len_lst, List.getElem?_cons_zero, List.getElem?_cons_succ, List.set_cons_zero, List.set_cons_succ, List.length_cons, List.length_nil, List.map_cons, List.map_nil, List.replicate_succ, List.replicate_zero, List.cons_append, List.nil_append, List.head?_cons, List.tail_cons, Option.join_some, Option.map_some, if_true, if_false, ite_true, ite_false, reduceIte, reduceCtorEq, BEq.rfl, Bool.false_eq_true, Bool.not_true, Bool.not_false, List.all_cons, List.all_nil, Bool.and_true, Bool.true_and, Bool.and_self, true_and, and_true, exists_eq_left, exists_eq_left', D.bl.injEq, D.int.injEq, D.str.injEq, D.tup.injEq, Out.rt.injEq, Nat.lt_add_left_iff_pos, Nat.zero_lt_succ, Nat.reduceAdd, Nat.reduceLT, hp.imm]
      exact ⟨p', hp', rfl⟩
    have step : ∀ b : Bool × Env, (∃ p', Pool p' ∧ b.2 = [some p', some (sheetD S), some (.bl each), some (.tup ((conds S).map condD)), some (.tup ((conds S).map condD)), some (.lst false [D.tup [], .tup ((conds S).map condD), .tup (cs1.map condD), .tup (cs2.map condD)]), none, none, some (condD (conds S)[j])]) →
        if b.1 = true then Ok (eMove 8 b.2) fun r => (cs.map condD).length < szL ∧ ∃ p x8, ∃ cs' : List Cond, r.2 = [some p, some (sheetD S), some (.bl each), some (.tup ((conds S).map condD)), some (.tup ((conds S).map condD)), some (.lst false [D.tup [], .tup ((conds S).map condD), .tup (cs1.map condD), .tup (cs2.map condD)]), none, none, x8] ∧ Pool p ∧ cs.map condD ++ [r.1] = cs'.map condD ∧ (∀ c ∈ cs', c ∈ conds S) ∧ cs'.length ≤ j + 1
        else ∃ p x8, ∃ cs' : List Cond, b.2 = [some p, some (sheetD S), some (.bl each), some (.tup ((conds S).map condD)), some (.tup ((conds S).map condD)), some (.lst false [D.tup [], .tup ((conds S).map condD), .tup (cs1.map condD), .tup (cs2.map condD)]), none, none, x8] ∧ Pool p ∧ cs.map condD = cs'.map condD ∧ (∀ c ∈ cs', c ∈ conds S) ∧ cs'.length ≤ j + 1 := by
      rintro ⟨b, e⟩ ⟨p', hp', rfl⟩
      cases b with
      | false =>
        simp only [w_pC, w_pVar, w_pOwn, w_p1, w_p2, w_pSl, w_oNo, w_oSome, w_pTup, w_pCall, w_aNil, w_aCons, w_pIsi, w_pIsi2, w_eP, w_eMove, w_e1, w_e2, w_eTup, w_eLst, w_eFz, w_eCall, w_aNilE, w_aConsE, w_eIf, w_eComp, w_eDc, w_eDef, w_cNil, w_cVal, w_cBor, w_eMeth, w_eMetP, w_plVar, w_plIx, w_eSMet, w_yesT, w_tP, w_p2t, w_e2t, w_tTruP, w_tTru, w_tNo, w_tAnd2, w_tOr2, w_iSeq, w_iRange1, w_iRange2, w_iEnumE, rngD_len, w_gNm, w_gTup, w_gsNil, w_gsCons, w_gPut, w_sNil, w_sRet, w_sExpr, w_sAsg, w_sIf, w_sFor, w_sFz, ok_some, ok_map, takeB, giveB, outsOf, wipeE, im_non, im_bl, im_int, im_str, im_tup, im_scr, im_lst, im_dcK, im_dcT, fz_non, fz_bl, fz_int, fz_str, fz_tup, fz_scr, fz_lstT, fz_lst, fz_dcT, fz_dcK, wk_tup, wk_lst, wk_scr, wk_str, sI_tup, sI_lst, tr_bl, lt_int, gt_int, le_int, ge_int, eq_int, ne_int, eq_str, ne_str, ne_bl, eq_bl, add_int, sub_int, neg_int, g_int, g_abs, ix_tup, ix_lst, at0, at1, at2, g_len_tup, g_len_lst, List.getElem?_cons_zero, List.getElem?_cons_succ, List.set_cons_zero, List.set_cons_succ, List.length_cons, List.length_nil, List.map_cons, List.map_nil, List.replicate_succ, List.replicate_zero, List.cons_append, List.nil_append, List.head?_cons, List.tail_cons, Option.join_some, Option.map_some, if_true, if_false, ite_true, ite_false, reduceIte, reduceCtorEq, BEq.rfl, Bool.false_eq_true, Bool.not_true, Bool.not_false, List.all_cons, List.all_nil, Bool.and_true, Bool.true_and, Bool.and_self, true_and, and_true, exists_eq_left, exists_eq_left', D.bl.injEq, D.int.injEq, D.str.injEq, D.tup.injEq, Out.rt.injEq, Nat.lt_add_left_iff_pos, Nat.zero_lt_succ, Nat.reduceAdd, Nat.reduceLT]
        exact ⟨p', _, cs, rfl, hp', rfl, hs, by omega⟩
      | true =>
        simp only [w_pC, w_pVar, w_pOwn, w_p1, w_p2, w_pSl, w_oNo, w_oSome, w_pTup, w_pCall, w_aNil, w_aCons, w_pIsi, w_pIsi2, w_eP, w_eMove, w_e1, w_e2, w_eTup, w_eLst, w_eFz, w_eCall, w_aNilE, w_aConsE, w_eIf, w_eComp, w_eDc, w_eDef, w_cNil, w_cVal, w_cBor, w_eMeth, w_eMetP, w_plVar, w_plIx, w_eSMet, w_yesT, w_tP, w_p2t, w_e2t, w_tTruP, w_tTru, w_tNo, w_tAnd2, w_tOr2, w_iSeq, w_iRange1, w_iRange2, w_iEnumE, rngD_len, w_gNm, w_gTup, w_gsNil, w_gsCons, w_gPut, w_sNil, w_sRet, w_sExpr, w_sAsg, w_sIf, w_sFor, w_sFz, ok_some, ok_map, takeB, giveB, outsOf, wipeE, im_non, im_bl, im_int, im_str, im_tup, im_scr, im_lst, im_dcK, im_dcT, fz_non, fz_bl, fz_int, fz_str, fz_tup, fz_scr, fz_lstT, fz_lst, fz_dcT, fz_dcK, wk_tup, wk_lst, wk_scr, wk_str, sI_tup, sI_lst, tr_bl, lt_int, gt_int, le_int, ge_int, eq_int, ne_int, eq_str, ne_str, ne_bl, eq_bl, add_int, sub_int, neg_int, g_int, g_abs, ix_tup, ix_lst, at0, at1, at2, g_len_tup, g_len_lst, List.getElem?_cons_zero, List.getElem?_cons_succ, List.set_cons_zero, List.set_cons_succ, List.length_cons, List.length_nil, List.map_cons, List.map_nil, List.replicate_succ, List.replicate_zero, List.cons_append, List.nil_append, List.head?_cons, List.tail_cons, Option.join_some, Option.map_some, if_true, if_false, ite_true, ite_false, reduceIte, reduceCtorEq, BEq.rfl, Bool.false_eq_true, Bool.not_true, Bool.not_false, List.all_cons, List.all_nil, Bool.and_true, Bool.true_and, Bool.and_self, true_and, and_true, exists_eq_left, exists_eq_left', D.bl.injEq, D.int.injEq, D.str.injEq, D.tup.injEq, Out.rt.injEq, Nat.lt_add_left_iff_pos, Nat.zero_lt_succ, Nat.reduceAdd, Nat.reduceLT, cond_imm1]
        refine ⟨by rw [List.length_map]; show cs.length < 16777216; omega, p', _, cs ++ [(conds S)[j]], rfl, hp', by simp, fun c m => ?_, by simp; omega⟩
        rcases List.mem_append.mp m with m | m
        · exact hs c m
        · have : c = (conds S)[j] := by simpa using m
          rw [this]; exact List.getElem_mem hjl
    obtain ⟨s0, hs0⟩ : ∃ s0, dIx (condD (conds S)[j]) (.int 0) = some (.str s0) := ⟨_, s_h⟩
    rw [w_gNm]
    refine ⟨by simp [wipeE], ?_⟩
    simp only [wipeE, List.set_cons_zero, List.set_cons_succ]
    rw [w_tAnd2]
    simp only [w_tP, w_p2t, w_p2, w_pVar, w_pC, List.getElem?_cons_zero, List.getElem?_cons_succ, Option.join_some, ok_some, hs0, ne_str, exists_eq_left', D.bl.injEq]
    generalize (!decide (s0 = ("tie" : Str))) = b
    cases b with
    | false =>
      simp only [Bool.false_eq_true, if_false]
      exact ⟨p, _, cs, rfl, hp, rfl, hs, by omega⟩
    | true =>
      simp only [if_true]
      exact ok_mono go fun b h => step b h
  rintro e acc ⟨p2, x8', cs3, rfl, hp2, rfl, hs3, hl3⟩
  rw [List.length_map] at hl3
  have P4 : Part S cs3 := ⟨hs3, by omega⟩
  have ap2 : mAppend (.lst false [D.tup [], .tup ((conds S).map condD), .tup (cs1.map condD), .tup (cs2.map condD)]) [.tup (cs3.map condD)] = some (.non, .lst false ([[], conds S, cs1, cs2, cs3].map partD)) := app_lst (by simp)
  simp only [wipeE, w_sExpr, w_pC, w_pVar, w_pOwn, w_p1, w_p2, w_pSl, w_oNo, w_oSome, w_pTup, w_pCall, w_aNil, w_aCons, w_pIsi, w_pIsi2, w_eP, w_eMove, w_e1, w_e2, w_eTup, w_eLst, w_eFz, w_eCall, w_aNilE, w_aConsE, w_eIf, w_eComp, w_eDc, w_eDef, w_cNil, w_cVal, w_cBor, w_eMeth, w_eMetP, w_plVar, w_plIx, w_eSMet, w_yesT, w_tP, w_p2t, w_e2t, w_tTruP, w_tTru, w_tNo, w_tAnd2, w_tOr2, w_iSeq, w_iRange1, w_iRange2, w_iEnumE, rngD_len, w_gNm, w_gTup, w_gsNil, w_gsCons, w_gPut, w_sNil, w_sRet, w_sExpr, w_sAsg, w_sIf, w_sFor, w_sFz, ok_some, ok_map, takeB, giveB, outsOf, wipeE, im_non, im_bl, im_int, im_str, im_tup, im_scr, im_lst, im_dcK, im_dcT, fz_non, fz_bl, fz_int, fz_str, fz_tup, fz_scr, fz_lstT, fz_lst, fz_dcT, fz_dcK, wk_tup, wk_lst, wk_scr, wk_str, sI_tup, sI_lst, tr_bl, lt_int, gt_int, le_int, ge_int, eq_int, ne_int, eq_str, ne_str, ne_bl, eq_bl, add_int, sub_int, neg_int, g_int, g_abs, ix_tup, ix_lst, at0, at1, at2, g_len_tup, g_len_lst, List.getElem?_cons_zero, List.getElem?_cons_succ, List.set_cons_zero, List.set_cons_succ, List.length_cons, List.length_nil, List.map_cons, List.map_nil, List.replicate_succ, List.replicate_zero, List.cons_append, List.nil_append, List.head?_cons, List.tail_cons, Option.join_some, Option.map_some, if_true, if_false, ite_true, ite_false, reduceIte, reduceCtorEq, BEq.rfl, Bool.false_eq_true, Bool.not_true, Bool.not_false, List.all_cons, List.all_nil, Bool.and_true, Bool.true_and, Bool.and_self, true_and, and_true, exists_eq_left, exists_eq_left', D.bl.injEq, D.int.injEq, D.str.injEq, D.tup.injEq, Out.rt.injEq, Nat.lt_add_left_iff_pos, Nat.zero_lt_succ, Nat.reduceAdd, Nat.reduceLT, g_tuple (cond_imm cs3)]
  simp only [List.map_cons, List.map_nil] at ap2
  simp only [ap2, ok_some, List.set_cons_succ, List.set_cons_zero, true_and]
  refine seq_ok (ok_mono (Q := fun r => r.1 = .nx ∧ ∃ pss : List (List Cond), (∀ cs ∈ pss, Part S cs) ∧ r.2 = [some p2, some (sheetD S), some (.bl each), some (.tup ((conds S).map condD)), some (.tup ((conds S).map condD)), some (.lst false (pss.map partD)), none, none, none]) ?_ ?_)
  · have P5 : ∀ cs ∈ [[], conds S, cs1, cs2, cs3], Part S cs := fun cs m => by
      simp only [List.mem_cons, List.not_mem_nil, or_false] at m
      rcases m with rfl | rfl | rfl | rfl | rfl
      · exact P0
      · exact P1
      · exact P2
      · exact P3
      · exact P4
    simp only [w_pC, w_pVar, w_pOwn, w_p1, w_p2, w_pSl, w_oNo, w_oSome, w_pTup, w_pCall, w_aNil, w_aCons, w_pIsi, w_pIsi2, w_eP, w_eMove, w_e1, w_e2, w_eTup, w_eLst, w_eFz, w_eCall, w_aNilE, w_aConsE, w_eIf, w_eComp, w_eDc, w_eDef, w_cNil, w_cVal, w_cBor, w_eMeth, w_eMetP, w_plVar, w_plIx, w_eSMet, w_yesT, w_tP, w_p2t, w_e2t, w_tTruP, w_tTru, w_tNo, w_tAnd2, w_tOr2, w_iSeq, w_iRange1, w_iRange2, w_iEnumE, rngD_len, w_gNm, w_gTup, w_gsNil, w_gsCons, w_gPut, w_sNil, w_sRet, w_sExpr, w_sAsg, w_sIf, w_sFor, w_sFz, ok_some, ok_map, takeB, giveB, outsOf, wipeE, im_non, im_bl, im_int, im_str, im_tup, im_scr, im_lst, im_dcK, im_dcT, fz_non, fz_bl, fz_int, fz_str, fz_tup, fz_scr, fz_lstT, fz_lst, fz_dcT, fz_dcK, wk_tup, wk_lst, wk_scr, wk_str, sI_tup, sI_lst, tr_bl, lt_int, gt_int, le_int, ge_int, eq_int, ne_int, eq_str, ne_str, ne_bl, eq_bl, add_int, sub_int, neg_int, g_int, g_abs, ix_tup, ix_lst, at0, at1, at2, g_len_tup, g_len_lst, List.getElem?_cons_zero, List.getElem?_cons_succ, List.set_cons_zero, List.set_cons_succ, List.length_cons, List.length_nil, List.map_cons, List.map_nil, List.replicate_succ, List.replicate_zero, List.cons_append, List.nil_append, List.head?_cons, List.tail_cons, Option.join_some, Option.map_some, if_true, if_false, ite_true, ite_false, reduceIte, reduceCtorEq, BEq.rfl, Bool.false_eq_true, Bool.not_true, Bool.not_false, List.all_cons, List.all_nil, Bool.and_true, Bool.true_and, Bool.and_self, true_and, and_true, exists_eq_left, exists_eq_left', D.bl.injEq, D.int.injEq, D.str.injEq, D.tup.injEq, Out.rt.injEq, Nat.lt_add_left_iff_pos, Nat.zero_lt_succ, Nat.reduceAdd, Nat.reduceLT]
    cases each with
    | false =>
      simp only [w_pC, w_pVar, w_pOwn, w_p1, w_p2, w_pSl, w_oNo, w_oSome, w_pTup, w_pCall, w_aNil, w_aCons, w_pIsi, w_pIsi2, w_eP, w_eMove, w_e1, w_e2, w_eTup, w_eLst, w_eFz, w_eCall, w_aNilE, w_aConsE, w_eIf, w_eComp, w_eDc, w_eDef, w_cNil, w_cVal, w_cBor, w_eMeth, w_eMetP, w_plVar, w_plIx, w_eSMet, w_yesT, w_tP, w_p2t, w_e2t, w_tTruP, w_tTru, w_tNo, w_tAnd2, w_tOr2, w_iSeq, w_iRange1, w_iRange2, w_iEnumE, rngD_len, w_gNm, w_gTup, w_gsNil, w_gsCons, w_gPut, w_sNil, w_sRet, w_sExpr, w_sAsg, w_sIf, w_sFor, w_sFz, ok_some, ok_map, takeB, giveB, outsOf, wipeE, im_non, im_bl, im_int, im_str, im_tup, im_scr, im_lst, im_dcK, im_dcT, fz_non, fz_bl, fz_int, fz_str, fz_tup, fz_scr, fz_lstT, fz_lst, fz_dcT, fz_dcK, wk_tup, wk_lst, wk_scr, wk_str, sI_tup, sI_lst, tr_bl, lt_int, gt_int, le_int, ge_int, eq_int, ne_int, eq_str, ne_str, ne_bl, eq_bl, add_int, sub_int, neg_int, g_int, g_abs, ix_tup, ix_lst, at0, at1, at2, g_len_tup, g_len_lst, List.getElem?_cons_zero, List.getElem?_cons_succ, List.set_cons_zero, List.set_cons_succ, List.length_cons, List.length_nil, List.map_cons, List.map_nil, List.replicate_succ, List.replicate_zero, List.cons_append, List.nil_append, List.head?_cons, List.tail_cons, Option.join_some, Option.map_some, if_true, if_false, ite_true, ite_false, reduceIte, reduceCtorEq, BEq.rfl, Bool.false_eq_true, Bool.not_true, Bool.not_false, List.all_cons, List.all_nil, Bool.and_true, Bool.true_and, Bool.and_self, true_and, and_true, exists_eq_left, exists_eq_left', D.bl.injEq, D.int.injEq, D.str.injEq, D.tup.injEq, Out.rt.injEq, Nat.lt_add_left_iff_pos, Nat.zero_lt_succ, Nat.reduceAdd, Nat.reduceLT]
      exact ⟨_, P5, by simp⟩
    | true =>
      simp only [w_pC, w_pVar, w_pOwn, w_p1, w_p2, w_pSl, w_oNo, w_oSome, w_pTup, w_pCall, w_aNil, w_aCons, w_pIsi, w_pIsi2, w_eP, w_eMove, w_e1, w_e2, w_eTup, w_eLst, w_eFz, w_eCall, w_aNilE, w_aConsE, w_eIf, w_eComp, w_eDc, w_eDef, w_cNil, w_cVal, w_cBor, w_eMeth, w_eMetP, w_plVar, w_plIx, w_eSMet, w_yesT, w_tP, w_p2t, w_e2t, w_tTruP, w_tTru, w_tNo, w_tAnd2, w_tOr2, w_iSeq, w_iRange1, w_iRange2, w_iEnumE, rngD_len, w_gNm, w_gTup, w_gsNil, w_gsCons, w_gPut, w_sNil, w_sRet, w_sExpr, w_sAsg, w_sIf, w_sFor, w_sFz, ok_some, ok_map, takeB, giveB, outsOf, wipeE, im_non, im_bl, im_int, im_str, im_tup, im_scr, im_lst, im_dcK, im_dcT, fz_non, fz_bl, fz_int, fz_str, fz_tup, fz_scr, fz_lstT, fz_lst, fz_dcT, fz_dcK, wk_tup, wk_lst, wk_scr, wk_str, sI_tup, sI_lst, tr_bl, lt_int, gt_int, le_int, ge_int, eq_int, ne_int, eq_str, ne_str, ne_bl, eq_bl, add_int, sub_int, neg_int, g_int, g_abs, ix_tup, ix_lst, at0, at1, at2, g_len_tup, g_len_lst, List.getElem?_cons_zero, List.getElem?_cons_succ, List.set_cons_zero, List.set_cons_succ, List.length_cons, List.length_nil, List.map_cons, List.map_nil, List.replicate_succ, List.replicate_zero, List.cons_append, List.nil_append, List.head?_cons, List.tail_cons, Option.join_some, Option.map_some, if_true, if_false, ite_true, ite_false, reduceIte, reduceCtorEq, BEq.rfl, Bool.false_eq_true, Bool.not_true, Bool.not_false, List.all_cons, List.all_nil, Bool.and_true, Bool.true_and, Bool.and_self, true_and, and_true, exists_eq_left, exists_eq_left', D.bl.injEq, D.int.injEq, D.str.injEq, D.tup.injEq, Out.rt.injEq, Nat.lt_add_left_iff_pos, Nat.zero_lt_succ, Nat.reduceAdd, Nat.reduceLT]
      refine comp_fm (h := partD) (fun c => some [c]) (by rfl) (fun c _ => ?_) (by rw [List.length_nil]; omega) ?_
      · simp only [wipeE, w_pC, w_pVar, w_pOwn, w_p1, w_p2, w_pSl, w_oNo, w_oSome, w_pTup, w_pCall, w_aNil, w_aCons, w_pIsi, w_pIsi2, w_eP, w_eMove, w_e1, w_e2, w_eTup, w_eLst, w_eFz, w_eCall, w_aNilE, w_aConsE, w_eIf, w_eComp, w_eDc, w_eDef, w_cNil, w_cVal, w_cBor, w_eMeth, w_eMetP, w_plVar, w_plIx, w_eSMet, w_yesT, w_tP, w_p2t, w_e2t, w_tTruP, w_tTru, w_tNo, w_tAnd2, w_tOr2, w_iSeq, w_iRange1, w_iRange2, w_iEnumE, rngD_len, w_gNm, w_gTup, w_gsNil, w_gsCons, w_gPut, w_sNil, w_sRet, w_sExpr, w_sAsg, w_sIf, w_sFor, w_sFz, ok_some, ok_map, takeB, giveB, outsOf, wipeE, im_non, im_bl, im_int, im_str, im_tup, im_scr, im_lst, im_dcK, im_dcT, fz_non, fz_bl, fz_int, fz_str, fz_tup, fz_scr, fz_lstT, fz_lst, fz_dcT, fz_dcK, wk_tup, wk_lst, wk_scr, wk_str, sI_tup, sI_lst, tr_bl, lt_int, gt_int, le_int, ge_int, eq_int, ne_int, eq_str, ne_str, ne_bl, eq_bl, add_int, sub_int, neg_int, g_int, g_abs, ix_tup, ix_lst, at0, at1, at2, g_len_tup, g_len_lst, List.getElem?_cons_zero, List.getElem?_cons_succ, List.set_cons_zero, List.set_cons_succ, List.length_cons, List.length_nil, List.map_cons, List.map_nil, List.replicate_succ, List.replicate_zero, List.cons_append, List.nil_append, List.head?_cons, List.tail_cons, Option.join_some, Option.map_some, if_true, if_false, ite_true, ite_false, reduceIte, reduceCtorEq, BEq.rfl, Bool.false_eq_true, Bool.not_true, Bool.not_false, List.all_cons, List.all_nil, Bool.and_true, Bool.true_and, Bool.and_self, true_and, and_true, exists_eq_left, exists_eq_left', D.bl.injEq, D.int.injEq, D.str.injEq, D.tup.injEq, Out.rt.injEq, Nat.lt_add_left_iff_pos, Nat.zero_lt_succ, Nat.reduceAdd, Nat.reduceLT, cond_imm1]
        exact ⟨_, rfl, by decide, rfl⟩
      rw [filterMap_all]
      have a9 : dAdd (.lst false [partD [], partD (conds S), partD cs1, partD cs2, partD cs3]) (.lst false (((conds S).map fun c => [c]).map partD)) = some (.lst false ([partD [], partD (conds S), partD cs1, partD cs2, partD cs3] ++ ((conds S).map fun c => [c]).map partD)) := add_lst (by simp only [List.length_map, List.length_cons, List.length_nil]; omega) rfl (part_imm _)
      simp only [wipeE, w_pC, w_pVar, w_pOwn, w_p1, w_p2, w_pSl, w_oNo, w_oSome, w_pTup, w_pCall, w_aNil, w_aCons, w_pIsi, w_pIsi2, w_eP, w_eMove, w_e1, w_e2, w_eTup, w_eLst, w_eFz, w_eCall, w_aNilE, w_aConsE, w_eIf, w_eComp, w_eDc, w_eDef, w_cNil, w_cVal, w_cBor, w_eMeth, w_eMetP, w_plVar, w_plIx, w_eSMet, w_yesT, w_tP, w_p2t, w_e2t, w_tTruP, w_tTru, w_tNo, w_tAnd2, w_tOr2, w_iSeq, w_iRange1, w_iRange2, w_iEnumE, rngD_len, w_gNm, w_gTup, w_gsNil, w_gsCons, w_gPut, w_sNil, w_sRet, w_sExpr, w_sAsg, w_sIf, w_sFor, w_sFz, ok_some, ok_map, takeB, giveB, outsOf, wipeE, im_non, im_bl, im_int, im_str, im_tup, im_scr, im_lst, im_dcK, im_dcT, fz_non, fz_bl, fz_int, fz_str, fz_tup, fz_scr, fz_lstT, fz_lst, fz_dcT, fz_dcK, wk_tup, wk_lst, wk_scr, wk_str, sI_tup, sI_lst, tr_bl, lt_int, gt_int, le_int, ge_int, eq_int, ne_int, eq_str, ne_str, ne_bl, eq_bl, add_int, sub_int, neg_int, g_int, g_abs, ix_tup, ix_lst, at0, at1, at2, g_len_tup, g_len_lst, List.getElem?_cons_zero, List.getElem?_cons_succ, List.set_cons_zero, List.set_cons_succ, List.length_cons, List.length_nil, List.map_cons, List.map_nil, List.replicate_succ, List.replicate_zero, List.cons_append, List.nil_append, List.head?_cons, List.tail_cons, Option.join_some, Option.map_some, if_true, if_false, ite_true, ite_false, reduceIte, reduceCtorEq, BEq.rfl, Bool.false_eq_true, Bool.not_true, Bool.not_false, List.all_cons, List.all_nil, Bool.and_true, Bool.true_and, Bool.and_self, true_and, and_true, exists_eq_left, exists_eq_left', D.bl.injEq, D.int.injEq, D.str.injEq, D.tup.injEq, Out.rt.injEq, Nat.lt_add_left_iff_pos, Nat.zero_lt_succ, Nat.reduceAdd, Nat.reduceLT, a9]
      refine ⟨[[], conds S, cs1, cs2, cs3] ++ (conds S).map fun c => [c], fun cs m => ?_, by simp⟩
      rcases List.mem_append.mp m with m | m
      · exact P5 cs m
      · obtain ⟨c, mc, rfl⟩ := List.mem_map.mp m
        exact ⟨fun d md => by rw [show d = c from by simpa using md]; exact mc, by simp⟩
  rintro ⟨o, e⟩ ⟨ho, pss, hps, he⟩
  have ho : o = .nx := ho
  have he : e = _ := he
  subst ho he
  refine ⟨rfl, ?_⟩
  refine seq_ok ?_
  simp only [w_pC, w_pVar, w_pOwn, w_p1, w_p2, w_pSl, w_oNo, w_oSome, w_pTup, w_pCall, w_aNil, w_aCons, w_pIsi, w_pIsi2, w_eP, w_eMove, w_e1, w_e2, w_eTup, w_eLst, w_eFz, w_eCall, w_aNilE, w_aConsE, w_eIf, w_eComp, w_eDc, w_eDef, w_cNil, w_cVal, w_cBor, w_eMeth, w_eMetP, w_plVar, w_plIx, w_eSMet, w_yesT, w_tP, w_p2t, w_e2t, w_tTruP, w_tTru, w_tNo, w_tAnd2, w_tOr2, w_iSeq, w_iRange1, w_iRange2, w_iEnumE, rngD_len, w_gNm, w_gTup, w_gsNil, w_gsCons, w_gPut, w_sNil, w_sRet, w_sExpr, w_sAsg, w_sIf, w_sFor, w_sFz, ok_some, ok_map, takeB, giveB, outsOf, wipeE, im_non, im_bl, im_int, im_str, im_tup, im_scr, im_lst, im_dcK, im_dcT, fz_non, fz_bl, fz_int, fz_str, fz_tup, fz_scr, fz_lstT, fz_lst, fz_dcT, fz_dcK, wk_tup, wk_lst, wk_scr, wk_str, sI_tup, sI_lst, tr_bl, lt_int, gt_int, le_int, ge_int, eq_int, ne_int, eq_str, ne_str, ne_bl, eq_bl, add_int, sub_int, neg_int, g_int, g_abs, ix_tup, ix_lst, at0, at1, at2, g_len_tup, g_len_lst, List.getElem?_cons_zero, List.getElem?_cons_succ, List.set_cons_zero, List.set_cons_succ, List.length_cons, List.length_nil, List.map_cons, List.map_nil, List.replicate_succ, List.replicate_zero, List.cons_append, List.nil_append, List.head?_cons, List.tail_cons, Option.join_some, Option.map_some, if_true, if_false, ite_true, ite_false, reduceIte, reduceCtorEq, BEq.rfl, Bool.false_eq_true, Bool.not_true, Bool.not_false, List.all_cons, List.all_nil, Bool.and_true, Bool.true_and, Bool.and_self, true_and, and_true, exists_eq_left, exists_eq_left', D.bl.injEq, D.int.injEq, D.str.injEq, D.tup.injEq, Out.rt.injEq, Nat.lt_add_left_iff_pos, Nat.zero_lt_succ, Nat.reduceAdd, Nat.reduceLT, fzs_map pss (f := partD) (fun _ => rfl)]
  refine for_ok (fun i e => ∃ x6, e = [some p2, some (sheetD S), some (.bl each), some (.tup ((conds S).map condD)), some (.tup ((conds S).map condD)), some (.lst true (pss.map partD)), x6, none, none]) ⟨none, rfl⟩ ?_ ?_
  · rintro i dd e hi ⟨x6, rfl⟩
    obtain ⟨hil, rfl⟩ := at_mapE hi
    obtain ⟨q1, q2⟩ := hps _ (List.getElem_mem hil)
    have imp : isImm (partD pss[i]) = true := rfl
    simp only [w_pC, w_pVar, w_pOwn, w_p1, w_p2, w_pSl, w_oNo, w_oSome, w_pTup, w_pCall, w_aNil, w_aCons, w_pIsi, w_pIsi2, w_eP, w_eMove, w_e1, w_e2, w_eTup, w_eLst, w_eFz, w_eCall, w_aNilE, w_aConsE, w_eIf, w_eComp, w_eDc, w_eDef, w_cNil, w_cVal, w_cBor, w_eMeth, w_eMetP, w_plVar, w_plIx, w_eSMet, w_yesT, w_tP, w_p2t, w_e2t, w_tTruP, w_tTru, w_tNo, w_tAnd2, w_tOr2, w_iSeq, w_iRange1, w_iRange2, w_iEnumE, rngD_len, w_gNm, w_gTup, w_gsNil, w_gsCons, w_gPut, w_sNil, w_sRet, w_sExpr, w_sAsg, w_sIf, w_sFor, w_sFz, ok_some, ok_map, takeB, giveB, outsOf, wipeE, im_non, im_bl, im_int, im_str, im_tup, im_scr, im_lst, im_dcK, im_dcT, fz_non, fz_bl, fz_int, fz_str, fz_tup, fz_scr, fz_lstT, fz_lst, fz_dcT, fz_dcK, wk_tup, wk_lst, wk_scr, wk_str, sI_tup, sI_lst, tr_bl, lt_int, gt_int, le_int, ge_int, eq_int, ne_int, eq_str, ne_str, ne_bl, eq_bl, add_int, sub_int, neg_int, g_int, g_abs, ix_tup, ix_lst, at0, at1, at2, g_len_tup, g_len_lst, List.getElem?_cons_zero, List.getElem?_cons_succ, List.set_cons_zero, List.set_cons_succ, List.length_cons, List.length_nil, List.map_cons, List.map_nil, List.replicate_succ, List.replicate_zero, List.cons_append, List.nil_append, List.head?_cons, List.tail_cons, Option.join_some, Option.map_some, if_true, if_false, ite_true, ite_false, reduceIte, reduceCtorEq, BEq.rfl, Bool.false_eq_true, Bool.not_true, Bool.not_false, List.all_cons, List.all_nil, Bool.and_true, Bool.true_and, Bool.and_self, true_and, and_true, exists_eq_left, exists_eq_left', D.bl.injEq, D.int.injEq, D.str.injEq, D.tup.injEq, Out.rt.injEq, Nat.lt_add_left_iff_pos, Nat.zero_lt_succ, Nat.reduceAdd, Nat.reduceLT, im, imp]
    refine sheet_without_w hS (hok.sub q1) (by omega) ?_
    simp only [w_pC, w_pVar, w_pOwn, w_p1, w_p2, w_pSl, w_oNo, w_oSome, w_pTup, w_pCall, w_aNil, w_aCons, w_pIsi, w_pIsi2, w_eP, w_eMove, w_e1, w_e2, w_eTup, w_eLst, w_eFz, w_eCall, w_aNilE, w_aConsE, w_eIf, w_eComp, w_eDc, w_eDef, w_cNil, w_cVal, w_cBor, w_eMeth, w_eMetP, w_plVar, w_plIx, w_eSMet, w_yesT, w_tP, w_p2t, w_e2t, w_tTruP, w_tTru, w_tNo, w_tAnd2, w_tOr2, w_iSeq, w_iRange1, w_iRange2, w_iEnumE, rngD_len, w_gNm, w_gTup, w_gsNil, w_gsCons, w_gPut, w_sNil, w_sRet, w_sExpr, w_sAsg, w_sIf, w_sFor, w_sFz, ok_some, ok_map, takeB, giveB, outsOf, wipeE, im_non, im_bl, im_int, im_str, im_tup, im_scr, im_lst, im_dcK, im_dcT, fz_non, fz_bl, fz_int, fz_str, fz_tup, fz_scr, fz_lstT, fz_lst, fz_dcT, fz_dcK, wk_tup, wk_lst, wk_scr, wk_str, sI_tup, sI_lst, tr_bl, lt_int, gt_int, le_int, ge_int, eq_int, ne_int, eq_str, ne_str, ne_bl, eq_bl, add_int, sub_int, neg_int, g_int, g_abs, ix_tup, ix_lst, at0, at1, at2, g_len_tup, g_len_lst, List.getElem?_cons_zero, List.getElem?_cons_succ, List.set_cons_zero, List.set_cons_succ, List.length_cons, List.length_nil, List.map_cons, List.map_nil, List.replicate_succ, List.replicate_zero, List.cons_append, List.nil_append, List.head?_cons, List.tail_cons, Option.join_some, Option.map_some, if_true, if_false, ite_true, ite_false, reduceIte, reduceCtorEq, BEq.rfl, Bool.false_eq_true, Bool.not_true, Bool.not_false, List.all_cons, List.all_nil, Bool.and_true, Bool.true_and, Bool.and_self, true_and, and_true, exists_eq_left, exists_eq_left', D.bl.injEq, D.int.injEq, D.str.injEq, D.tup.injEq, Out.rt.injEq, Nat.lt_add_left_iff_pos, Nat.zero_lt_succ, Nat.reduceAdd, Nat.reduceLT, im, imp]
    refine lwithout_w hS (hok.sub q1) (by omega) ?_
    simp only [w_pC, w_pVar, w_pOwn, w_p1, w_p2, w_pSl, w_oNo, w_oSome, w_pTup, w_pCall, w_aNil, w_aCons, w_pIsi, w_pIsi2, w_eP, w_eMove, w_e1, w_e2, w_eTup, w_eLst, w_eFz, w_eCall, w_aNilE, w_aConsE, w_eIf, w_eComp, w_eDc, w_eDef, w_cNil, w_cVal, w_cBor, w_eMeth, w_eMetP, w_plVar, w_plIx, w_eSMet, w_yesT, w_tP, w_p2t, w_e2t, w_tTruP, w_tTru, w_tNo, w_tAnd2, w_tOr2, w_iSeq, w_iRange1, w_iRange2, w_iEnumE, rngD_len, w_gNm, w_gTup, w_gsNil, w_gsCons, w_gPut, w_sNil, w_sRet, w_sExpr, w_sAsg, w_sIf, w_sFor, w_sFz, ok_some, ok_map, takeB, giveB, outsOf, wipeE, im_non, im_bl, im_int, im_str, im_tup, im_scr, im_lst, im_dcK, im_dcT, fz_non, fz_bl, fz_int, fz_str, fz_tup, fz_scr, fz_lstT, fz_lst, fz_dcT, fz_dcK, wk_tup, wk_lst, wk_scr, wk_str, sI_tup, sI_lst, tr_bl, lt_int, gt_int, le_int, ge_int, eq_int, ne_int, eq_str, ne_str, ne_bl, eq_bl, add_int, sub_int, neg_int, g_int, g_abs, ix_tup, ix_lst, at0, at1, at2, g_len_tup, g_len_lst, List.getElem?_cons_zero, List.getElem?_cons_succ, List.set_cons_zero, List.set_cons_succ, List.length_cons, List.length_nil, List.map_cons, List.map_nil, List.replicate_succ, List.replicate_zero, List.cons_append, List.nil_append, List.head?_cons, List.tail_cons, Option.join_some, Option.map_some, if_true, if_false, ite_true, ite_false, reduceIte, reduceCtorEq, BEq.rfl, Bool.false_eq_true, Bool.not_true, Bool.not_false, List.all_cons, List.all_nil, Bool.and_true, Bool.true_and, Bool.and_self, true_and, and_true, exists_eq_left, exists_eq_left', D.bl.injEq, D.int.injEq, D.str.injEq, D.tup.injEq, Out.rt.injEq, Nat.lt_add_left_iff_pos, Nat.zero_lt_succ, Nat.reduceAdd, Nat.reduceLT, im, imp]
    refine same_w (sheet_plain _) (sheet_nodes (without_fine hS _)) ?_
    simp only [w_pC, w_pVar, w_pOwn, w_p1, w_p2, w_pSl, w_oNo, w_oSome, w_pTup, w_pCall, w_aNil, w_aCons, w_pIsi, w_pIsi2, w_eP, w_eMove, w_e1, w_e2, w_eTup, w_eLst, w_eFz, w_eCall, w_aNilE, w_aConsE, w_eIf, w_eComp, w_eDc, w_eDef, w_cNil, w_cVal, w_cBor, w_eMeth, w_eMetP, w_plVar, w_plIx, w_eSMet, w_yesT, w_tP, w_p2t, w_e2t, w_tTruP, w_tTru, w_tNo, w_tAnd2, w_tOr2, w_iSeq, w_iRange1, w_iRange2, w_iEnumE, rngD_len, w_gNm, w_gTup, w_gsNil, w_gsCons, w_gPut, w_sNil, w_sRet, w_sExpr, w_sAsg, w_sIf, w_sFor, w_sFz, ok_some, ok_map, takeB, giveB, outsOf, wipeE, im_non, im_bl, im_int, im_str, im_tup, im_scr, im_lst, im_dcK, im_dcT, fz_non, fz_bl, fz_int, fz_str, fz_tup, fz_scr, fz_lstT, fz_lst, fz_dcT, fz_dcK, wk_tup, wk_lst, wk_scr, wk_str, sI_tup, sI_lst, tr_bl, lt_int, gt_int, le_int, ge_int, eq_int, ne_int, eq_str, ne_str, ne_bl, eq_bl, add_int, sub_int, neg_int, g_int, g_abs, ix_tup, ix_lst, at0, at1, at2, g_len_tup, g_len_lst, List.getElem?_cons_zero, List.getElem?_cons_succ, List.set_cons_zero, List.set_cons_succ, List.length_cons, List.length_nil, List.map_cons, List.map_nil, List.replicate_succ, List.replicate_zero, List.cons_append, List.nil_append, List.head?_cons, List.tail_cons, Option.join_some, Option.map_some, if_true, if_false, ite_true, ite_false, reduceIte, reduceCtorEq, BEq.rfl, Bool.false_eq_true, Bool.not_true, Bool.not_false, List.all_cons, List.all_nil, Bool.and_true, Bool.true_and, Bool.and_self, true_and, and_true, exists_eq_left, exists_eq_left', D.bl.injEq, D.int.injEq, D.str.injEq, D.tup.injEq, Out.rt.injEq, Nat.lt_add_left_iff_pos, Nat.zero_lt_succ, Nat.reduceAdd, Nat.reduceLT]
    exact ⟨_, rfl⟩
  rintro e ⟨x6, rfl⟩
  refine ⟨rfl, ?_⟩
  simp only [w_pC, w_pVar, w_pOwn, w_p1, w_p2, w_pSl, w_oNo, w_oSome, w_pTup, w_pCall, w_aNil, w_aCons, w_pIsi, w_pIsi2, w_eP, w_eMove, w_e1, w_e2, w_eTup, w_eLst, w_eFz, w_eCall, w_aNilE, w_aConsE, w_eIf, w_eComp, w_eDc, w_eDef, w_cNil, w_cVal, w_cBor, w_eMeth, w_eMetP, w_plVar, w_plIx, w_eSMet, w_yesT, w_tP, w_p2t, w_e2t, w_tTruP, w_tTru, w_tNo, w_tAnd2, w_tOr2, w_iSeq, w_iRange1, w_iRange2, w_iEnumE, rngD_len, w_gNm, w_gTup, w_gsNil, w_gsCons, w_gPut, w_sNil, w_sRet, w_sExpr, w_sAsg, w_sIf, w_sFor, w_sFz, ok_some, ok_map, takeB, giveB, outsOf, wipeE, im_non, im_bl, im_int, im_str, im_tup, im_scr, im_lst, im_dcK, im_dcT, fz_non, fz_bl, fz_int, fz_str, fz_tup, fz_scr, fz_lstT, fz_lst, fz_dcT, fz_dcK, wk_tup, wk_lst, wk_scr, wk_str, sI_tup, sI_lst, tr_bl, lt_int, gt_int, le_int, ge_int, eq_int, ne_int, eq_str, ne_str, ne_bl, eq_bl, add_int, sub_int, neg_int, g_int, g_abs, ix_tup, ix_lst, at0, at1, at2, g_len_tup, g_len_lst, List.getElem?_cons_zero, List.getElem?_cons_succ, List.set_cons_zero, List.set_cons_succ, List.length_cons, List.length_nil, List.map_cons, List.map_nil, List.replicate_succ, List.replicate_zero, List.cons_append, List.nil_append, List.head?_cons, List.tail_cons, Option.join_some, Option.map_some, if_true, if_false, ite_true, ite_false, reduceIte, reduceCtorEq, BEq.rfl, Bool.false_eq_true, Bool.not_true, Bool.not_false, List.all_cons, List.all_nil, Bool.and_true, Bool.true_and, Bool.and_self, true_and, and_true, exists_eq_left, exists_eq_left', D.bl.injEq, D.int.injEq, D.str.injEq, D.tup.injEq, Out.rt.injEq, Nat.lt_add_left_iff_pos, Nat.zero_lt_succ, Nat.reduceAdd, Nat.reduceLT, im]
  refine lwithout_w hS hok (by omega) ?_
  simp only [w_pC, w_pVar, w_pOwn, w_p1, w_p2, w_pSl, w_oNo, w_oSome, w_pTup, w_pCall, w_aNil, w_aCons, w_pIsi, w_pIsi2, w_eP, w_eMove, w_e1, w_e2, w_eTup, w_eLst, w_eFz, w_eCall, w_aNilE, w_aConsE, w_eIf, w_eComp, w_eDc, w_eDef, w_cNil, w_cVal, w_cBor, w_eMeth, w_eMetP, w_plVar, w_plIx, w_eSMet, w_yesT, w_tP, w_p2t, w_e2t, w_tTruP, w_tTru, w_tNo, w_tAnd2, w_tOr2, w_iSeq, w_iRange1, w_iRange2, w_iEnumE, rngD_len, w_gNm, w_gTup, w_gsNil, w_gsCons, w_gPut, w_sNil, w_sRet, w_sExpr, w_sAsg, w_sIf, w_sFor, w_sFz, ok_some, ok_map, takeB, giveB, outsOf, wipeE, im_non, im_bl, im_int, im_str, im_tup, im_scr, im_lst, im_dcK, im_dcT, fz_non, fz_bl, fz_int, fz_str, fz_tup, fz_scr, fz_lstT, fz_lst, fz_dcT, fz_dcK, wk_tup, wk_lst, wk_scr, wk_str, sI_tup, sI_lst, tr_bl, lt_int, gt_int, le_int, ge_int, eq_int, ne_int, eq_str, ne_str, ne_bl, eq_bl, add_int, sub_int, neg_int, g_int, g_abs, ix_tup, ix_lst, at0, at1, at2, g_len_tup, g_len_lst, List.getElem?_cons_zero, List.getElem?_cons_succ, List.set_cons_zero, List.set_cons_succ, List.length_cons, List.length_nil, List.map_cons, List.map_nil, List.replicate_succ, List.replicate_zero, List.cons_append, List.nil_append, List.head?_cons, List.tail_cons, Option.join_some, Option.map_some, if_true, if_false, ite_true, ite_false, reduceIte, reduceCtorEq, BEq.rfl, Bool.false_eq_true, Bool.not_true, Bool.not_false, List.all_cons, List.all_nil, Bool.and_true, Bool.true_and, Bool.and_self, true_and, and_true, exists_eq_left, exists_eq_left', D.bl.injEq, D.int.injEq, D.str.injEq, D.tup.injEq, Out.rt.injEq, Nat.lt_add_left_iff_pos, Nat.zero_lt_succ, Nat.reduceAdd, Nat.reduceLT, im]
  refine conditions_w (without_fine hS _) ?_
  rw [conds_none hS]
  simp only [w_pC, w_pVar, w_pOwn, w_p1, w_p2, w_pSl, w_oNo, w_oSome, w_pTup, w_pCall, w_aNil, w_aCons, w_pIsi, w_pIsi2, w_eP, w_eMove, w_e1, w_e2, w_eTup, w_eLst, w_eFz, w_eCall, w_aNilE, w_aConsE, w_eIf, w_eComp, w_eDc, w_eDef, w_cNil, w_cVal, w_cBor, w_eMeth, w_eMetP, w_plVar, w_plIx, w_eSMet, w_yesT, w_tP, w_p2t, w_e2t, w_tTruP, w_tTru, w_tNo, w_tAnd2, w_tOr2, w_iSeq, w_iRange1, w_iRange2, w_iEnumE, rngD_len, w_gNm, w_gTup, w_gsNil, w_gsCons, w_gPut, w_sNil, w_sRet, w_sExpr, w_sAsg, w_sIf, w_sFor, w_sFz, ok_some, ok_map, takeB, giveB, outsOf, wipeE, im_non, im_bl, im_int, im_str, im_tup, im_scr, im_lst, im_dcK, im_dcT, fz_non, fz_bl, fz_int, fz_str, fz_tup, fz_scr, fz_lstT, fz_lst, fz_dcT, fz_dcK, wk_tup, wk_lst, wk_scr, wk_str, sI_tup, sI_lst, tr_bl, lt_int, gt_int, le_int, ge_int, eq_int, ne_int, eq_str, ne_str, ne_bl, eq_bl, add_int, sub_int, neg_int, g_int, g_abs, ix_tup, ix_lst, at0, at1, at2, g_len_tup, g_len_lst, List.getElem?_cons_zero, List.getElem?_cons_succ, List.set_cons_zero, List.set_cons_succ, List.length_cons, List.length_nil, List.map_cons, List.map_nil, List.replicate_succ, List.replicate_zero, List.cons_append, List.nil_append, List.head?_cons, List.tail_cons, Option.join_some, Option.map_some, if_true, if_false, ite_true, ite_false, reduceIte, reduceCtorEq, BEq.rfl, Bool.false_eq_true, Bool.not_true, Bool.not_false, List.all_cons, List.all_nil, Bool.and_true, Bool.true_and, Bool.and_self, true_and, and_true, exists_eq_left, exists_eq_left', D.bl.injEq, D.int.injEq, D.str.injEq, D.tup.injEq, Out.rt.injEq, Nat.lt_add_left_iff_pos, Nat.zero_lt_succ, Nat.reduceAdd, Nat.reduceLT, im]
  refine ⟨by decide, same_w (by simp [plainD, plainL]) (by simp [nodes, nodesL]) ?_⟩
  simp only [w_pC, w_pVar, w_pOwn, w_p1, w_p2, w_pSl, w_oNo, w_oSome, w_pTup, w_pCall, w_aNil, w_aCons, w_pIsi, w_pIsi2, w_eP, w_eMove, w_e1, w_e2, w_eTup, w_eLst, w_eFz, w_eCall, w_aNilE, w_aConsE, w_eIf, w_eComp, w_eDc, w_eDef, w_cNil, w_cVal, w_cBor, w_eMeth, w_eMetP, w_plVar, w_plIx, w_eSMet, w_yesT, w_tP, w_p2t, w_e2t, w_tTruP, w_tTru, w_tNo, w_tAnd2, w_tOr2, w_iSeq, w_iRange1, w_iRange2, w_iEnumE, rngD_len, w_gNm, w_gTup, w_gsNil, w_gsCons, w_gPut, w_sNil, w_sRet, w_sExpr, w_sAsg, w_sIf, w_sFor, w_sFz, ok_some, ok_map, takeB, giveB, outsOf, wipeE, im_non, im_bl, im_int, im_str, im_tup, im_scr, im_lst, im_dcK, im_dcT, fz_non, fz_bl, fz_int, fz_str, fz_tup, fz_scr, fz_lstT, fz_lst, fz_dcT, fz_dcK, wk_tup, wk_lst, wk_scr, wk_str, sI_tup, sI_lst, tr_bl, lt_int, gt_int, le_int, ge_int, eq_int, ne_int, eq_str, ne_str, ne_bl, eq_bl, add_int, sub_int, neg_int, g_int, g_abs, ix_tup, ix_lst, at0, at1, at2, g_len_tup, g_len_lst, List.getElem?_cons_zero, List.getElem?_cons_succ, List.set_cons_zero, List.set_cons_succ, List.length_cons, List.length_nil, List.map_cons, List.map_nil, List.replicate_succ, List.replicate_zero, List.cons_append, List.nil_append, List.head?_cons, List.tail_cons, Option.join_some, Option.map_some, if_true, if_false, ite_true, ite_false, reduceIte, reduceCtorEq, BEq.rfl, Bool.false_eq_true, Bool.not_true, Bool.not_false, List.all_cons, List.all_nil, Bool.and_true, Bool.true_and, Bool.and_self, true_and, and_true, exists_eq_left, exists_eq_left', D.bl.injEq, D.int.injEq, D.str.injEq, D.tup.injEq, Out.rt.injEq, Nat.lt_add_left_iff_pos, Nat.zero_lt_succ, Nat.reduceAdd, Nat.reduceLT]
  exact q p2 hp2

/-! ### the law -/
def madeS : Sheet := ⟨[0, 1], 2, [("a", 1, 999), ("b", 0, 1000)], [("a", "b", 0)]⟩
def madeC : List Cond := [.beg "a", .fin "a", .hand 0 0, .hand 0 1, .hand 1 1, .tie "a" "b"]
theorem made_conds : conds madeS = madeC := by decide +kernel
def struckC : List Cond := [.hand 0 0, .hand 1 1]
def partedS : Sheet := ⟨[1], 2, [("a", 1, 999), ("b", 0, 1000)], [("a", "b", 0)]⟩
theorem made_fine : madeS.Fine := ⟨by decide, by decide, by decide, by decide, by decide, by decide +kernel⟩
theorem parted_row : rstrip 2 (newRow [0, 1] struckC) = [1] := by decide +kernel
theorem parted_works : madeS.works.map (workW struckC) = partedS.works := by decide +kernel
theorem parted_ties : madeS.ties.filterMap (tieW struckC) = partedS.ties := by decide +kernel
theorem made_parted : withoutS madeS struckC = partedS := by
  unfold withoutS
  rw [parted_works, parted_ties]
  show Sheet.mk (rstrip 2 (newRow [0, 1] struckC)) 2 _ _ = partedS
  rw [parted_row]; rfl
theorem struck_ok : CsOk madeS.row struckC := by
  have h := conds_ok made_fine
  rw [made_conds] at h
  exact h.sub (by decide +kernel)
theorem nat_add {k : Nat} {r : Int} (h : 0 ≤ r) : (k : Int) + r = ((k + r.toNat : Nat) : Int) := by omega
theorem sheet_imm (S : Sheet) : isImm (sheetD S) = true := rfl
theorem sheet_fz (S : Sheet) : fz (sheetD S) = sheetD S := rfl
theorem law_true (ns : List Int) (hl : ns.length ≤ 63) (hb : ∀ z ∈ ns, Builtin.Int.intBits z ≤ 1048576) : ∃ outs, F_law [.scr (ns.map D.int)] = some (.bl true, outs) := by
  have main : Ok (F_law [.scr (ns.map D.int)]) fun r => r.1 = .bl true := by
    refine fn_ok rfl ?_
    unfold B_law
    simp only [List.map_cons, List.map_nil, List.replicate_succ, List.replicate_zero, List.cons_append, List.nil_append]
    refine seq_ok ?_
    simp only [w_pC, w_pVar, w_pOwn, w_p1, w_p2, w_pSl, w_oNo, w_oSome, w_pTup, w_pCall, w_aNil, w_aCons, w_pIsi, w_pIsi2, w_eP, w_eMove, w_e1, w_e2, w_eTup, w_eLst, w_eFz, w_eCall, w_aNilE, w_aConsE, w_eIf, w_eComp, w_eDc, w_eDef, w_cNil, w_cVal, w_cBor, w_eMeth, w_eMetP, w_plVar, w_plIx, w_eSMet, w_yesT, w_tP, w_p2t, w_e2t, w_tTruP, w_tTru, w_tNo, w_tAnd2, w_tOr2, w_iSeq, w_iRange1, w_iRange2, w_iEnumE, rngD_len, w_gNm, w_gTup, w_gsNil, w_gsCons, w_gPut, w_sNil, w_sRet, w_sExpr, w_sAsg, w_sIf, w_sFor, w_sFz, ok_some, ok_map, takeB, giveB, outsOf, wipeE, im_non, im_bl, im_int, im_str, im_tup, im_scr, im_lst, im_dcK, im_dcT, fz_non, fz_bl, fz_int, fz_str, fz_tup, fz_scr, fz_lstT, fz_lst, fz_dcT, fz_dcK, wk_tup, wk_lst, wk_scr, wk_str, sI_tup, sI_lst, tr_bl, lt_int, gt_int, le_int, ge_int, eq_int, ne_int, eq_str, ne_str, ne_bl, eq_bl, add_int, sub_int, neg_int, g_int, g_abs, ix_tup, ix_lst, at0, at1, at2, g_len_tup, g_len_lst, List.getElem?_cons_zero, List.getElem?_cons_succ, List.set_cons_zero, List.set_cons_succ, List.length_cons, List.length_nil, List.map_cons, List.map_nil, List.replicate_succ, List.replicate_zero, List.cons_append, List.nil_append, List.head?_cons, List.tail_cons, Option.join_some, Option.map_some, if_true, if_false, ite_true, ite_false, reduceIte, reduceCtorEq, BEq.rfl, Bool.false_eq_true, Bool.not_true, Bool.not_false, List.all_cons, List.all_nil, Bool.and_true, Bool.true_and, Bool.and_self, true_and, and_true, exists_eq_left, exists_eq_left', D.bl.injEq, D.int.injEq, D.str.injEq, D.tup.injEq, Out.rt.injEq, Nat.lt_add_left_iff_pos, Nat.zero_lt_succ, Nat.reduceAdd, Nat.reduceLT]
    refine pool_w hl fun p hp => ?_
    simp only [w_pC, w_pVar, w_pOwn, w_p1, w_p2, w_pSl, w_oNo, w_oSome, w_pTup, w_pCall, w_aNil, w_aCons, w_pIsi, w_pIsi2, w_eP, w_eMove, w_e1, w_e2, w_eTup, w_eLst, w_eFz, w_eCall, w_aNilE, w_aConsE, w_eIf, w_eComp, w_eDc, w_eDef, w_cNil, w_cVal, w_cBor, w_eMeth, w_eMetP, w_plVar, w_plIx, w_eSMet, w_yesT, w_tP, w_p2t, w_e2t, w_tTruP, w_tTru, w_tNo, w_tAnd2, w_tOr2, w_iSeq, w_iRange1, w_iRange2, w_iEnumE, rngD_len, w_gNm, w_gTup, w_gsNil, w_gsCons, w_gPut, w_sNil, w_sRet, w_sExpr, w_sAsg, w_sIf, w_sFor, w_sFz, ok_some, ok_map, takeB, giveB, outsOf, wipeE, im_non, im_bl, im_int, im_str, im_tup, im_scr, im_lst, im_dcK, im_dcT, fz_non, fz_bl, fz_int, fz_str, fz_tup, fz_scr, fz_lstT, fz_lst, fz_dcT, fz_dcK, wk_tup, wk_lst, wk_scr, wk_str, sI_tup, sI_lst, tr_bl, lt_int, gt_int, le_int, ge_int, eq_int, ne_int, eq_str, ne_str, ne_bl, eq_bl, add_int, sub_int, neg_int, g_int, g_abs, ix_tup, ix_lst, at0, at1, at2, g_len_tup, g_len_lst, List.getElem?_cons_zero, List.getElem?_cons_succ, List.set_cons_zero, List.set_cons_succ, List.length_cons, List.length_nil, List.map_cons, List.map_nil, List.replicate_succ, List.replicate_zero, List.cons_append, List.nil_append, List.head?_cons, List.tail_cons, Option.join_some, Option.map_some, if_true, if_false, ite_true, ite_false, reduceIte, reduceCtorEq, BEq.rfl, Bool.false_eq_true, Bool.not_true, Bool.not_false, List.all_cons, List.all_nil, Bool.and_true, Bool.true_and, Bool.and_self, true_and, and_true, exists_eq_left, exists_eq_left', D.bl.injEq, D.int.injEq, D.str.injEq, D.tup.injEq, Out.rt.injEq, Nat.lt_add_left_iff_pos, Nat.zero_lt_succ, Nat.reduceAdd, Nat.reduceLT]
    refine seq_ok ?_
    simp only [w_pC, w_pVar, w_pOwn, w_p1, w_p2, w_pSl, w_oNo, w_oSome, w_pTup, w_pCall, w_aNil, w_aCons, w_pIsi, w_pIsi2, w_eP, w_eMove, w_e1, w_e2, w_eTup, w_eLst, w_eFz, w_eCall, w_aNilE, w_aConsE, w_eIf, w_eComp, w_eDc, w_eDef, w_cNil, w_cVal, w_cBor, w_eMeth, w_eMetP, w_plVar, w_plIx, w_eSMet, w_yesT, w_tP, w_p2t, w_e2t, w_tTruP, w_tTru, w_tNo, w_tAnd2, w_tOr2, w_iSeq, w_iRange1, w_iRange2, w_iEnumE, rngD_len, w_gNm, w_gTup, w_gsNil, w_gsCons, w_gPut, w_sNil, w_sRet, w_sExpr, w_sAsg, w_sIf, w_sFor, w_sFz, ok_some, ok_map, takeB, giveB, outsOf, wipeE, im_non, im_bl, im_int, im_str, im_tup, im_scr, im_lst, im_dcK, im_dcT, fz_non, fz_bl, fz_int, fz_str, fz_tup, fz_scr, fz_lstT, fz_lst, fz_dcT, fz_dcK, wk_tup, wk_lst, wk_scr, wk_str, sI_tup, sI_lst, tr_bl, lt_int, gt_int, le_int, ge_int, eq_int, ne_int, eq_str, ne_str, ne_bl, eq_bl, add_int, sub_int, neg_int, g_int, g_abs, ix_tup, ix_lst, at0, at1, at2, g_len_tup, g_len_lst, List.getElem?_cons_zero, List.getElem?_cons_succ, List.set_cons_zero, List.set_cons_succ, List.length_cons, List.length_nil, List.map_cons, List.map_nil, List.replicate_succ, List.replicate_zero, List.cons_append, List.nil_append, List.head?_cons, List.tail_cons, Option.join_some, Option.map_some, if_true, if_false, ite_true, ite_false, reduceIte, reduceCtorEq, BEq.rfl, Bool.false_eq_true, Bool.not_true, Bool.not_false, List.all_cons, List.all_nil, Bool.and_true, Bool.true_and, Bool.and_self, true_and, and_true, exists_eq_left, exists_eq_left', D.bl.injEq, D.int.injEq, D.str.injEq, D.tup.injEq, Out.rt.injEq, Nat.lt_add_left_iff_pos, Nat.zero_lt_succ, Nat.reduceAdd, Nat.reduceLT, hp.imm]
    refine draw_w hp (by decide) (by decide) fun r1 p1 a1 b1 hp1 => ?_
    simp only [w_pC, w_pVar, w_pOwn, w_p1, w_p2, w_pSl, w_oNo, w_oSome, w_pTup, w_pCall, w_aNil, w_aCons, w_pIsi, w_pIsi2, w_eP, w_eMove, w_e1, w_e2, w_eTup, w_eLst, w_eFz, w_eCall, w_aNilE, w_aConsE, w_eIf, w_eComp, w_eDc, w_eDef, w_cNil, w_cVal, w_cBor, w_eMeth, w_eMetP, w_plVar, w_plIx, w_eSMet, w_yesT, w_tP, w_p2t, w_e2t, w_tTruP, w_tTru, w_tNo, w_tAnd2, w_tOr2, w_iSeq, w_iRange1, w_iRange2, w_iEnumE, rngD_len, w_gNm, w_gTup, w_gsNil, w_gsCons, w_gPut, w_sNil, w_sRet, w_sExpr, w_sAsg, w_sIf, w_sFor, w_sFz, ok_some, ok_map, takeB, giveB, outsOf, wipeE, im_non, im_bl, im_int, im_str, im_tup, im_scr, im_lst, im_dcK, im_dcT, fz_non, fz_bl, fz_int, fz_str, fz_tup, fz_scr, fz_lstT, fz_lst, fz_dcT, fz_dcK, wk_tup, wk_lst, wk_scr, wk_str, sI_tup, sI_lst, tr_bl, lt_int, gt_int, le_int, ge_int, eq_int, ne_int, eq_str, ne_str, ne_bl, eq_bl, add_int, sub_int, neg_int, g_int, g_abs, ix_tup, ix_lst, at0, at1, at2, g_len_tup, g_len_lst, List.getElem?_cons_zero, List.getElem?_cons_succ, List.set_cons_zero, List.set_cons_succ, List.length_cons, List.length_nil, List.map_cons, List.map_nil, List.replicate_succ, List.replicate_zero, List.cons_append, List.nil_append, List.head?_cons, List.tail_cons, Option.join_some, Option.map_some, if_true, if_false, ite_true, ite_false, reduceIte, reduceCtorEq, BEq.rfl, Bool.false_eq_true, Bool.not_true, Bool.not_false, List.all_cons, List.all_nil, Bool.and_true, Bool.true_and, Bool.and_self, true_and, and_true, exists_eq_left, exists_eq_left', D.bl.injEq, D.int.injEq, D.str.injEq, D.tup.injEq, Out.rt.injEq, Nat.lt_add_left_iff_pos, Nat.zero_lt_succ, Nat.reduceAdd, Nat.reduceLT, hp.imm, hp1.imm]
    refine draw_w hp1 (by decide) (by decide) fun r2 p2 a2 b2 hp2 => ?_
    simp only [w_pC, w_pVar, w_pOwn, w_p1, w_p2, w_pSl, w_oNo, w_oSome, w_pTup, w_pCall, w_aNil, w_aCons, w_pIsi, w_pIsi2, w_eP, w_eMove, w_e1, w_e2, w_eTup, w_eLst, w_eFz, w_eCall, w_aNilE, w_aConsE, w_eIf, w_eComp, w_eDc, w_eDef, w_cNil, w_cVal, w_cBor, w_eMeth, w_eMetP, w_plVar, w_plIx, w_eSMet, w_yesT, w_tP, w_p2t, w_e2t, w_tTruP, w_tTru, w_tNo, w_tAnd2, w_tOr2, w_iSeq, w_iRange1, w_iRange2, w_iEnumE, rngD_len, w_gNm, w_gTup, w_gsNil, w_gsCons, w_gPut, w_sNil, w_sRet, w_sExpr, w_sAsg, w_sIf, w_sFor, w_sFz, ok_some, ok_map, takeB, giveB, outsOf, wipeE, im_non, im_bl, im_int, im_str, im_tup, im_scr, im_lst, im_dcK, im_dcT, fz_non, fz_bl, fz_int, fz_str, fz_tup, fz_scr, fz_lstT, fz_lst, fz_dcT, fz_dcK, wk_tup, wk_lst, wk_scr, wk_str, sI_tup, sI_lst, tr_bl, lt_int, gt_int, le_int, ge_int, eq_int, ne_int, eq_str, ne_str, ne_bl, eq_bl, add_int, sub_int, neg_int, g_int, g_abs, ix_tup, ix_lst, at0, at1, at2, g_len_tup, g_len_lst, List.getElem?_cons_zero, List.getElem?_cons_succ, List.set_cons_zero, List.set_cons_succ, List.length_cons, List.length_nil, List.map_cons, List.map_nil, List.replicate_succ, List.replicate_zero, List.cons_append, List.nil_append, List.head?_cons, List.tail_cons, Option.join_some, Option.map_some, if_true, if_false, ite_true, ite_false, reduceIte, reduceCtorEq, BEq.rfl, Bool.false_eq_true, Bool.not_true, Bool.not_false, List.all_cons, List.all_nil, Bool.and_true, Bool.true_and, Bool.and_self, true_and, and_true, exists_eq_left, exists_eq_left', D.bl.injEq, D.int.injEq, D.str.injEq, D.tup.injEq, Out.rt.injEq, Nat.lt_add_left_iff_pos, Nat.zero_lt_succ, Nat.reduceAdd, Nat.reduceLT, hp1.imm, hp2.imm]
    refine ⟨by decide, draw_w hp2 (by decide) (by decide) fun r3 p3 a3 b3 hp3 => ?_⟩
    obtain ⟨d, hd1, hd2⟩ := pick_list (ds := [.int 3, .int 8, .int 900]) (r := r3) rfl a3 (by simpa using b3)
    obtain ⟨m, rfl, hm⟩ : ∃ m : Nat, d = .int m ∧ m ≤ 1000 := by
      simp at hd1
      rcases hd1 with rfl | rfl | rfl
      · exact ⟨3, rfl, by omega⟩
      · exact ⟨8, rfl, by omega⟩
      · exact ⟨900, rfl, by omega⟩
    simp only [w_pC, w_pVar, w_pOwn, w_p1, w_p2, w_pSl, w_oNo, w_oSome, w_pTup, w_pCall, w_aNil, w_aCons, w_pIsi, w_pIsi2, w_eP, w_eMove, w_e1, w_e2, w_eTup, w_eLst, w_eFz, w_eCall, w_aNilE, w_aConsE, w_eIf, w_eComp, w_eDc, w_eDef, w_cNil, w_cVal, w_cBor, w_eMeth, w_eMetP, w_plVar, w_plIx, w_eSMet, w_yesT, w_tP, w_p2t, w_e2t, w_tTruP, w_tTru, w_tNo, w_tAnd2, w_tOr2, w_iSeq, w_iRange1, w_iRange2, w_iEnumE, rngD_len, w_gNm, w_gTup, w_gsNil, w_gsCons, w_gPut, w_sNil, w_sRet, w_sExpr, w_sAsg, w_sIf, w_sFor, w_sFz, ok_some, ok_map, takeB, giveB, outsOf, wipeE, im_non, im_bl, im_int, im_str, im_tup, im_scr, im_lst, im_dcK, im_dcT, fz_non, fz_bl, fz_int, fz_str, fz_tup, fz_scr, fz_lstT, fz_lst, fz_dcT, fz_dcK, wk_tup, wk_lst, wk_scr, wk_str, sI_tup, sI_lst, tr_bl, lt_int, gt_int, le_int, ge_int, eq_int, ne_int, eq_str, ne_str, ne_bl, eq_bl, add_int, sub_int, neg_int, g_int, g_abs, ix_tup, ix_lst, at0, at1, at2, g_len_tup, g_len_lst, List.getElem?_cons_zero, List.getElem?_cons_succ, List.set_cons_zero, List.set_cons_succ, List.length_cons, List.length_nil, List.map_cons, List.map_nil, List.replicate_succ, List.replicate_zero, List.cons_append, List.nil_append, List.head?_cons, List.tail_cons, Option.join_some, Option.map_some, if_true, if_false, ite_true, ite_false, reduceIte, reduceCtorEq, BEq.rfl, Bool.false_eq_true, Bool.not_true, Bool.not_false, List.all_cons, List.all_nil, Bool.and_true, Bool.true_and, Bool.and_self, true_and, and_true, exists_eq_left, exists_eq_left', D.bl.injEq, D.int.injEq, D.str.injEq, D.tup.injEq, Out.rt.injEq, Nat.lt_add_left_iff_pos, Nat.zero_lt_succ, Nat.reduceAdd, Nat.reduceLT, hp2.imm, hp3.imm, hd2]
    have e1 : (2 : Int) + r1 = ((2 + r1.toNat : Nat) : Int) := nat_add (k := 2) a1
    have e2 : (1 : Int) + r2 = ((1 + r2.toNat : Nat) : Int) := nat_add (k := 1) a2
    rw [e1, e2]
    refine sheet_w hp3 (by omega) (by omega) hm fun S p4 hS hp4 => ?_
    simp only [w_pC, w_pVar, w_pOwn, w_p1, w_p2, w_pSl, w_oNo, w_oSome, w_pTup, w_pCall, w_aNil, w_aCons, w_pIsi, w_pIsi2, w_eP, w_eMove, w_e1, w_e2, w_eTup, w_eLst, w_eFz, w_eCall, w_aNilE, w_aConsE, w_eIf, w_eComp, w_eDc, w_eDef, w_cNil, w_cVal, w_cBor, w_eMeth, w_eMetP, w_plVar, w_plIx, w_eSMet, w_yesT, w_tP, w_p2t, w_e2t, w_tTruP, w_tTru, w_tNo, w_tAnd2, w_tOr2, w_iSeq, w_iRange1, w_iRange2, w_iEnumE, rngD_len, w_gNm, w_gTup, w_gsNil, w_gsCons, w_gPut, w_sNil, w_sRet, w_sExpr, w_sAsg, w_sIf, w_sFor, w_sFz, ok_some, ok_map, takeB, giveB, outsOf, wipeE, im_non, im_bl, im_int, im_str, im_tup, im_scr, im_lst, im_dcK, im_dcT, fz_non, fz_bl, fz_int, fz_str, fz_tup, fz_scr, fz_lstT, fz_lst, fz_dcT, fz_dcK, wk_tup, wk_lst, wk_scr, wk_str, sI_tup, sI_lst, tr_bl, lt_int, gt_int, le_int, ge_int, eq_int, ne_int, eq_str, ne_str, ne_bl, eq_bl, add_int, sub_int, neg_int, g_int, g_abs, ix_tup, ix_lst, at0, at1, at2, g_len_tup, g_len_lst, List.getElem?_cons_zero, List.getElem?_cons_succ, List.set_cons_zero, List.set_cons_succ, List.length_cons, List.length_nil, List.map_cons, List.map_nil, List.replicate_succ, List.replicate_zero, List.cons_append, List.nil_append, List.head?_cons, List.tail_cons, Option.join_some, Option.map_some, if_true, if_false, ite_true, ite_false, reduceIte, reduceCtorEq, BEq.rfl, Bool.false_eq_true, Bool.not_true, Bool.not_false, List.all_cons, List.all_nil, Bool.and_true, Bool.true_and, Bool.and_self, true_and, and_true, exists_eq_left, exists_eq_left', D.bl.injEq, D.int.injEq, D.str.injEq, D.tup.injEq, Out.rt.injEq, Nat.lt_add_left_iff_pos, Nat.zero_lt_succ, Nat.reduceAdd, Nat.reduceLT, hp3.imm, sheet_fz]
    refine seq_ok ?_
    simp only [w_pC, w_pVar, w_pOwn, w_p1, w_p2, w_pSl, w_oNo, w_oSome, w_pTup, w_pCall, w_aNil, w_aCons, w_pIsi, w_pIsi2, w_eP, w_eMove, w_e1, w_e2, w_eTup, w_eLst, w_eFz, w_eCall, w_aNilE, w_aConsE, w_eIf, w_eComp, w_eDc, w_eDef, w_cNil, w_cVal, w_cBor, w_eMeth, w_eMetP, w_plVar, w_plIx, w_eSMet, w_yesT, w_tP, w_p2t, w_e2t, w_tTruP, w_tTru, w_tNo, w_tAnd2, w_tOr2, w_iSeq, w_iRange1, w_iRange2, w_iEnumE, rngD_len, w_gNm, w_gTup, w_gsNil, w_gsCons, w_gPut, w_sNil, w_sRet, w_sExpr, w_sAsg, w_sIf, w_sFor, w_sFz, ok_some, ok_map, takeB, giveB, outsOf, wipeE, im_non, im_bl, im_int, im_str, im_tup, im_scr, im_lst, im_dcK, im_dcT, fz_non, fz_bl, fz_int, fz_str, fz_tup, fz_scr, fz_lstT, fz_lst, fz_dcT, fz_dcK, wk_tup, wk_lst, wk_scr, wk_str, sI_tup, sI_lst, tr_bl, lt_int, gt_int, le_int, ge_int, eq_int, ne_int, eq_str, ne_str, ne_bl, eq_bl, add_int, sub_int, neg_int, g_int, g_abs, ix_tup, ix_lst, at0, at1, at2, g_len_tup, g_len_lst, List.getElem?_cons_zero, List.getElem?_cons_succ, List.set_cons_zero, List.set_cons_succ, List.length_cons, List.length_nil, List.map_cons, List.map_nil, List.replicate_succ, List.replicate_zero, List.cons_append, List.nil_append, List.head?_cons, List.tail_cons, Option.join_some, Option.map_some, if_true, if_false, ite_true, ite_false, reduceIte, reduceCtorEq, BEq.rfl, Bool.false_eq_true, Bool.not_true, Bool.not_false, List.all_cons, List.all_nil, Bool.and_true, Bool.true_and, Bool.and_self, true_and, and_true, exists_eq_left, exists_eq_left', D.bl.injEq, D.int.injEq, D.str.injEq, D.tup.injEq, Out.rt.injEq, Nat.lt_add_left_iff_pos, Nat.zero_lt_succ, Nat.reduceAdd, Nat.reduceLT, hp4.imm, sheet_imm]
    refine asked_w hp4 hS fun p5 hp5 => ?_
    simp only [w_pC, w_pVar, w_pOwn, w_p1, w_p2, w_pSl, w_oNo, w_oSome, w_pTup, w_pCall, w_aNil, w_aCons, w_pIsi, w_pIsi2, w_eP, w_eMove, w_e1, w_e2, w_eTup, w_eLst, w_eFz, w_eCall, w_aNilE, w_aConsE, w_eIf, w_eComp, w_eDc, w_eDef, w_cNil, w_cVal, w_cBor, w_eMeth, w_eMetP, w_plVar, w_plIx, w_eSMet, w_yesT, w_tP, w_p2t, w_e2t, w_tTruP, w_tTru, w_tNo, w_tAnd2, w_tOr2, w_iSeq, w_iRange1, w_iRange2, w_iEnumE, rngD_len, w_gNm, w_gTup, w_gsNil, w_gsCons, w_gPut, w_sNil, w_sRet, w_sExpr, w_sAsg, w_sIf, w_sFor, w_sFz, ok_some, ok_map, takeB, giveB, outsOf, wipeE, im_non, im_bl, im_int, im_str, im_tup, im_scr, im_lst, im_dcK, im_dcT, fz_non, fz_bl, fz_int, fz_str, fz_tup, fz_scr, fz_lstT, fz_lst, fz_dcT, fz_dcK, wk_tup, wk_lst, wk_scr, wk_str, sI_tup, sI_lst, tr_bl, lt_int, gt_int, le_int, ge_int, eq_int, ne_int, eq_str, ne_str, ne_bl, eq_bl, add_int, sub_int, neg_int, g_int, g_abs, ix_tup, ix_lst, at0, at1, at2, g_len_tup, g_len_lst, List.getElem?_cons_zero, List.getElem?_cons_succ, List.set_cons_zero, List.set_cons_succ, List.length_cons, List.length_nil, List.map_cons, List.map_nil, List.replicate_succ, List.replicate_zero, List.cons_append, List.nil_append, List.head?_cons, List.tail_cons, Option.join_some, Option.map_some, if_true, if_false, ite_true, ite_false, reduceIte, reduceCtorEq, BEq.rfl, Bool.false_eq_true, Bool.not_true, Bool.not_false, List.all_cons, List.all_nil, Bool.and_true, Bool.true_and, Bool.and_self, true_and, and_true, exists_eq_left, exists_eq_left', D.bl.injEq, D.int.injEq, D.str.injEq, D.tup.injEq, Out.rt.injEq, Nat.lt_add_left_iff_pos, Nat.zero_lt_succ, Nat.reduceAdd, Nat.reduceLT, hp4.imm, sheet_imm]
    refine seq_ok ?_
    simp only [w_pC, w_pVar, w_pOwn, w_p1, w_p2, w_pSl, w_oNo, w_oSome, w_pTup, w_pCall, w_aNil, w_aCons, w_pIsi, w_pIsi2, w_eP, w_eMove, w_e1, w_e2, w_eTup, w_eLst, w_eFz, w_eCall, w_aNilE, w_aConsE, w_eIf, w_eComp, w_eDc, w_eDef, w_cNil, w_cVal, w_cBor, w_eMeth, w_eMetP, w_plVar, w_plIx, w_eSMet, w_yesT, w_tP, w_p2t, w_e2t, w_tTruP, w_tTru, w_tNo, w_tAnd2, w_tOr2, w_iSeq, w_iRange1, w_iRange2, w_iEnumE, rngD_len, w_gNm, w_gTup, w_gsNil, w_gsCons, w_gPut, w_sNil, w_sRet, w_sExpr, w_sAsg, w_sIf, w_sFor, w_sFz, ok_some, ok_map, takeB, giveB, outsOf, wipeE, im_non, im_bl, im_int, im_str, im_tup, im_scr, im_lst, im_dcK, im_dcT, fz_non, fz_bl, fz_int, fz_str, fz_tup, fz_scr, fz_lstT, fz_lst, fz_dcT, fz_dcK, wk_tup, wk_lst, wk_scr, wk_str, sI_tup, sI_lst, tr_bl, lt_int, gt_int, le_int, ge_int, eq_int, ne_int, eq_str, ne_str, ne_bl, eq_bl, add_int, sub_int, neg_int, g_int, g_abs, ix_tup, ix_lst, at0, at1, at2, g_len_tup, g_len_lst, List.getElem?_cons_zero, List.getElem?_cons_succ, List.set_cons_zero, List.set_cons_succ, List.length_cons, List.length_nil, List.map_cons, List.map_nil, List.replicate_succ, List.replicate_zero, List.cons_append, List.nil_append, List.head?_cons, List.tail_cons, Option.join_some, Option.map_some, if_true, if_false, ite_true, ite_false, reduceIte, reduceCtorEq, BEq.rfl, Bool.false_eq_true, Bool.not_true, Bool.not_false, List.all_cons, List.all_nil, Bool.and_true, Bool.true_and, Bool.and_self, true_and, and_true, exists_eq_left, exists_eq_left', D.bl.injEq, D.int.injEq, D.str.injEq, D.tup.injEq, Out.rt.injEq, Nat.lt_add_left_iff_pos, Nat.zero_lt_succ, Nat.reduceAdd, Nat.reduceLT, hp5.imm]
    refine draw_w hp5 (by decide) (by decide) fun r4 p6 a4 b4 hp6 => ?_
    simp only [w_pC, w_pVar, w_pOwn, w_p1, w_p2, w_pSl, w_oNo, w_oSome, w_pTup, w_pCall, w_aNil, w_aCons, w_pIsi, w_pIsi2, w_eP, w_eMove, w_e1, w_e2, w_eTup, w_eLst, w_eFz, w_eCall, w_aNilE, w_aConsE, w_eIf, w_eComp, w_eDc, w_eDef, w_cNil, w_cVal, w_cBor, w_eMeth, w_eMetP, w_plVar, w_plIx, w_eSMet, w_yesT, w_tP, w_p2t, w_e2t, w_tTruP, w_tTru, w_tNo, w_tAnd2, w_tOr2, w_iSeq, w_iRange1, w_iRange2, w_iEnumE, rngD_len, w_gNm, w_gTup, w_gsNil, w_gsCons, w_gPut, w_sNil, w_sRet, w_sExpr, w_sAsg, w_sIf, w_sFor, w_sFz, ok_some, ok_map, takeB, giveB, outsOf, wipeE, im_non, im_bl, im_int, im_str, im_tup, im_scr, im_lst, im_dcK, im_dcT, fz_non, fz_bl, fz_int, fz_str, fz_tup, fz_scr, fz_lstT, fz_lst, fz_dcT, fz_dcK, wk_tup, wk_lst, wk_scr, wk_str, sI_tup, sI_lst, tr_bl, lt_int, gt_int, le_int, ge_int, eq_int, ne_int, eq_str, ne_str, ne_bl, eq_bl, add_int, sub_int, neg_int, g_int, g_abs, ix_tup, ix_lst, at0, at1, at2, g_len_tup, g_len_lst, List.getElem?_cons_zero, List.getElem?_cons_succ, List.set_cons_zero, List.set_cons_succ, List.length_cons, List.length_nil, List.map_cons, List.map_nil, List.replicate_succ, List.replicate_zero, List.cons_append, List.nil_append, List.head?_cons, List.tail_cons, Option.join_some, Option.map_some, if_true, if_false, ite_true, ite_false, reduceIte, reduceCtorEq, BEq.rfl, Bool.false_eq_true, Bool.not_true, Bool.not_false, List.all_cons, List.all_nil, Bool.and_true, Bool.true_and, Bool.and_self, true_and, and_true, exists_eq_left, exists_eq_left', D.bl.injEq, D.int.injEq, D.str.injEq, D.tup.injEq, Out.rt.injEq, Nat.lt_add_left_iff_pos, Nat.zero_lt_succ, Nat.reduceAdd, Nat.reduceLT, hp5.imm, hp6.imm]
    refine draw_w hp6 (by decide) (by decide) fun r5 p7 a5 b5 hp7 => ?_
    simp only [w_pC, w_pVar, w_pOwn, w_p1, w_p2, w_pSl, w_oNo, w_oSome, w_pTup, w_pCall, w_aNil, w_aCons, w_pIsi, w_pIsi2, w_eP, w_eMove, w_e1, w_e2, w_eTup, w_eLst, w_eFz, w_eCall, w_aNilE, w_aConsE, w_eIf, w_eComp, w_eDc, w_eDef, w_cNil, w_cVal, w_cBor, w_eMeth, w_eMetP, w_plVar, w_plIx, w_eSMet, w_yesT, w_tP, w_p2t, w_e2t, w_tTruP, w_tTru, w_tNo, w_tAnd2, w_tOr2, w_iSeq, w_iRange1, w_iRange2, w_iEnumE, rngD_len, w_gNm, w_gTup, w_gsNil, w_gsCons, w_gPut, w_sNil, w_sRet, w_sExpr, w_sAsg, w_sIf, w_sFor, w_sFz, ok_some, ok_map, takeB, giveB, outsOf, wipeE, im_non, im_bl, im_int, im_str, im_tup, im_scr, im_lst, im_dcK, im_dcT, fz_non, fz_bl, fz_int, fz_str, fz_tup, fz_scr, fz_lstT, fz_lst, fz_dcT, fz_dcK, wk_tup, wk_lst, wk_scr, wk_str, sI_tup, sI_lst, tr_bl, lt_int, gt_int, le_int, ge_int, eq_int, ne_int, eq_str, ne_str, ne_bl, eq_bl, add_int, sub_int, neg_int, g_int, g_abs, ix_tup, ix_lst, at0, at1, at2, g_len_tup, g_len_lst, List.getElem?_cons_zero, List.getElem?_cons_succ, List.set_cons_zero, List.set_cons_succ, List.length_cons, List.length_nil, List.map_cons, List.map_nil, List.replicate_succ, List.replicate_zero, List.cons_append, List.nil_append, List.head?_cons, List.tail_cons, Option.join_some, Option.map_some, if_true, if_false, ite_true, ite_false, reduceIte, reduceCtorEq, BEq.rfl, Bool.false_eq_true, Bool.not_true, Bool.not_false, List.all_cons, List.all_nil, Bool.and_true, Bool.true_and, Bool.and_self, true_and, and_true, exists_eq_left, exists_eq_left', D.bl.injEq, D.int.injEq, D.str.injEq, D.tup.injEq, Out.rt.injEq, Nat.lt_add_left_iff_pos, Nat.zero_lt_succ, Nat.reduceAdd, Nat.reduceLT, hp6.imm, hp7.imm]
    obtain ⟨n4, rfl⟩ := Int.eq_ofNat_of_zero_le a4
    obtain ⟨n5, rfl⟩ := Int.eq_ofNat_of_zero_le a5
    refine sheet_w (n := n4) (L := n5) (most := 2) hp7 (by omega) (by omega) (by decide) fun S2 p8 hS2 hp8 => ?_
    simp only [w_pC, w_pVar, w_pOwn, w_p1, w_p2, w_pSl, w_oNo, w_oSome, w_pTup, w_pCall, w_aNil, w_aCons, w_pIsi, w_pIsi2, w_eP, w_eMove, w_e1, w_e2, w_eTup, w_eLst, w_eFz, w_eCall, w_aNilE, w_aConsE, w_eIf, w_eComp, w_eDc, w_eDef, w_cNil, w_cVal, w_cBor, w_eMeth, w_eMetP, w_plVar, w_plIx, w_eSMet, w_yesT, w_tP, w_p2t, w_e2t, w_tTruP, w_tTru, w_tNo, w_tAnd2, w_tOr2, w_iSeq, w_iRange1, w_iRange2, w_iEnumE, rngD_len, w_gNm, w_gTup, w_gsNil, w_gsCons, w_gPut, w_sNil, w_sRet, w_sExpr, w_sAsg, w_sIf, w_sFor, w_sFz, ok_some, ok_map, takeB, giveB, outsOf, wipeE, im_non, im_bl, im_int, im_str, im_tup, im_scr, im_lst, im_dcK, im_dcT, fz_non, fz_bl, fz_int, fz_str, fz_tup, fz_scr, fz_lstT, fz_lst, fz_dcT, fz_dcK, wk_tup, wk_lst, wk_scr, wk_str, sI_tup, sI_lst, tr_bl, lt_int, gt_int, le_int, ge_int, eq_int, ne_int, eq_str, ne_str, ne_bl, eq_bl, add_int, sub_int, neg_int, g_int, g_abs, ix_tup, ix_lst, at0, at1, at2, g_len_tup, g_len_lst, List.getElem?_cons_zero, List.getElem?_cons_succ, List.set_cons_zero, List.set_cons_succ, List.length_cons, List.length_nil, List.map_cons, List.map_nil, List.replicate_succ, List.replicate_zero, List.cons_append, List.nil_append, List.head?_cons, List.tail_cons, Option.join_some, Option.map_some, if_true, if_false, ite_true, ite_false, reduceIte, reduceCtorEq, BEq.rfl, Bool.false_eq_true, Bool.not_true, Bool.not_false, List.all_cons, List.all_nil, Bool.and_true, Bool.true_and, Bool.and_self, true_and, and_true, exists_eq_left, exists_eq_left', D.bl.injEq, D.int.injEq, D.str.injEq, D.tup.injEq, Out.rt.injEq, Nat.lt_add_left_iff_pos, Nat.zero_lt_succ, Nat.reduceAdd, Nat.reduceLT, hp7.imm, sheet_fz]
    refine seq_ok ?_
    simp only [w_pC, w_pVar, w_pOwn, w_p1, w_p2, w_pSl, w_oNo, w_oSome, w_pTup, w_pCall, w_aNil, w_aCons, w_pIsi, w_pIsi2, w_eP, w_eMove, w_e1, w_e2, w_eTup, w_eLst, w_eFz, w_eCall, w_aNilE, w_aConsE, w_eIf, w_eComp, w_eDc, w_eDef, w_cNil, w_cVal, w_cBor, w_eMeth, w_eMetP, w_plVar, w_plIx, w_eSMet, w_yesT, w_tP, w_p2t, w_e2t, w_tTruP, w_tTru, w_tNo, w_tAnd2, w_tOr2, w_iSeq, w_iRange1, w_iRange2, w_iEnumE, rngD_len, w_gNm, w_gTup, w_gsNil, w_gsCons, w_gPut, w_sNil, w_sRet, w_sExpr, w_sAsg, w_sIf, w_sFor, w_sFz, ok_some, ok_map, takeB, giveB, outsOf, wipeE, im_non, im_bl, im_int, im_str, im_tup, im_scr, im_lst, im_dcK, im_dcT, fz_non, fz_bl, fz_int, fz_str, fz_tup, fz_scr, fz_lstT, fz_lst, fz_dcT, fz_dcK, wk_tup, wk_lst, wk_scr, wk_str, sI_tup, sI_lst, tr_bl, lt_int, gt_int, le_int, ge_int, eq_int, ne_int, eq_str, ne_str, ne_bl, eq_bl, add_int, sub_int, neg_int, g_int, g_abs, ix_tup, ix_lst, at0, at1, at2, g_len_tup, g_len_lst, List.getElem?_cons_zero, List.getElem?_cons_succ, List.set_cons_zero, List.set_cons_succ, List.length_cons, List.length_nil, List.map_cons, List.map_nil, List.replicate_succ, List.replicate_zero, List.cons_append, List.nil_append, List.head?_cons, List.tail_cons, Option.join_some, Option.map_some, if_true, if_false, ite_true, ite_false, reduceIte, reduceCtorEq, BEq.rfl, Bool.false_eq_true, Bool.not_true, Bool.not_false, List.all_cons, List.all_nil, Bool.and_true, Bool.true_and, Bool.and_self, true_and, and_true, exists_eq_left, exists_eq_left', D.bl.injEq, D.int.injEq, D.str.injEq, D.tup.injEq, Out.rt.injEq, Nat.lt_add_left_iff_pos, Nat.zero_lt_succ, Nat.reduceAdd, Nat.reduceLT, hp8.imm, sheet_imm]
    refine asked_w hp8 hS2 fun p9 hp9 => ?_
    simp only [w_pC, w_pVar, w_pOwn, w_p1, w_p2, w_pSl, w_oNo, w_oSome, w_pTup, w_pCall, w_aNil, w_aCons, w_pIsi, w_pIsi2, w_eP, w_eMove, w_e1, w_e2, w_eTup, w_eLst, w_eFz, w_eCall, w_aNilE, w_aConsE, w_eIf, w_eComp, w_eDc, w_eDef, w_cNil, w_cVal, w_cBor, w_eMeth, w_eMetP, w_plVar, w_plIx, w_eSMet, w_yesT, w_tP, w_p2t, w_e2t, w_tTruP, w_tTru, w_tNo, w_tAnd2, w_tOr2, w_iSeq, w_iRange1, w_iRange2, w_iEnumE, rngD_len, w_gNm, w_gTup, w_gsNil, w_gsCons, w_gPut, w_sNil, w_sRet, w_sExpr, w_sAsg, w_sIf, w_sFor, w_sFz, ok_some, ok_map, takeB, giveB, outsOf, wipeE, im_non, im_bl, im_int, im_str, im_tup, im_scr, im_lst, im_dcK, im_dcT, fz_non, fz_bl, fz_int, fz_str, fz_tup, fz_scr, fz_lstT, fz_lst, fz_dcT, fz_dcK, wk_tup, wk_lst, wk_scr, wk_str, sI_tup, sI_lst, tr_bl, lt_int, gt_int, le_int, ge_int, eq_int, ne_int, eq_str, ne_str, ne_bl, eq_bl, add_int, sub_int, neg_int, g_int, g_abs, ix_tup, ix_lst, at0, at1, at2, g_len_tup, g_len_lst, List.getElem?_cons_zero, List.getElem?_cons_succ, List.set_cons_zero, List.set_cons_succ, List.length_cons, List.length_nil, List.map_cons, List.map_nil, List.replicate_succ, List.replicate_zero, List.cons_append, List.nil_append, List.head?_cons, List.tail_cons, Option.join_some, Option.map_some, if_true, if_false, ite_true, ite_false, reduceIte, reduceCtorEq, BEq.rfl, Bool.false_eq_true, Bool.not_true, Bool.not_false, List.all_cons, List.all_nil, Bool.and_true, Bool.true_and, Bool.and_self, true_and, and_true, exists_eq_left, exists_eq_left', D.bl.injEq, D.int.injEq, D.str.injEq, D.tup.injEq, Out.rt.injEq, Nat.lt_add_left_iff_pos, Nat.zero_lt_succ, Nat.reduceAdd, Nat.reduceLT, hp8.imm, sheet_imm]
    refine seq_ok (ok_mono (Q := fun r => r.1 = .nx ∧ ∃ p x4, r.2 = [some (.scr (ns.map D.int)), some p, some (sheetD S), some (sheetD S2), x4, none, none, none]) ?_ ?_)
    · simp only [w_pC, w_pVar, w_pOwn, w_p1, w_p2, w_pSl, w_oNo, w_oSome, w_pTup, w_pCall, w_aNil, w_aCons, w_pIsi, w_pIsi2, w_eP, w_eMove, w_e1, w_e2, w_eTup, w_eLst, w_eFz, w_eCall, w_aNilE, w_aConsE, w_eIf, w_eComp, w_eDc, w_eDef, w_cNil, w_cVal, w_cBor, w_eMeth, w_eMetP, w_plVar, w_plIx, w_eSMet, w_yesT, w_tP, w_p2t, w_e2t, w_tTruP, w_tTru, w_tNo, w_tAnd2, w_tOr2, w_iSeq, w_iRange1, w_iRange2, w_iEnumE, rngD_len, w_gNm, w_gTup, w_gsNil, w_gsCons, w_gPut, w_sNil, w_sRet, w_sExpr, w_sAsg, w_sIf, w_sFor, w_sFz, ok_some, ok_map, takeB, giveB, outsOf, wipeE, im_non, im_bl, im_int, im_str, im_tup, im_scr, im_lst, im_dcK, im_dcT, fz_non, fz_bl, fz_int, fz_str, fz_tup, fz_scr, fz_lstT, fz_lst, fz_dcT, fz_dcK, wk_tup, wk_lst, wk_scr, wk_str, sI_tup, sI_lst, tr_bl, lt_int, gt_int, le_int, ge_int, eq_int, ne_int, eq_str, ne_str, ne_bl, eq_bl, add_int, sub_int, neg_int, g_int, g_abs, ix_tup, ix_lst, at0, at1, at2, g_len_tup, g_len_lst, List.getElem?_cons_zero, List.getElem?_cons_succ, List.set_cons_zero, List.set_cons_succ, List.length_cons, List.length_nil, List.map_cons, List.map_nil, List.replicate_succ, List.replicate_zero, List.cons_append, List.nil_append, List.head?_cons, List.tail_cons, Option.join_some, Option.map_some, if_true, if_false, ite_true, ite_false, reduceIte, reduceCtorEq, BEq.rfl, Bool.false_eq_true, Bool.not_true, Bool.not_false, List.all_cons, List.all_nil, Bool.and_true, Bool.true_and, Bool.and_self, true_and, and_true, exists_eq_left, exists_eq_left', D.bl.injEq, D.int.injEq, D.str.injEq, D.tup.injEq, Out.rt.injEq, Nat.lt_add_left_iff_pos, Nat.zero_lt_succ, Nat.reduceAdd, Nat.reduceLT, hp9.imm]
      refine draw_w hp9 (by decide) (by decide) fun r6 q1 _ _ hq1 => ?_
      by_cases h12 : r6 = 12
      · simp only [w_pC, w_pVar, w_pOwn, w_p1, w_p2, w_pSl, w_oNo, w_oSome, w_pTup, w_pCall, w_aNil, w_aCons, w_pIsi, w_pIsi2, w_eP, w_eMove, w_e1, w_e2, w_eTup, w_eLst, w_eFz, w_eCall, w_aNilE, w_aConsE, w_eIf, w_eComp, w_eDc, w_eDef, w_cNil, w_cVal, w_cBor, w_eMeth, w_eMetP, w_plVar, w_plIx, w_eSMet, w_yesT, w_tP, w_p2t, w_e2t, w_tTruP, w_tTru, w_tNo, w_tAnd2, w_tOr2, w_iSeq, w_iRange1, w_iRange2, w_iEnumE, rngD_len, w_gNm, w_gTup, w_gsNil, w_gsCons, w_gPut, w_sNil, w_sRet, w_sExpr, w_sAsg, w_sIf, w_sFor, w_sFz, ok_some, ok_map, takeB, giveB, outsOf, wipeE, im_non, im_bl, im_int, im_str, im_tup, im_scr, im_lst, im_dcK, im_dcT, fz_non, fz_bl, fz_int, fz_str, fz_tup, fz_scr, fz_lstT, fz_lst, fz_dcT, fz_dcK, wk_tup, wk_lst, wk_scr, wk_str, sI_tup, sI_lst, tr_bl, lt_int, gt_int, le_int, ge_int, eq_int, ne_int, eq_str, ne_str, ne_bl, eq_bl, add_int, sub_int, neg_int, g_int, g_abs, ix_tup, ix_lst, at0, at1, at2, g_len_tup, g_len_lst, List.getElem?_cons_zero, List.getElem?_cons_succ, List.set_cons_zero, List.set_cons_succ, List.length_cons, List.length_nil, List.map_cons, List.map_nil, List.replicate_succ, List.replicate_zero, List.cons_append, List.nil_append, List.head?_cons, List.tail_cons, Option.join_some, Option.map_some, if_true, if_false, ite_true, ite_false, reduceIte, reduceCtorEq, BEq.rfl, Bool.false_eq_true, Bool.not_true, Bool.not_false, List.all_cons, List.all_nil, Bool.and_true, Bool.true_and, Bool.and_self, true_and, and_true, exists_eq_left, exists_eq_left', D.bl.injEq, D.int.injEq, D.str.injEq, D.tup.injEq, Out.rt.injEq, Nat.lt_add_left_iff_pos, Nat.zero_lt_succ, Nat.reduceAdd, Nat.reduceLT, hp9.imm, beq_iff_eq.mpr h12]
        refine seq_ok ?_
        simp only [w_pC, w_pVar, w_pOwn, w_p1, w_p2, w_pSl, w_oNo, w_oSome, w_pTup, w_pCall, w_aNil, w_aCons, w_pIsi, w_pIsi2, w_eP, w_eMove, w_e1, w_e2, w_eTup, w_eLst, w_eFz, w_eCall, w_aNilE, w_aConsE, w_eIf, w_eComp, w_eDc, w_eDef, w_cNil, w_cVal, w_cBor, w_eMeth, w_eMetP, w_plVar, w_plIx, w_eSMet, w_yesT, w_tP, w_p2t, w_e2t, w_tTruP, w_tTru, w_tNo, w_tAnd2, w_tOr2, w_iSeq, w_iRange1, w_iRange2, w_iEnumE, rngD_len, w_gNm, w_gTup, w_gsNil, w_gsCons, w_gPut, w_sNil, w_sRet, w_sExpr, w_sAsg, w_sIf, w_sFor, w_sFz, ok_some, ok_map, takeB, giveB, outsOf, wipeE, im_non, im_bl, im_int, im_str, im_tup, im_scr, im_lst, im_dcK, im_dcT, fz_non, fz_bl, fz_int, fz_str, fz_tup, fz_scr, fz_lstT, fz_lst, fz_dcT, fz_dcK, wk_tup, wk_lst, wk_scr, wk_str, sI_tup, sI_lst, tr_bl, lt_int, gt_int, le_int, ge_int, eq_int, ne_int, eq_str, ne_str, ne_bl, eq_bl, add_int, sub_int, neg_int, g_int, g_abs, ix_tup, ix_lst, at0, at1, at2, g_len_tup, g_len_lst, List.getElem?_cons_zero, List.getElem?_cons_succ, List.set_cons_zero, List.set_cons_succ, List.length_cons, List.length_nil, List.map_cons, List.map_nil, List.replicate_succ, List.replicate_zero, List.cons_append, List.nil_append, List.head?_cons, List.tail_cons, Option.join_some, Option.map_some, if_true, if_false, ite_true, ite_false, reduceIte, reduceCtorEq, BEq.rfl, Bool.false_eq_true, Bool.not_true, Bool.not_false, List.all_cons, List.all_nil, Bool.and_true, Bool.true_and, Bool.and_self, true_and, and_true, exists_eq_left, exists_eq_left', D.bl.injEq, D.int.injEq, D.str.injEq, D.tup.injEq, Out.rt.injEq, Nat.lt_add_left_iff_pos, Nat.zero_lt_succ, Nat.reduceAdd, Nat.reduceLT, hq1.imm]
        refine sheet_w (n := 40) (L := 1000) (most := 990) hq1 (by decide) (by decide) (by decide) fun S3 q2 hS3 hq2 => ?_
        simp only [w_pC, w_pVar, w_pOwn, w_p1, w_p2, w_pSl, w_oNo, w_oSome, w_pTup, w_pCall, w_aNil, w_aCons, w_pIsi, w_pIsi2, w_eP, w_eMove, w_e1, w_e2, w_eTup, w_eLst, w_eFz, w_eCall, w_aNilE, w_aConsE, w_eIf, w_eComp, w_eDc, w_eDef, w_cNil, w_cVal, w_cBor, w_eMeth, w_eMetP, w_plVar, w_plIx, w_eSMet, w_yesT, w_tP, w_p2t, w_e2t, w_tTruP, w_tTru, w_tNo, w_tAnd2, w_tOr2, w_iSeq, w_iRange1, w_iRange2, w_iEnumE, rngD_len, w_gNm, w_gTup, w_gsNil, w_gsCons, w_gPut, w_sNil, w_sRet, w_sExpr, w_sAsg, w_sIf, w_sFor, w_sFz, ok_some, ok_map, takeB, giveB, outsOf, wipeE, im_non, im_bl, im_int, im_str, im_tup, im_scr, im_lst, im_dcK, im_dcT, fz_non, fz_bl, fz_int, fz_str, fz_tup, fz_scr, fz_lstT, fz_lst, fz_dcT, fz_dcK, wk_tup, wk_lst, wk_scr, wk_str, sI_tup, sI_lst, tr_bl, lt_int, gt_int, le_int, ge_int, eq_int, ne_int, eq_str, ne_str, ne_bl, eq_bl, add_int, sub_int, neg_int, g_int, g_abs, ix_tup, ix_lst, at0, at1, at2, g_len_tup, g_len_lst, List.getElem?_cons_zero, List.getElem?_cons_succ, List.set_cons_zero, List.set_cons_succ, List.length_cons, List.length_nil, List.map_cons, List.map_nil, List.replicate_succ, List.replicate_zero, List.cons_append, List.nil_append, List.head?_cons, List.tail_cons, Option.join_some, Option.map_some, if_true, if_false, ite_true, ite_false, reduceIte, reduceCtorEq, BEq.rfl, Bool.false_eq_true, Bool.not_true, Bool.not_false, List.all_cons, List.all_nil, Bool.and_true, Bool.true_and, Bool.and_self, true_and, and_true, exists_eq_left, exists_eq_left', D.bl.injEq, D.int.injEq, D.str.injEq, D.tup.injEq, Out.rt.injEq, Nat.lt_add_left_iff_pos, Nat.zero_lt_succ, Nat.reduceAdd, Nat.reduceLT, hq1.imm, sheet_fz]
        simp only [w_pC, w_pVar, w_pOwn, w_p1, w_p2, w_pSl, w_oNo, w_oSome, w_pTup, w_pCall, w_aNil, w_aCons, w_pIsi, w_pIsi2, w_eP, w_eMove, w_e1, w_e2, w_eTup, w_eLst, w_eFz, w_eCall, w_aNilE, w_aConsE, w_eIf, w_eComp, w_eDc, w_eDef, w_cNil, w_cVal, w_cBor, w_eMeth, w_eMetP, w_plVar, w_plIx, w_eSMet, w_yesT, w_tP, w_p2t, w_e2t, w_tTruP, w_tTru, w_tNo, w_tAnd2, w_tOr2, w_iSeq, w_iRange1, w_iRange2, w_iEnumE, rngD_len, w_gNm, w_gTup, w_gsNil, w_gsCons, w_gPut, w_sNil, w_sRet, w_sExpr, w_sAsg, w_sIf, w_sFor, w_sFz, ok_some, ok_map, takeB, giveB, outsOf, wipeE, im_non, im_bl, im_int, im_str, im_tup, im_scr, im_lst, im_dcK, im_dcT, fz_non, fz_bl, fz_int, fz_str, fz_tup, fz_scr, fz_lstT, fz_lst, fz_dcT, fz_dcK, wk_tup, wk_lst, wk_scr, wk_str, sI_tup, sI_lst, tr_bl, lt_int, gt_int, le_int, ge_int, eq_int, ne_int, eq_str, ne_str, ne_bl, eq_bl, add_int, sub_int, neg_int, g_int, g_abs, ix_tup, ix_lst, at0, at1, at2, g_len_tup, g_len_lst, List.getElem?_cons_zero, List.getElem?_cons_succ, List.set_cons_zero, List.set_cons_succ, List.length_cons, List.length_nil, List.map_cons, List.map_nil, List.replicate_succ, List.replicate_zero, List.cons_append, List.nil_append, List.head?_cons, List.tail_cons, Option.join_some, Option.map_some, if_true, if_false, ite_true, ite_false, reduceIte, reduceCtorEq, BEq.rfl, Bool.false_eq_true, Bool.not_true, Bool.not_false, List.all_cons, List.all_nil, Bool.and_true, Bool.true_and, Bool.and_self, true_and, and_true, exists_eq_left, exists_eq_left', D.bl.injEq, D.int.injEq, D.str.injEq, D.tup.injEq, Out.rt.injEq, Nat.lt_add_left_iff_pos, Nat.zero_lt_succ, Nat.reduceAdd, Nat.reduceLT, hq2.imm, sheet_imm]
        refine asked_w hq2 hS3 fun q3 hq3 => ?_
        simp only [w_pC, w_pVar, w_pOwn, w_p1, w_p2, w_pSl, w_oNo, w_oSome, w_pTup, w_pCall, w_aNil, w_aCons, w_pIsi, w_pIsi2, w_eP, w_eMove, w_e1, w_e2, w_eTup, w_eLst, w_eFz, w_eCall, w_aNilE, w_aConsE, w_eIf, w_eComp, w_eDc, w_eDef, w_cNil, w_cVal, w_cBor, w_eMeth, w_eMetP, w_plVar, w_plIx, w_eSMet, w_yesT, w_tP, w_p2t, w_e2t, w_tTruP, w_tTru, w_tNo, w_tAnd2, w_tOr2, w_iSeq, w_iRange1, w_iRange2, w_iEnumE, rngD_len, w_gNm, w_gTup, w_gsNil, w_gsCons, w_gPut, w_sNil, w_sRet, w_sExpr, w_sAsg, w_sIf, w_sFor, w_sFz, ok_some, ok_map, takeB, giveB, outsOf, wipeE, im_non, im_bl, im_int, im_str, im_tup, im_scr, im_lst, im_dcK, im_dcT, fz_non, fz_bl, fz_int, fz_str, fz_tup, fz_scr, fz_lstT, fz_lst, fz_dcT, fz_dcK, wk_tup, wk_lst, wk_scr, wk_str, sI_tup, sI_lst, tr_bl, lt_int, gt_int, le_int, ge_int, eq_int, ne_int, eq_str, ne_str, ne_bl, eq_bl, add_int, sub_int, neg_int, g_int, g_abs, ix_tup, ix_lst, at0, at1, at2, g_len_tup, g_len_lst, List.getElem?_cons_zero, List.getElem?_cons_succ, List.set_cons_zero, List.set_cons_succ, List.length_cons, List.length_nil, List.map_cons, List.map_nil, List.replicate_succ, List.replicate_zero, List.cons_append, List.nil_append, List.head?_cons, List.tail_cons, Option.join_some, Option.map_some, if_true, if_false, ite_true, ite_false, reduceIte, reduceCtorEq, BEq.rfl, Bool.false_eq_true, Bool.not_true, Bool.not_false, List.all_cons, List.all_nil, Bool.and_true, Bool.true_and, Bool.and_self, true_and, and_true, exists_eq_left, exists_eq_left', D.bl.injEq, D.int.injEq, D.str.injEq, D.tup.injEq, Out.rt.injEq, Nat.lt_add_left_iff_pos, Nat.zero_lt_succ, Nat.reduceAdd, Nat.reduceLT, hq2.imm, sheet_imm]
        exact ⟨_, _, rfl⟩
      · simp only [w_pC, w_pVar, w_pOwn, w_p1, w_p2, w_pSl, w_oNo, w_oSome, w_pTup, w_pCall, w_aNil, w_aCons, w_pIsi, w_pIsi2, w_eP, w_eMove, w_e1, w_e2, w_eTup, w_eLst, w_eFz, w_eCall, w_aNilE, w_aConsE, w_eIf, w_eComp, w_eDc, w_eDef, w_cNil, w_cVal, w_cBor, w_eMeth, w_eMetP, w_plVar, w_plIx, w_eSMet, w_yesT, w_tP, w_p2t, w_e2t, w_tTruP, w_tTru, w_tNo, w_tAnd2, w_tOr2, w_iSeq, w_iRange1, w_iRange2, w_iEnumE, rngD_len, w_gNm, w_gTup, w_gsNil, w_gsCons, w_gPut, w_sNil, w_sRet, w_sExpr, w_sAsg, w_sIf, w_sFor, w_sFz, ok_some, ok_map, takeB, giveB, outsOf, wipeE, im_non, im_bl, im_int, im_str, im_tup, im_scr, im_lst, im_dcK, im_dcT, fz_non, fz_bl, fz_int, fz_str, fz_tup, fz_scr, fz_lstT, fz_lst, fz_dcT, fz_dcK, wk_tup, wk_lst, wk_scr, wk_str, sI_tup, sI_lst, tr_bl, lt_int, gt_int, le_int, ge_int, eq_int, ne_int, eq_str, ne_str, ne_bl, eq_bl, add_int, sub_int, neg_int, g_int, g_abs, ix_tup, ix_lst, at0, at1, at2, g_len_tup, g_len_lst, List.getElem?_cons_zero, List.getElem?_cons_succ, List.set_cons_zero, List.set_cons_succ, List.length_cons, List.length_nil, List.map_cons, List.map_nil, List.replicate_succ, List.replicate_zero, List.cons_append, List.nil_append, List.head?_cons, List.tail_cons, Option.join_some, Option.map_some, if_true, if_false, ite_true, ite_false, reduceIte, reduceCtorEq, BEq.rfl, Bool.false_eq_true, Bool.not_true, Bool.not_false, List.all_cons, List.all_nil, Bool.and_true, Bool.true_and, Bool.and_self, true_and, and_true, exists_eq_left, exists_eq_left', D.bl.injEq, D.int.injEq, D.str.injEq, D.tup.injEq, Out.rt.injEq, Nat.lt_add_left_iff_pos, Nat.zero_lt_succ, Nat.reduceAdd, Nat.reduceLT, hp9.imm, beq_eq_false_iff_ne.mpr h12]
        exact ⟨_, _, rfl⟩
    rintro ⟨o, e⟩ ⟨ho, pz, x4, he⟩
    have ho : o = .nx := ho
    have he : e = _ := he
    subst ho he
    refine ⟨rfl, ?_⟩
    refine seq_ok ?_
    simp only [w_pC, w_pVar, w_pOwn, w_p1, w_p2, w_pSl, w_oNo, w_oSome, w_pTup, w_pCall, w_aNil, w_aCons, w_pIsi, w_pIsi2, w_eP, w_eMove, w_e1, w_e2, w_eTup, w_eLst, w_eFz, w_eCall, w_aNilE, w_aConsE, w_eIf, w_eComp, w_eDc, w_eDef, w_cNil, w_cVal, w_cBor, w_eMeth, w_eMetP, w_plVar, w_plIx, w_eSMet, w_yesT, w_tP, w_p2t, w_e2t, w_tTruP, w_tTru, w_tNo, w_tAnd2, w_tOr2, w_iSeq, w_iRange1, w_iRange2, w_iEnumE, rngD_len, w_gNm, w_gTup, w_gsNil, w_gsCons, w_gPut, w_sNil, w_sRet, w_sExpr, w_sAsg, w_sIf, w_sFor, w_sFz, ok_some, ok_map, takeB, giveB, outsOf, wipeE, im_non, im_bl, im_int, im_str, im_tup, im_scr, im_lst, im_dcK, im_dcT, fz_non, fz_bl, fz_int, fz_str, fz_tup, fz_scr, fz_lstT, fz_lst, fz_dcT, fz_dcK, wk_tup, wk_lst, wk_scr, wk_str, sI_tup, sI_lst, tr_bl, lt_int, gt_int, le_int, ge_int, eq_int, ne_int, eq_str, ne_str, ne_bl, eq_bl, add_int, sub_int, neg_int, g_int, g_abs, ix_tup, ix_lst, at0, at1, at2, g_len_tup, g_len_lst, List.getElem?_cons_zero, List.getElem?_cons_succ, List.set_cons_zero, List.set_cons_succ, List.length_cons, List.length_nil, List.map_cons, List.map_nil, List.replicate_succ, List.replicate_zero, List.cons_append, List.nil_append, List.head?_cons, List.tail_cons, Option.join_some, Option.map_some, if_true, if_false, ite_true, ite_false, reduceIte, reduceCtorEq, BEq.rfl, Bool.false_eq_true, Bool.not_true, Bool.not_false, List.all_cons, List.all_nil, Bool.and_true, Bool.true_and, Bool.and_self, true_and, and_true, exists_eq_left, exists_eq_left', D.bl.injEq, D.int.injEq, D.str.injEq, D.tup.injEq, Out.rt.injEq, Nat.lt_add_left_iff_pos, Nat.zero_lt_succ, Nat.reduceAdd, Nat.reduceLT]
    have z1 : 1 ≤ szL := by decide
    have z2 : 2 ≤ szL := by decide
    have z3 : 3 ≤ szL := by decide
    have z6 : 6 ≤ szL := by decide
    have em : D.tup [.tup [.tup [.int 0, .int 1], .int 2], .tup [.tup [.str "a", .int 1, .int 999], .tup [.str "b", .int 0, .int 1000]], .tup [.tup [.str "a", .str "b", .int 0]]] = sheetD madeS := rfl
    have er : D.tup [.tup [.str "begin", .str "a"], .tup [.str "end", .str "a"], .tup [.str "hand", .int 0, .int 0], .tup [.str "hand", .int 0, .int 1], .tup [.str "hand", .int 1, .int 1], .tup [.str "tie", .str "a", .str "b"]] = .tup (madeC.map condD) := rfl
    have es : D.tup [.tup [.str "hand", .int 0, .int 0], .tup [.str "hand", .int 1, .int 1]] = .tup (struckC.map condD) := rfl
    have ep : D.tup [.tup [.tup [.int 1], .int 2], .tup [.tup [.str "a", .int 1, .int 999], .tup [.str "b", .int 0, .int 1000]], .tup [.tup [.str "a", .str "b", .int 0]]] = sheetD partedS := rfl
    simp only [z1, z2, z3, true_and]
    rw [em]
    refine seq_ok ?_
    simp only [w_pC, w_pVar, w_pOwn, w_p1, w_p2, w_pSl, w_oNo, w_oSome, w_pTup, w_pCall, w_aNil, w_aCons, w_pIsi, w_pIsi2, w_eP, w_eMove, w_e1, w_e2, w_eTup, w_eLst, w_eFz, w_eCall, w_aNilE, w_aConsE, w_eIf, w_eComp, w_eDc, w_eDef, w_cNil, w_cVal, w_cBor, w_eMeth, w_eMetP, w_plVar, w_plIx, w_eSMet, w_yesT, w_tP, w_p2t, w_e2t, w_tTruP, w_tTru, w_tNo, w_tAnd2, w_tOr2, w_iSeq, w_iRange1, w_iRange2, w_iEnumE, rngD_len, w_gNm, w_gTup, w_gsNil, w_gsCons, w_gPut, w_sNil, w_sRet, w_sExpr, w_sAsg, w_sIf, w_sFor, w_sFz, ok_some, ok_map, takeB, giveB, outsOf, wipeE, im_non, im_bl, im_int, im_str, im_tup, im_scr, im_lst, im_dcK, im_dcT, fz_non, fz_bl, fz_int, fz_str, fz_tup, fz_scr, fz_lstT, fz_lst, fz_dcT, fz_dcK, wk_tup, wk_lst, wk_scr, wk_str, sI_tup, sI_lst, tr_bl, lt_int, gt_int, le_int, ge_int, eq_int, ne_int, eq_str, ne_str, ne_bl, eq_bl, add_int, sub_int, neg_int, g_int, g_abs, ix_tup, ix_lst, at0, at1, at2, g_len_tup, g_len_lst, List.getElem?_cons_zero, List.getElem?_cons_succ, List.set_cons_zero, List.set_cons_succ, List.length_cons, List.length_nil, List.map_cons, List.map_nil, List.replicate_succ, List.replicate_zero, List.cons_append, List.nil_append, List.head?_cons, List.tail_cons, Option.join_some, Option.map_some, if_true, if_false, ite_true, ite_false, reduceIte, reduceCtorEq, BEq.rfl, Bool.false_eq_true, Bool.not_true, Bool.not_false, List.all_cons, List.all_nil, Bool.and_true, Bool.true_and, Bool.and_self, true_and, and_true, exists_eq_left, exists_eq_left', D.bl.injEq, D.int.injEq, D.str.injEq, D.tup.injEq, Out.rt.injEq, Nat.lt_add_left_iff_pos, Nat.zero_lt_succ, Nat.reduceAdd, Nat.reduceLT, z1, z2, z3, z6, er]
    refine seq_ok ?_
    simp only [w_pC, w_pVar, w_pOwn, w_p1, w_p2, w_pSl, w_oNo, w_oSome, w_pTup, w_pCall, w_aNil, w_aCons, w_pIsi, w_pIsi2, w_eP, w_eMove, w_e1, w_e2, w_eTup, w_eLst, w_eFz, w_eCall, w_aNilE, w_aConsE, w_eIf, w_eComp, w_eDc, w_eDef, w_cNil, w_cVal, w_cBor, w_eMeth, w_eMetP, w_plVar, w_plIx, w_eSMet, w_yesT, w_tP, w_p2t, w_e2t, w_tTruP, w_tTru, w_tNo, w_tAnd2, w_tOr2, w_iSeq, w_iRange1, w_iRange2, w_iEnumE, rngD_len, w_gNm, w_gTup, w_gsNil, w_gsCons, w_gPut, w_sNil, w_sRet, w_sExpr, w_sAsg, w_sIf, w_sFor, w_sFz, ok_some, ok_map, takeB, giveB, outsOf, wipeE, im_non, im_bl, im_int, im_str, im_tup, im_scr, im_lst, im_dcK, im_dcT, fz_non, fz_bl, fz_int, fz_str, fz_tup, fz_scr, fz_lstT, fz_lst, fz_dcT, fz_dcK, wk_tup, wk_lst, wk_scr, wk_str, sI_tup, sI_lst, tr_bl, lt_int, gt_int, le_int, ge_int, eq_int, ne_int, eq_str, ne_str, ne_bl, eq_bl, add_int, sub_int, neg_int, g_int, g_abs, ix_tup, ix_lst, at0, at1, at2, g_len_tup, g_len_lst, List.getElem?_cons_zero, List.getElem?_cons_succ, List.set_cons_zero, List.set_cons_succ, List.length_cons, List.length_nil, List.map_cons, List.map_nil, List.replicate_succ, List.replicate_zero, List.cons_append, List.nil_append, List.head?_cons, List.tail_cons, Option.join_some, Option.map_some, if_true, if_false, ite_true, ite_false, reduceIte, reduceCtorEq, BEq.rfl, Bool.false_eq_true, Bool.not_true, Bool.not_false, List.all_cons, List.all_nil, Bool.and_true, Bool.true_and, Bool.and_self, true_and, and_true, exists_eq_left, exists_eq_left', D.bl.injEq, D.int.injEq, D.str.injEq, D.tup.injEq, Out.rt.injEq, Nat.lt_add_left_iff_pos, Nat.zero_lt_succ, Nat.reduceAdd, Nat.reduceLT, sheet_imm]
    refine conditions_w made_fine ?_
    rw [made_conds]
    simp only [w_pC, w_pVar, w_pOwn, w_p1, w_p2, w_pSl, w_oNo, w_oSome, w_pTup, w_pCall, w_aNil, w_aCons, w_pIsi, w_pIsi2, w_eP, w_eMove, w_e1, w_e2, w_eTup, w_eLst, w_eFz, w_eCall, w_aNilE, w_aConsE, w_eIf, w_eComp, w_eDc, w_eDef, w_cNil, w_cVal, w_cBor, w_eMeth, w_eMetP, w_plVar, w_plIx, w_eSMet, w_yesT, w_tP, w_p2t, w_e2t, w_tTruP, w_tTru, w_tNo, w_tAnd2, w_tOr2, w_iSeq, w_iRange1, w_iRange2, w_iEnumE, rngD_len, w_gNm, w_gTup, w_gsNil, w_gsCons, w_gPut, w_sNil, w_sRet, w_sExpr, w_sAsg, w_sIf, w_sFor, w_sFz, ok_some, ok_map, takeB, giveB, outsOf, wipeE, im_non, im_bl, im_int, im_str, im_tup, im_scr, im_lst, im_dcK, im_dcT, fz_non, fz_bl, fz_int, fz_str, fz_tup, fz_scr, fz_lstT, fz_lst, fz_dcT, fz_dcK, wk_tup, wk_lst, wk_scr, wk_str, sI_tup, sI_lst, tr_bl, lt_int, gt_int, le_int, ge_int, eq_int, ne_int, eq_str, ne_str, ne_bl, eq_bl, add_int, sub_int, neg_int, g_int, g_abs, ix_tup, ix_lst, at0, at1, at2, g_len_tup, g_len_lst, List.getElem?_cons_zero, List.getElem?_cons_succ, List.set_cons_zero, List.set_cons_succ, List.length_cons, List.length_nil, List.map_cons, List.map_nil, List.replicate_succ, List.replicate_zero, List.cons_append, List.nil_append, List.head?_cons, List.tail_cons, Option.join_some, Option.map_some, if_true, if_false, ite_true, ite_false, reduceIte, reduceCtorEq, BEq.rfl, Bool.false_eq_true, Bool.not_true, Bool.not_false, List.all_cons, List.all_nil, Bool.and_true, Bool.true_and, Bool.and_self, true_and, and_true, exists_eq_left, exists_eq_left', D.bl.injEq, D.int.injEq, D.str.injEq, D.tup.injEq, Out.rt.injEq, Nat.lt_add_left_iff_pos, Nat.zero_lt_succ, Nat.reduceAdd, Nat.reduceLT, sheet_imm]
    refine same_w (conds_plain _) (conds_nodes (by decide)) ?_
    simp only [w_pC, w_pVar, w_pOwn, w_p1, w_p2, w_pSl, w_oNo, w_oSome, w_pTup, w_pCall, w_aNil, w_aCons, w_pIsi, w_pIsi2, w_eP, w_eMove, w_e1, w_e2, w_eTup, w_eLst, w_eFz, w_eCall, w_aNilE, w_aConsE, w_eIf, w_eComp, w_eDc, w_eDef, w_cNil, w_cVal, w_cBor, w_eMeth, w_eMetP, w_plVar, w_plIx, w_eSMet, w_yesT, w_tP, w_p2t, w_e2t, w_tTruP, w_tTru, w_tNo, w_tAnd2, w_tOr2, w_iSeq, w_iRange1, w_iRange2, w_iEnumE, rngD_len, w_gNm, w_gTup, w_gsNil, w_gsCons, w_gPut, w_sNil, w_sRet, w_sExpr, w_sAsg, w_sIf, w_sFor, w_sFz, ok_some, ok_map, takeB, giveB, outsOf, wipeE, im_non, im_bl, im_int, im_str, im_tup, im_scr, im_lst, im_dcK, im_dcT, fz_non, fz_bl, fz_int, fz_str, fz_tup, fz_scr, fz_lstT, fz_lst, fz_dcT, fz_dcK, wk_tup, wk_lst, wk_scr, wk_str, sI_tup, sI_lst, tr_bl, lt_int, gt_int, le_int, ge_int, eq_int, ne_int, eq_str, ne_str, ne_bl, eq_bl, add_int, sub_int, neg_int, g_int, g_abs, ix_tup, ix_lst, at0, at1, at2, g_len_tup, g_len_lst, List.getElem?_cons_zero, List.getElem?_cons_succ, List.set_cons_zero, List.set_cons_succ, List.length_cons, List.length_nil, List.map_cons, List.map_nil, List.replicate_succ, List.replicate_zero, List.cons_append, List.nil_append, List.head?_cons, List.tail_cons, Option.join_some, Option.map_some, if_true, if_false, ite_true, ite_false, reduceIte, reduceCtorEq, BEq.rfl, Bool.false_eq_true, Bool.not_true, Bool.not_false, List.all_cons, List.all_nil, Bool.and_true, Bool.true_and, Bool.and_self, true_and, and_true, exists_eq_left, exists_eq_left', D.bl.injEq, D.int.injEq, D.str.injEq, D.tup.injEq, Out.rt.injEq, Nat.lt_add_left_iff_pos, Nat.zero_lt_succ, Nat.reduceAdd, Nat.reduceLT]
    refine seq_ok ?_
    simp only [w_pC, w_pVar, w_pOwn, w_p1, w_p2, w_pSl, w_oNo, w_oSome, w_pTup, w_pCall, w_aNil, w_aCons, w_pIsi, w_pIsi2, w_eP, w_eMove, w_e1, w_e2, w_eTup, w_eLst, w_eFz, w_eCall, w_aNilE, w_aConsE, w_eIf, w_eComp, w_eDc, w_eDef, w_cNil, w_cVal, w_cBor, w_eMeth, w_eMetP, w_plVar, w_plIx, w_eSMet, w_yesT, w_tP, w_p2t, w_e2t, w_tTruP, w_tTru, w_tNo, w_tAnd2, w_tOr2, w_iSeq, w_iRange1, w_iRange2, w_iEnumE, rngD_len, w_gNm, w_gTup, w_gsNil, w_gsCons, w_gPut, w_sNil, w_sRet, w_sExpr, w_sAsg, w_sIf, w_sFor, w_sFz, ok_some, ok_map, takeB, giveB, outsOf, wipeE, im_non, im_bl, im_int, im_str, im_tup, im_scr, im_lst, im_dcK, im_dcT, fz_non, fz_bl, fz_int, fz_str, fz_tup, fz_scr, fz_lstT, fz_lst, fz_dcT, fz_dcK, wk_tup, wk_lst, wk_scr, wk_str, sI_tup, sI_lst, tr_bl, lt_int, gt_int, le_int, ge_int, eq_int, ne_int, eq_str, ne_str, ne_bl, eq_bl, add_int, sub_int, neg_int, g_int, g_abs, ix_tup, ix_lst, at0, at1, at2, g_len_tup, g_len_lst, List.getElem?_cons_zero, List.getElem?_cons_succ, List.set_cons_zero, List.set_cons_succ, List.length_cons, List.length_nil, List.map_cons, List.map_nil, List.replicate_succ, List.replicate_zero, List.cons_append, List.nil_append, List.head?_cons, List.tail_cons, Option.join_some, Option.map_some, if_true, if_false, ite_true, ite_false, reduceIte, reduceCtorEq, BEq.rfl, Bool.false_eq_true, Bool.not_true, Bool.not_false, List.all_cons, List.all_nil, Bool.and_true, Bool.true_and, Bool.and_self, true_and, and_true, exists_eq_left, exists_eq_left', D.bl.injEq, D.int.injEq, D.str.injEq, D.tup.injEq, Out.rt.injEq, Nat.lt_add_left_iff_pos, Nat.zero_lt_succ, Nat.reduceAdd, Nat.reduceLT, sheet_imm, z1, z2, z3, es]
    refine sheet_without_w made_fine struck_ok (by decide) ?_
    rw [made_parted]
    simp only [w_pC, w_pVar, w_pOwn, w_p1, w_p2, w_pSl, w_oNo, w_oSome, w_pTup, w_pCall, w_aNil, w_aCons, w_pIsi, w_pIsi2, w_eP, w_eMove, w_e1, w_e2, w_eTup, w_eLst, w_eFz, w_eCall, w_aNilE, w_aConsE, w_eIf, w_eComp, w_eDc, w_eDef, w_cNil, w_cVal, w_cBor, w_eMeth, w_eMetP, w_plVar, w_plIx, w_eSMet, w_yesT, w_tP, w_p2t, w_e2t, w_tTruP, w_tTru, w_tNo, w_tAnd2, w_tOr2, w_iSeq, w_iRange1, w_iRange2, w_iEnumE, rngD_len, w_gNm, w_gTup, w_gsNil, w_gsCons, w_gPut, w_sNil, w_sRet, w_sExpr, w_sAsg, w_sIf, w_sFor, w_sFz, ok_some, ok_map, takeB, giveB, outsOf, wipeE, im_non, im_bl, im_int, im_str, im_tup, im_scr, im_lst, im_dcK, im_dcT, fz_non, fz_bl, fz_int, fz_str, fz_tup, fz_scr, fz_lstT, fz_lst, fz_dcT, fz_dcK, wk_tup, wk_lst, wk_scr, wk_str, sI_tup, sI_lst, tr_bl, lt_int, gt_int, le_int, ge_int, eq_int, ne_int, eq_str, ne_str, ne_bl, eq_bl, add_int, sub_int, neg_int, g_int, g_abs, ix_tup, ix_lst, at0, at1, at2, g_len_tup, g_len_lst, List.getElem?_cons_zero, List.getElem?_cons_succ, List.set_cons_zero, List.set_cons_succ, List.length_cons, List.length_nil, List.map_cons, List.map_nil, List.replicate_succ, List.replicate_zero, List.cons_append, List.nil_append, List.head?_cons, List.tail_cons, Option.join_some, Option.map_some, if_true, if_false, ite_true, ite_false, reduceIte, reduceCtorEq, BEq.rfl, Bool.false_eq_true, Bool.not_true, Bool.not_false, List.all_cons, List.all_nil, Bool.and_true, Bool.true_and, Bool.and_self, true_and, and_true, exists_eq_left, exists_eq_left', D.bl.injEq, D.int.injEq, D.str.injEq, D.tup.injEq, Out.rt.injEq, Nat.lt_add_left_iff_pos, Nat.zero_lt_succ, Nat.reduceAdd, Nat.reduceLT, sheet_imm, sheet_fz]
    simp only [w_pC, w_pVar, w_pOwn, w_p1, w_p2, w_pSl, w_oNo, w_oSome, w_pTup, w_pCall, w_aNil, w_aCons, w_pIsi, w_pIsi2, w_eP, w_eMove, w_e1, w_e2, w_eTup, w_eLst, w_eFz, w_eCall, w_aNilE, w_aConsE, w_eIf, w_eComp, w_eDc, w_eDef, w_cNil, w_cVal, w_cBor, w_eMeth, w_eMetP, w_plVar, w_plIx, w_eSMet, w_yesT, w_tP, w_p2t, w_e2t, w_tTruP, w_tTru, w_tNo, w_tAnd2, w_tOr2, w_iSeq, w_iRange1, w_iRange2, w_iEnumE, rngD_len, w_gNm, w_gTup, w_gsNil, w_gsCons, w_gPut, w_sNil, w_sRet, w_sExpr, w_sAsg, w_sIf, w_sFor, w_sFz, ok_some, ok_map, takeB, giveB, outsOf, wipeE, im_non, im_bl, im_int, im_str, im_tup, im_scr, im_lst, im_dcK, im_dcT, fz_non, fz_bl, fz_int, fz_str, fz_tup, fz_scr, fz_lstT, fz_lst, fz_dcT, fz_dcK, wk_tup, wk_lst, wk_scr, wk_str, sI_tup, sI_lst, tr_bl, lt_int, gt_int, le_int, ge_int, eq_int, ne_int, eq_str, ne_str, ne_bl, eq_bl, add_int, sub_int, neg_int, g_int, g_abs, ix_tup, ix_lst, at0, at1, at2, g_len_tup, g_len_lst, List.getElem?_cons_zero, List.getElem?_cons_succ, List.set_cons_zero, List.set_cons_succ, List.length_cons, List.length_nil, List.map_cons, List.map_nil, List.replicate_succ, List.replicate_zero, List.cons_append, List.nil_append, List.head?_cons, List.tail_cons, Option.join_some, Option.map_some, if_true, if_false, ite_true, ite_false, reduceIte, reduceCtorEq, BEq.rfl, Bool.false_eq_true, Bool.not_true, Bool.not_false, List.all_cons, List.all_nil, Bool.and_true, Bool.true_and, Bool.and_self, true_and, and_true, exists_eq_left, exists_eq_left', D.bl.injEq, D.int.injEq, D.str.injEq, D.tup.injEq, Out.rt.injEq, Nat.lt_add_left_iff_pos, Nat.zero_lt_succ, Nat.reduceAdd, Nat.reduceLT, sheet_imm, z1, z2, z3, ep]
    refine same_w (sheet_plain _) (by decide +kernel) ?_
    simp only [w_pC, w_pVar, w_pOwn, w_p1, w_p2, w_pSl, w_oNo, w_oSome, w_pTup, w_pCall, w_aNil, w_aCons, w_pIsi, w_pIsi2, w_eP, w_eMove, w_e1, w_e2, w_eTup, w_eLst, w_eFz, w_eCall, w_aNilE, w_aConsE, w_eIf, w_eComp, w_eDc, w_eDef, w_cNil, w_cVal, w_cBor, w_eMeth, w_eMetP, w_plVar, w_plIx, w_eSMet, w_yesT, w_tP, w_p2t, w_e2t, w_tTruP, w_tTru, w_tNo, w_tAnd2, w_tOr2, w_iSeq, w_iRange1, w_iRange2, w_iEnumE, rngD_len, w_gNm, w_gTup, w_gsNil, w_gsCons, w_gPut, w_sNil, w_sRet, w_sExpr, w_sAsg, w_sIf, w_sFor, w_sFz, ok_some, ok_map, takeB, giveB, outsOf, wipeE, im_non, im_bl, im_int, im_str, im_tup, im_scr, im_lst, im_dcK, im_dcT, fz_non, fz_bl, fz_int, fz_str, fz_tup, fz_scr, fz_lstT, fz_lst, fz_dcT, fz_dcK, wk_tup, wk_lst, wk_scr, wk_str, sI_tup, sI_lst, tr_bl, lt_int, gt_int, le_int, ge_int, eq_int, ne_int, eq_str, ne_str, ne_bl, eq_bl, add_int, sub_int, neg_int, g_int, g_abs, ix_tup, ix_lst, at0, at1, at2, g_len_tup, g_len_lst, List.getElem?_cons_zero, List.getElem?_cons_succ, List.set_cons_zero, List.set_cons_succ, List.length_cons, List.length_nil, List.map_cons, List.map_nil, List.replicate_succ, List.replicate_zero, List.cons_append, List.nil_append, List.head?_cons, List.tail_cons, Option.join_some, Option.map_some, if_true, if_false, ite_true, ite_false, reduceIte, reduceCtorEq, BEq.rfl, Bool.false_eq_true, Bool.not_true, Bool.not_false, List.all_cons, List.all_nil, Bool.and_true, Bool.true_and, Bool.and_self, true_and, and_true, exists_eq_left, exists_eq_left', D.bl.injEq, D.int.injEq, D.str.injEq, D.tup.injEq, Out.rt.injEq, Nat.lt_add_left_iff_pos, Nat.zero_lt_succ, Nat.reduceAdd, Nat.reduceLT]
  obtain ⟨⟨d, outs⟩, h1, h2⟩ := main
  have h2 : d = .bl true := h2
  exact ⟨outs, by rw [h1, h2]⟩

end DL
namespace DL
open PySem PySem.Spec PyProof.Rows L2 C8
theorem all_mk {l : PySem.W.OpenLaw} {w : World} {K : PySem.W.Frag} {h : Heap} {mg : Str → Option Value} {fa f1 f2 f3 f4 f5 f6 f7 f8 f9 f10 f11 f12 f13 f14 f15 : Addr} (X : K.In h) (G : h.Ns mainGlobals mg) (hfa : mg "law" = some (.ref fa))
    {od1 an1 od2 an2 od3 an3 od4 an4 od5 an5 od6 an6 od7 an7 od8 an8 od9 an9 od10 an10 od11 an11 od12 an12 od13 an13 od14 an14 od15 an15 : Option Addr} {sl1 sl2 sl3 sl4 sl5 sl6 sl7 sl8 sl9 sl10 sl11 sl12 sl13 sl14 sl15 : Array (Option Value)} {oc1 kV1 dc1 pm1 cd1 ct1 oc2 kV2 dc2 pm2 cd2 ct2 oc3 kV3 dc3 pm3 cd3 ct3 oc4 kV4 dc4 pm4 cd4 ct4 oc5 kV5 dc5 pm5 cd5 ct5 oc6 kV6 dc6 pm6 cd6 ct6 oc7 kV7 dc7 pm7 cd7 ct7 oc8 kV8 dc8 pm8 cd8 ct8 oc9 kV9 dc9 pm9 cd9 ct9 oc10 kV10 dc10 pm10 cd10 ct10 oc11 kV11 dc11 pm11 cd11 ct11 oc12 kV12 dc12 pm12 cd12 ct12 oc13 kV13 dc13 pm13 cd13 ct13 oc14 kV14 dc14 pm14 cd14 ct14 oc15 kV15 dc15 pm15 cd15 ct15 : Value} {tk_HOURS_MOST : Tok}
    (a1 : PySem.W.nsIn K mainGlobals "make_hands" = some (some (.ref f1))) (l1 : K.lookup f1 = some ⟨oc1, od1, .func (PySem.W.fnOf "make_hands" "make_hands" (fnArgs (top 2)) (fnBody (top 2)) (fnScope (top 2)) .none kV1 dc1 pm1 an1 cd1 ct1), sl1⟩) (c1 : PySem.W.codeIn K cd1 "make_hands" = true) (k1 : PySem.W.keepIn K (.ref f1) = true)
    (a2 : PySem.W.nsIn K mainGlobals "conditions_of" = some (some (.ref f2))) (l2 : K.lookup f2 = some ⟨oc2, od2, .func (PySem.W.fnOf "conditions_of" "conditions_of" (fnArgs (top 4)) (fnBody (top 4)) (fnScope (top 4)) .none kV2 dc2 pm2 an2 cd2 ct2), sl2⟩) (c2 : PySem.W.codeIn K cd2 "conditions_of" = true) (k2 : PySem.W.keepIn K (.ref f2) = true)
    (a3 : PySem.W.nsIn K mainGlobals "_law_pool" = some (some (.ref f3))) (l3 : K.lookup f3 = some ⟨oc3, od3, .func (PySem.W.fnOf "_law_pool" "_law_pool" (fnArgs (top 8)) (fnBody (top 8)) (fnScope (top 8)) .none kV3 dc3 pm3 an3 cd3 ct3), sl3⟩) (c3 : PySem.W.codeIn K cd3 "_law_pool" = true) (k3 : PySem.W.keepIn K (.ref f3) = true)
    (a4 : PySem.W.nsIn K mainGlobals "_law_draw" = some (some (.ref f4))) (l4 : K.lookup f4 = some ⟨oc4, od4, .func (PySem.W.fnOf "_law_draw" "_law_draw" (fnArgs (top 9)) (fnBody (top 9)) (fnScope (top 9)) .none kV4 dc4 pm4 an4 cd4 ct4), sl4⟩) (c4 : PySem.W.codeIn K cd4 "_law_draw" = true) (k4 : PySem.W.keepIn K (.ref f4) = true)
    (a5 : PySem.W.nsIn K mainGlobals "_law_same" = some (some (.ref f5))) (l5 : K.lookup f5 = some ⟨oc5, od5, .func (PySem.W.fnOf "_law_same" "_law_same" (fnArgs (top 12)) (fnBody (top 12)) (fnScope (top 12)) .none kV5 dc5 pm5 an5 cd5 ct5), sl5⟩) (c5 : PySem.W.codeIn K cd5 "_law_same" = true) (k5 : PySem.W.keepIn K (.ref f5) = true)
    (a6 : PySem.W.nsIn K mainGlobals "_law_plain" = some (some (.ref f6))) (l6 : K.lookup f6 = some ⟨oc6, od6, .func (PySem.W.fnOf "_law_plain" "_law_plain" (fnArgs (top 13)) (fnBody (top 13)) (fnScope (top 13)) .none kV6 dc6 pm6 an6 cd6 ct6), sl6⟩) (c6 : PySem.W.codeIn K cd6 "_law_plain" = true) (k6 : PySem.W.keepIn K (.ref f6) = true)
    (a7 : PySem.W.nsIn K mainGlobals "_law_conditions" = some (some (.ref f7))) (l7 : K.lookup f7 = some ⟨oc7, od7, .func (PySem.W.fnOf "_law_conditions" "_law_conditions" (fnArgs (top 15)) (fnBody (top 15)) (fnScope (top 15)) .none kV7 dc7 pm7 an7 cd7 ct7), sl7⟩) (c7 : PySem.W.codeIn K cd7 "_law_conditions" = true) (k7 : PySem.W.keepIn K (.ref f7) = true)
    (a8 : PySem.W.nsIn K mainGlobals "freed_hands" = some (some (.ref f8))) (l8 : K.lookup f8 = some ⟨oc8, od8, .func (PySem.W.fnOf "freed_hands" "freed_hands" (fnArgs (top 5)) (fnBody (top 5)) (fnScope (top 5)) .none kV8 dc8 pm8 an8 cd8 ct8), sl8⟩) (c8 : PySem.W.codeIn K cd8 "freed_hands" = true) (k8 : PySem.W.keepIn K (.ref f8) = true)
    (a9 : PySem.W.nsIn K mainGlobals "_law_pick" = some (some (.ref f9))) (l9 : K.lookup f9 = some ⟨oc9, od9, .func (PySem.W.fnOf "_law_pick" "_law_pick" (fnArgs (top 10)) (fnBody (top 10)) (fnScope (top 10)) .none kV9 dc9 pm9 an9 cd9 ct9), sl9⟩) (c9 : PySem.W.codeIn K cd9 "_law_pick" = true) (k9 : PySem.W.keepIn K (.ref f9) = true)
    (a10 : PySem.W.nsIn K mainGlobals "_law_without" = some (some (.ref f10))) (l10 : K.lookup f10 = some ⟨oc10, od10, .func (PySem.W.fnOf "_law_without" "_law_without" (fnArgs (top 16)) (fnBody (top 16)) (fnScope (top 16)) .none kV10 dc10 pm10 an10 cd10 ct10), sl10⟩) (c10 : PySem.W.codeIn K cd10 "_law_without" = true) (k10 : PySem.W.keepIn K (.ref f10) = true)
    (a11 : PySem.W.nsIn K mainGlobals "sheet_without" = some (some (.ref f11))) (l11 : K.lookup f11 = some ⟨oc11, od11, .func (PySem.W.fnOf "sheet_without" "sheet_without" (fnArgs (top 6)) (fnBody (top 6)) (fnScope (top 6)) .none kV11 dc11 pm11 an11 cd11 ct11), sl11⟩) (c11 : PySem.W.codeIn K cd11 "sheet_without" = true) (k11 : PySem.W.keepIn K (.ref f11) = true)
    (a12 : PySem.W.nsIn K mainGlobals "_law_names" = some (some (.ref f12))) (l12 : K.lookup f12 = some ⟨oc12, od12, .func (PySem.W.fnOf "_law_names" "_law_names" (fnArgs (top 11)) (fnBody (top 11)) (fnScope (top 11)) .none kV12 dc12 pm12 an12 cd12 ct12), sl12⟩) (c12 : PySem.W.codeIn K cd12 "_law_names" = true) (k12 : PySem.W.keepIn K (.ref f12) = true)
    (a13 : PySem.W.nsIn K mainGlobals "_law_sheet" = some (some (.ref f13))) (l13 : K.lookup f13 = some ⟨oc13, od13, .func (PySem.W.fnOf "_law_sheet" "_law_sheet" (fnArgs (top 14)) (fnBody (top 14)) (fnScope (top 14)) .none kV13 dc13 pm13 an13 cd13 ct13), sl13⟩) (c13 : PySem.W.codeIn K cd13 "_law_sheet" = true) (k13 : PySem.W.keepIn K (.ref f13) = true)
    (a14 : PySem.W.nsIn K mainGlobals "_law_asked" = some (some (.ref f14))) (l14 : K.lookup f14 = some ⟨oc14, od14, .func (PySem.W.fnOf "_law_asked" "_law_asked" (fnArgs (top 17)) (fnBody (top 17)) (fnScope (top 17)) .none kV14 dc14 pm14 an14 cd14 ct14), sl14⟩) (c14 : PySem.W.codeIn K cd14 "_law_asked" = true) (k14 : PySem.W.keepIn K (.ref f14) = true)
    (a15 : PySem.W.nsIn K mainGlobals "law" = some (some (.ref f15))) (l15 : K.lookup f15 = some ⟨oc15, od15, .func (PySem.W.fnOf "law" "law" (fnArgs (top 18)) (fnBody (top 18)) (fnScope (top 18)) .none kV15 dc15 pm15 an15 cd15 ct15), sl15⟩) (c15 : PySem.W.codeIn K cd15 "law" = true) (k15 : PySem.W.keepIn K (.ref f15) = true)
    (z_abs : PySem.W.nsIn K mainGlobals "abs" = some none) (z_bool : PySem.W.nsIn K mainGlobals "bool" = some none) (z_enumerate : PySem.W.nsIn K mainGlobals "enumerate" = some none) (z_int : PySem.W.nsIn K mainGlobals "int" = some none) (z_isinstance : PySem.W.nsIn K mainGlobals "isinstance" = some none) (z_len : PySem.W.nsIn K mainGlobals "len" = some none) (z_list : PySem.W.nsIn K mainGlobals "list" = some none) (z_max : PySem.W.nsIn K mainGlobals "max" = some none) (z_min : PySem.W.nsIn K mainGlobals "min" = some none) (z_range : PySem.W.nsIn K mainGlobals "range" = some none) (z_sorted : PySem.W.nsIn K mainGlobals "sorted" = some none) (z_str : PySem.W.nsIn K mainGlobals "str" = some none) (z_tuple : PySem.W.nsIn K mainGlobals "tuple" = some none) (g_HOURS_MOST : PySem.W.nsIn K mainGlobals "HOURS_MOST" = some (some (.int 1000 tk_HOURS_MOST)))
    : ∃ fd : FuncData, (∀ (s : Shared) (v : Value), BindsTo s fd ⟨[v], []⟩ [("script", v)]) ∧ ∀ base : Heap, K.In base → base.Ns mainGlobals mg → FnOk l.prog w K mg base C8.CX0 6 fa fd ["script"] (Prom K F_law) := by
  have e := hfa.symm.trans (PySem.W.mg_of X G a15)
  cases e
  have T : Glo mg := ⟨PySem.W.mg_none_of X G z_abs, PySem.W.mg_none_of X G z_bool, PySem.W.mg_none_of X G z_enumerate, PySem.W.mg_none_of X G z_int, PySem.W.mg_none_of X G z_isinstance, PySem.W.mg_none_of X G z_len, PySem.W.mg_none_of X G z_list, PySem.W.mg_none_of X G z_max, PySem.W.mg_none_of X G z_min, PySem.W.mg_none_of X G z_range, PySem.W.mg_none_of X G z_sorted, PySem.W.mg_none_of X G z_str, PySem.W.mg_none_of X G z_tuple, ⟨_, PySem.W.mg_of X G g_HOURS_MOST⟩⟩
  have D1 := def_at (st := top 2) X G a1 l1 c1 k1
  have b1 := D1.fn.binds rfl (ps := ["row", "rest"]) fun _ _ _ _ _ _ us hl => match us, hl with | [_, _], _ => rfl
  have D2 := def_at (st := top 4) X G a2 l2 c2 k2
  have b2 := D2.fn.binds rfl (ps := ["sheet"]) fun _ _ _ _ _ _ us hl => match us, hl with | [_], _ => rfl
  have D3 := def_at (st := top 8) X G a3 l3 c3 k3
  have b3 := D3.fn.binds rfl (ps := ["script"]) fun _ _ _ _ _ _ us hl => match us, hl with | [_], _ => rfl
  have D4 := def_at (st := top 9) X G a4 l4 c4 k4
  have b4 := D4.fn.binds rfl (ps := ["pool", "many"]) fun _ _ _ _ _ _ us hl => match us, hl with | [_, _], _ => rfl
  have D5 := def_at (st := top 12) X G a5 l5 c5 k5
  have b5 := D5.fn.binds rfl (ps := ["told", "due"]) fun _ _ _ _ _ _ us hl => match us, hl with | [_, _], _ => rfl
  have D6 := def_at (st := top 13) X G a6 l6 c6 k6
  have b6 := D6.fn.binds rfl (ps := ["row", "rest"]) fun _ _ _ _ _ _ us hl => match us, hl with | [_, _], _ => rfl
  have D7 := def_at (st := top 15) X G a7 l7 c7 k7
  have b7 := D7.fn.binds rfl (ps := ["sheet"]) fun _ _ _ _ _ _ us hl => match us, hl with | [_], _ => rfl
  have D8 := def_at (st := top 5) X G a8 l8 c8 k8
  have b8 := D8.fn.binds rfl (ps := ["hands", "struck"]) fun _ _ _ _ _ _ us hl => match us, hl with | [_, _], _ => rfl
  have D9 := def_at (st := top 10) X G a9 l9 c9 k9
  have b9 := D9.fn.binds rfl (ps := ["pool", "row"]) fun _ _ _ _ _ _ us hl => match us, hl with | [_, _], _ => rfl
  have D10 := def_at (st := top 16) X G a10 l10 c10 k10
  have b10 := D10.fn.binds rfl (ps := ["sheet", "struck"]) fun _ _ _ _ _ _ us hl => match us, hl with | [_, _], _ => rfl
  have D11 := def_at (st := top 6) X G a11 l11 c11 k11
  have b11 := D11.fn.binds rfl (ps := ["sheet", "conditions"]) fun _ _ _ _ _ _ us hl => match us, hl with | [_, _], _ => rfl
  have D12 := def_at (st := top 11) X G a12 l12 c12 k12
  have b12 := D12.fn.binds rfl (ps := ["pool", "many"]) fun _ _ _ _ _ _ us hl => match us, hl with | [_, _], _ => rfl
  have D13 := def_at (st := top 14) X G a13 l13 c13 k13
  have b13 := D13.fn.binds rfl (ps := ["pool", "many", "long", "most"]) fun _ _ _ _ _ _ us hl => match us, hl with | [_, _, _, _], _ => rfl
  have D14 := def_at (st := top 17) X G a14 l14 c14 k14
  have b14 := D14.fn.binds rfl (ps := ["pool", "sheet", "each"]) fun _ _ _ _ _ _ us hl => match us, hl with | [_, _, _], _ => rfl
  have D15 := def_at (st := top 18) X G a15 l15 c15 k15
  refine ⟨PySem.W.fnOf "law" "law" (fnArgs (top 18)) (fnBody (top 18)) (fnScope (top 18)) .none kV15 dc15 pm15 an15 cd15 ct15, fun s v => .of_eq rfl, fun base _ _ => ?_⟩
  have C1 := ok_make_hands (P := l.prog) (w := w) (base := base) T D1 b1 
  have C2 := ok_conditions_of (P := l.prog) (w := w) (base := base) T D2 b2 
  have C3 := ok__law_pool (P := l.prog) (w := w) (base := base) T D3 b3 
  have C4 := ok__law_draw (P := l.prog) (w := w) (base := base) T D4 b4 
  have C5 := ok__law_same (P := l.prog) (w := w) (base := base) T D5 b5 
  have C6 := ok__law_plain (P := l.prog) (w := w) (base := base) T D6 b6 
  have C7 := ok__law_conditions (P := l.prog) (w := w) (base := base) T D7 b7 
  have C8 := ok_freed_hands (P := l.prog) (w := w) (base := base) T D8 b8 C1
  have C9 := ok__law_pick (P := l.prog) (w := w) (base := base) T D9 b9 C4
  have C10 := ok__law_without (P := l.prog) (w := w) (base := base) T D10 b10 C6
  have C11 := ok_sheet_without (P := l.prog) (w := w) (base := base) T D11 b11 C8
  have C12 := ok__law_names (P := l.prog) (w := w) (base := base) T D12 b12 C4 C9
  have C13 := ok__law_sheet (P := l.prog) (w := w) (base := base) T D13 b13 C4 C12 C6
  have C14 := ok__law_asked (P := l.prog) (w := w) (base := base) T D14 b14 C2 C11 C4 C5 C7 C10
  exact ok_law T D15 C2 C11 C3 C4 C5 C13 C14
theorem walk_law {l : PySem.W.OpenLaw} {q : Program} {loose : List Str} {XP : (Str → Option Value) → Heap → Prop} {YP : World → Heap → Prop} {d : DefRec} {K : Params → PySem.W.Frag} (hn : l.most = some 63) (hdf : d.params.defaults = [])
    (hY : ∀ (w : World) (h : Heap), YP w h → (K w.params).In h)
    (F : ∀ (w : World) (mg : Str → Option Value) (fa : Addr) (h : Heap), (K w.params).In h → h.Ns mainGlobals mg → mg d.name = some (.ref fa) →
      ∃ fd : FuncData, (∀ (s : Shared) (u : Value), BindsTo s fd ⟨[u], []⟩ [("script", u)]) ∧ ∀ base : Heap, (K w.params).In base → base.Ns mainGlobals mg → FnOk l.prog w (K w.params) mg base C8.CX0 6 fa fd ["script"] (Prom (K w.params) F_law)) :
    PySem.W.WalkO q loose XP YP l.row.toRowW d [] (fun f vs => PySem.call f vs) :=
  L2.walk_ofB (n := 63) (k := 6) (x := "script") (CX := fun _ => C8.CX0) (sp := fun w => Prom (K w.params) F_law) hn (by decide) hdf ⟨rfl, by decide, by decide⟩ hY F
    (fun _ _ _ ns hl hb hO hS => let ⟨_, e⟩ := law_true ns hl hb; prom_law hO hS e) fun _ _ _ _ _ z => z
end DL
open PySem PySem.W PyProof.Rows
set_option maxRecDepth 100000 in
set_option maxHeartbeats 0 in
theorem PySem.Challenge.cw_donebytwo_k30_conditions_holds : PySem.Challenge.rw_donebytwo_k30_conditions.Holds := by
  w_on; o_law; k_head; (case hw => w_witness2)
  k_fill
  refine DL.walk_law (l := PySem.Challenge.rw_donebytwo_k30_conditions) rfl rfl (fun w h Y => PySem.W.kIn_of Y) ?F
  case F =>
    intro w mg fa h KX G hmg
    refine' DL.all_mk KX G hmg ?a1 ?l1 ?c1 ?k1 ?a2 ?l2 ?c2 ?k2 ?a3 ?l3 ?c3 ?k3 ?a4 ?l4 ?c4 ?k4 ?a5 ?l5 ?c5 ?k5 ?a6 ?l6 ?c6 ?k6 ?a7 ?l7 ?c7 ?k7 ?a8 ?l8 ?c8 ?k8 ?a9 ?l9 ?c9 ?k9 ?a10 ?l10 ?c10 ?k10 ?a11 ?l11 ?c11 ?k11 ?a12 ?l12 ?c12 ?k12 ?a13 ?l13 ?c13 ?k13 ?a14 ?l14 ?c14 ?k14 ?a15 ?l15 ?c15 ?k15 ?z_abs ?z_bool ?z_enumerate ?z_int ?z_isinstance ?z_len ?z_list ?z_max ?z_min ?z_range ?z_sorted ?z_str ?z_tuple ?g_HOURS_MOST
    (case a1 => k_is); (case l1 => k_is); (case c1 => k_is); (case k1 => k_is)
    (case a2 => k_is); (case l2 => k_is); (case c2 => k_is); (case k2 => k_is)
    (case a3 => k_is); (case l3 => k_is); (case c3 => k_is); (case k3 => k_is)
    (case a4 => k_is); (case l4 => k_is); (case c4 => k_is); (case k4 => k_is)
    (case a5 => k_is); (case l5 => k_is); (case c5 => k_is); (case k5 => k_is)
    (case a6 => k_is); (case l6 => k_is); (case c6 => k_is); (case k6 => k_is)
    (case a7 => k_is); (case l7 => k_is); (case c7 => k_is); (case k7 => k_is)
    (case a8 => k_is); (case l8 => k_is); (case c8 => k_is); (case k8 => k_is)
    (case a9 => k_is); (case l9 => k_is); (case c9 => k_is); (case k9 => k_is)
    (case a10 => k_is); (case l10 => k_is); (case c10 => k_is); (case k10 => k_is)
    (case a11 => k_is); (case l11 => k_is); (case c11 => k_is); (case k11 => k_is)
    (case a12 => k_is); (case l12 => k_is); (case c12 => k_is); (case k12 => k_is)
    (case a13 => k_is); (case l13 => k_is); (case c13 => k_is); (case k13 => k_is)
    (case a14 => k_is); (case l14 => k_is); (case c14 => k_is); (case k14 => k_is)
    (case a15 => k_is); (case l15 => k_is); (case c15 => k_is); (case k15 => k_is)
    (case z_abs => k_is)
    (case z_bool => k_is)
    (case z_enumerate => k_is)
    (case z_int => k_is)
    (case z_isinstance => k_is)
    (case z_len => k_is)
    (case z_list => k_is)
    (case z_max => k_is)
    (case z_min => k_is)
    (case z_range => k_is)
    (case z_sorted => k_is)
    (case z_str => k_is)
    (case z_tuple => k_is)
    (case g_HOURS_MOST => k_is)

