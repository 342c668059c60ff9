import JvmDerived
import JvmDerived.Pilot.@@N@@Statement
import JvmDerived.Pilot.@@N@@Code
set_option linter.unusedVariables false
set_option linter.unusedSimpArgs false
namespace Jvm.RoadKit
open Sem ClassFile Op Lib Jvm.Stand Jvm.Free Jvm.LawKit
section New
variable {p : Program} {l : Launch} {e : Env} {R : Room} {s : State} {m : MethodId} {args : Array Value} {below : List Frame} {meth : Method} {c : Code} {T : State} {locs : List Loc} {cells slots : Nat}
theorem retI (X : Stand p l e R s m args below meth c T locs cells slots) (hx : p.tables.exec = Jvm.exec) {pc : Nat} {Ls : Array Slot} {z : Int32} {rest : List Value} (hret : meth.sig.returnType = some .int) (hd : decode c.code pc = .ok (.ireturn, 1)) {fs : List Frame}
    (hl : ∀ (f : JFrame) (acts : List Action), f.method = m → f.locked = none → f.entered = [] → (doReturn e (T.setTop f) acts (some (.int z))).1 = T.setFrames fs) : Steps p.tables e below (T.setTop (mkF m pc Ls (.int z :: rest))) (T.setFrames fs) := by
  have hm' : T.vm.method? m = some meth := X.method'
  have hn : narrow .int (.int z) = .int z := rfl
  show Steps p.tables e below (T.setTop { method := m, pc := pc, locals := Ls, stack := _ :: rest, locked := none }) _
  jvm_step X.here [X.here.top, hx, hd, hm', hret, hn]
  first | (intro acts; rw [hl _ acts rfl rfl rfl]) | rw [hl _ _ rfl rfl rfl]
  exact Steps.refl _
end New
end Jvm.RoadKit
namespace Jvm.Pilot.@@N@@
open Jvm Jvm.ClassFile Sem Op Lib Jvm.Free Jvm.Stand Jvm.LawKit Jvm.RoadKit Bundle Jvm.Pilot.@@N@@.Jvm.D
/- records: scalars, int-like arrays, long arrays -/
abbrev Rec : Type := (Nat → Int32) × (Nat → Int32 → Int32) × (Nat → Int32 → Int64)
def zrec : Rec := (fun _ => 0, fun _ _ => 0, fun _ _ => 0)
def gI (ob : Rec) (k : Nat) : Int32 := ob.1 k
def gA (ob : Rec) (k : Nat) (i : Int32) : Int32 := ob.2.1 k i
def gJ (ob : Rec) (k : Nat) (i : Int32) : Int64 := ob.2.2 k i
def sI (ob : Rec) (k : Nat) (v : Int32) : Rec := (fun j => if j = k then v else ob.1 j, ob.2)
def sA (ob : Rec) (k : Nat) (i v : Int32) : Rec := (ob.1, fun j x => if j = k ∧ x = i then v else ob.2.1 j x, ob.2.2)
def sJ (ob : Rec) (k : Nat) (i : Int32) (v : Int64) : Rec := (ob.1, ob.2.1, fun j x => if j = k ∧ x = i then v else ob.2.2 j x)
def chk {γ : Type} (n i : Int32) (A : Option γ) : Option γ := if i < 0 then none else if i < n then A else none
def dvz {γ : Type} (y : Int32) (A : Option γ) : Option γ := if y = 0 then none else A
def bind2 {α β γ : Type} (o : Option (α × β)) (f : α → β → Option γ) : Option γ := o.bind fun q => f q.1 q.2
def bind3 {α β γ δ : Type} (o : Option (α × β × δ)) (f : α → β → δ → Option γ) : Option γ := o.bind fun q => f q.1 q.2.1 q.2.2
theorem ite_el {c : Prop} [Decidable c] {γ : Type} {A B : Option γ} {r : γ} {Q : Prop} (h : (if c then A else B) = some r) (t : c → A = some r → Q) (e : ¬ c → B = some r → Q) : Q := by
  by_cases hc : c
  · rw [if_pos hc] at h; exact t hc h
  · rw [if_neg hc] at h; exact e hc h
theorem bind_el {α γ : Type} {o : Option α} {f : α → Option γ} {r : γ} {Q : Prop} (h : o.bind f = some r) (k : ∀ x, o = some x → f x = some r → Q) : Q := by
  cases o with
  | none => cases h
  | some x => exact k x rfl h
theorem bind2_el {α β γ : Type} {o : Option (α × β)} {f : α → β → Option γ} {r : γ} {Q : Prop} (h : bind2 o f = some r) (k : ∀ x y, o = some (x, y) → f x y = some r → Q) : Q := by
  rcases o with _ | ⟨x, y⟩
  · cases h
  · exact k x y rfl h
theorem bind3_el {α β γ δ : Type} {o : Option (α × β × δ)} {f : α → β → δ → Option γ} {r : γ} {Q : Prop} (h : bind3 o f = some r) (k : ∀ x y z, o = some (x, y, z) → f x y z = some r → Q) : Q := by
  rcases o with _ | ⟨x, y, z⟩
  · cases h
  · exact k x y z rfl h
theorem chk_el {γ : Type} {n i : Int32} {A : Option γ} {r : γ} {Q : Prop} (h : chk n i A = some r) (k : (¬ i < 0 ∧ i < n) → A = some r → Q) : Q := by
  unfold chk at h
  by_cases h0 : i < 0
  · rw [if_pos h0] at h; cases h
  · rw [if_neg h0] at h
    by_cases h1 : i < n
    · rw [if_pos h1] at h; exact k ⟨h0, h1⟩ h
    · rw [if_neg h1] at h; cases h
theorem dvz_el {γ : Type} {y : Int32} {A : Option γ} {r : γ} {Q : Prop} (h : dvz y A = some r) (k : y ≠ 0 → A = some r → Q) : Q := by
  unfold dvz at h
  by_cases h0 : y = 0
  · rw [if_pos h0] at h; cases h
  · rw [if_neg h0] at h; exact k h0 h
def All {α : Type} (p : α → Prop) : List α → Prop
  | [] => True
  | x :: l => p x ∧ All p l
theorem All.mem {α : Type} {p : α → Prop} : ∀ {l : List α}, All p l → ∀ {x : α}, x ∈ l → p x
  | [], _, _, h => nomatch h
  | _ :: _, H, _, h => (List.mem_cons.mp h).elim (fun e => e ▸ H.1) (fun e => All.mem H.2 e)
def el (ty : FieldType) (ob : Rec) (k : Nat) (j : Int32) : Value := match ty with
  | .long => .long (ob.2.2 k j)
  | _ => .int (ob.2.1 k j)
def aD (ty : FieldType) : String := match ty with
  | .int => "[I"
  | .boolean => "[Z"
  | _ => "[J"
abbrev Cls : Type := String × List (String × String) × List (String × FieldType × Int32)
abbrev mem1 (k : Nat) {d : Jvm.Cond} (h : tables_1[k]? = some d) : d ∈ tables_1 := List.mem_of_getElem? h
abbrev sOk (C : String) (nd : String × String) : Prop := (Jvm.Cond.lays C C nd.1 nd.2 ∈ tables_1 ∨ Jvm.Cond.laysFinal C C nd.1 nd.2 ∈ tables_1) ∧ (nd.2 = "I" ∨ nd.2 = "Z")
abbrev aOk (C : String) (t : String × FieldType × Int32) : Prop := (Jvm.Cond.lays C C t.1 (aD t.2.1) ∈ tables_1 ∨ Jvm.Cond.laysFinal C C t.1 (aD t.2.1) ∈ tables_1) ∧ (t.2.1 = .int ∨ t.2.1 = .boolean ∨ t.2.1 = .long) ∧ ¬ t.2.2 < 0
def K : Cls := ("SaturProver", [("cap", "I"), ("n", "I"), ("dep", "I"), ("sn", "I"), ("hasSaved", "Z"), ("res", "I"), ("wit", "I"), ("fValid", "Z")], [("toks", .int, 32), ("saved", .int, 32), ("stk", .long, 128), ("tabF", .long, 4), ("tabS", .long, 4), ("work", .long, 4)])
theorem kS : All (sOk K.1) K.2.1 := ⟨⟨Or.inl (mem1 24 rfl), Or.inl rfl⟩, ⟨Or.inl (mem1 26 rfl), Or.inl rfl⟩, ⟨Or.inl (mem1 28 rfl), Or.inl rfl⟩, ⟨Or.inl (mem1 30 rfl), Or.inl rfl⟩, ⟨Or.inl (mem1 32 rfl), Or.inr rfl⟩, ⟨Or.inl (mem1 40 rfl), Or.inl rfl⟩, ⟨Or.inl (mem1 42 rfl), Or.inl rfl⟩, ⟨Or.inl (mem1 34 rfl), Or.inr rfl⟩, trivial⟩
theorem kA : All (aOk K.1) K.2.2 := ⟨⟨Or.inr (mem1 11 rfl), Or.inl rfl, by decide⟩, ⟨Or.inr (mem1 13 rfl), Or.inl rfl, by decide⟩, ⟨Or.inr (mem1 16 rfl), Or.inr (Or.inr rfl), by decide⟩, ⟨Or.inr (mem1 18 rfl), Or.inr (Or.inr rfl), by decide⟩, ⟨Or.inr (mem1 20 rfl), Or.inr (Or.inr rfl), by decide⟩, ⟨Or.inr (mem1 22 rfl), Or.inr (Or.inr rfl), by decide⟩, trivial⟩
abbrev kN : Nat := 14
theorem kI : Jvm.Cond.instantiable K.1 kN ∈ tables_1 := mem1 1 rfl
theorem kZ : Jvm.Cond.initialized K.1 ∈ tables_1 := mem1 2 rfl
theorem kNm : (K.2.1.map (·.1) ++ K.2.2.map (·.1)).Nodup := by decide +kernel
theorem nm_ss {k k' : Nat} {nd nd' : String × String} (h : K.2.1[k]? = some nd) (h' : K.2.1[k']? = some nd') (ne : k ≠ k') : nd.1 ≠ nd'.1 := fun e => by
  have l := (List.getElem?_eq_some_iff.mp h).1
  have l' := (List.getElem?_eq_some_iff.mp h').1
  refine ne ((List.getElem?_inj (l := K.2.1.map (·.1) ++ K.2.2.map (·.1)) (i := k) (j := k') (by simp; omega) kNm).mp ?_)
  rw [List.getElem?_append_left (by simpa using l), List.getElem?_append_left (by simpa using l'), List.getElem?_map, List.getElem?_map, h, h']
  simp [e]
theorem nm_aa {k k' : Nat} {t t' : String × FieldType × Int32} (h : K.2.2[k]? = some t) (h' : K.2.2[k']? = some t') (ne : k ≠ k') : t.1 ≠ t'.1 := fun e => by
  have l := (List.getElem?_eq_some_iff.mp h).1
  have l' := (List.getElem?_eq_some_iff.mp h').1
  have q := (List.getElem?_inj (l := K.2.1.map (·.1) ++ K.2.2.map (·.1)) (i := K.2.1.length + k) (j := K.2.1.length + k') (by simp; omega) kNm).mp (by
    rw [List.getElem?_append_right (by simp), List.getElem?_append_right (by simp)]
    simp [h, h', e])
  omega
theorem nm_sa {k k' : Nat} {nd : String × String} {t : String × FieldType × Int32} (h : K.2.1[k]? = some nd) (h' : K.2.2[k']? = some t) : nd.1 ≠ t.1 := fun e => by
  have l := (List.getElem?_eq_some_iff.mp h).1
  have l' := (List.getElem?_eq_some_iff.mp h').1
  have q := (List.getElem?_inj (l := K.2.1.map (·.1) ++ K.2.2.map (·.1)) (i := k) (j := K.2.1.length + k') (by simp; omega) kNm).mp (by
    rw [List.getElem?_append_left (by simpa using l), List.getElem?_append_right (by simp)]
    simp [h, h', e])
  omega
abbrev Ctx : Type := Launch × State × Nat × Array Value
def Ok (C : Ctx) : Prop := ∀ d ∈ tables_1, d.before C.2.2.2 C.2.1 = true
def ArrAt (Z : State) (h : Heap) (b : Nat) (ty : FieldType) (len : Int32) (v : Int32 → Value) : Prop := ∃ cl : Cell, Arr Z h b cl ty ∧ cl.slots.size = len.toNatClampNeg ∧ ∀ j : Int32, ¬ j < 0 → j < len → cl.slots[j.toNatClampNeg]? = some (v j)
def ObjAt (Z : State) (h : Heap) (a : Nat) (q : Nat) (ob : Rec) : Prop :=
  Exa Z h a K.1 ∧ (∀ k nd, K.2.1[k]? = some nd → Fld Z h a K.1 nd.1 nd.2 (.int (ob.1 k))) ∧
  (∀ k t, K.2.2[k]? = some t → k < q → Fld Z h a K.1 t.1 (aD t.2.1) (.ref (a + 1 + k)) ∧ ArrAt Z h (a + 1 + k) t.2.1 t.2.2 (el t.2.1 ob k)) ∧
  (∀ k t, K.2.2[k]? = some t → q ≤ k → Fld Z h a K.1 t.1 (aD t.2.1) .null)
abbrev AH : Type := Nat × List (Nat × Nat × Rec)
def Rep (Z : State) (n0 : Nat) (h : Heap) (G : AH) : Prop :=
  h.size = G.1 ∧ Old Z n0 h ∧ (∀ x ∈ G.2, n0 ≤ x.1 ∧ x.1 + x.2.1 < G.1 ∧ ObjAt Z h x.1 x.2.1 x.2.2) ∧ G.2.Pairwise (fun x y => x.1 + x.2.1 < y.1 ∨ y.1 + y.2.1 < x.1)
section Facts
variable {Z : State} {h h' : Heap} {a b : Nat} {q k n0 top : Nat} {ob ob' : Rec} {nd : String × String} {t : String × FieldType × Int32} {a0 : Array Value} {sl : Nat} {v : Value} {H : List (Nat × Nat × Rec)} {G : AH}
theorem fld_fr {C n d : String} (e : h'[a]? = h[a]?) (F : Fld Z h a C n d v) : Fld Z h' a C n d v := by
  obtain ⟨cell, cf, k, i, f, h1, r⟩ := F; exact ⟨cell, cf, k, i, f, e.trans h1, r⟩
theorem exa_fr {C : String} (e : h'[a]? = h[a]?) (F : Exa Z h a C) : Exa Z h' a C := by
  obtain ⟨cell, k, h1, r⟩ := F; exact ⟨cell, k, e.trans h1, r⟩
theorem arrAt_fr {ty : FieldType} {len : Int32} {w : Int32 → Value} (e : h'[a]? = h[a]?) (F : ArrAt Z h a ty len w) : ArrAt Z h' a ty len w := by
  obtain ⟨cl, A, r⟩ := F; exact ⟨cl, ⟨e.trans A.1, A.2⟩, r⟩
theorem ObjAt.frame (e : ∀ b, a ≤ b → b ≤ a + q → h'[b]? = h[b]?) (F : ObjAt Z h a q ob) : ObjAt Z h' a q ob := by
  have e0 := e a (Nat.le_refl _) (Nat.le_add_right _ _)
  refine ⟨exa_fr e0 F.1, fun k nd hk => fld_fr e0 (F.2.1 k nd hk), fun k t hk hq => ⟨fld_fr e0 (F.2.2.1 k t hk hq).1, arrAt_fr (e _ (by omega) (by omega)) (F.2.2.1 k t hk hq).2⟩, fun k t hk hq => fld_fr e0 (F.2.2.2 k t hk hq)⟩
theorem ObjAt.ext (E : Ext h h') (F : ObjAt Z h a q ob) : ObjAt Z h' a q ob := by
  refine ⟨F.1.ext E, fun k nd hk => (F.2.1 k nd hk).ext E, fun k t hk hq => ⟨(F.2.2.1 k t hk hq).1.ext E, ?_⟩, fun k t hk hq => (F.2.2.2 k t hk hq).ext E⟩
  obtain ⟨cl, A, r⟩ := (F.2.2.1 k t hk hq).2; exact ⟨cl, A.ext E, r⟩
theorem wr_ne (W : Wr h h' a sl v) (ne : b ≠ a) : h'[b]? = h[b]? := by
  obtain ⟨cell, -, -, -, rfl⟩ := W; exact Array.getElem?_setIfInBounds_ne (Ne.symm ne)
theorem laidS (hw : ∀ d ∈ tables_1, d.before a0 Z = true) (hk : K.2.1[k]? = some nd) : Laid Z a0 K.1 K.1 nd.1 nd.2 := ((All.mem kS (List.mem_of_getElem? hk)).1).imp (hw _) (hw _)
theorem laidA (hw : ∀ d ∈ tables_1, d.before a0 Z = true) (hk : K.2.2[k]? = some t) : Laid Z a0 K.1 K.1 t.1 (aD t.2.1) := ((All.mem kA (List.mem_of_getElem? hk)).1).imp (hw _) (hw _)
theorem pfS (hk : K.2.1[k]? = some nd) : ∃ ty, parseFieldDescriptor nd.2 = some ty := by
  rcases (All.mem kS (List.mem_of_getElem? hk)).2 with e | e <;> rw [e]
  · exact ⟨.int, by decide⟩
  · exact ⟨.boolean, by decide⟩
theorem pfA (hk : K.2.2[k]? = some t) : parseFieldDescriptor (aD t.2.1) = some (.array t.2.1) := by
  rcases (All.mem kA (List.mem_of_getElem? hk)).2.1 with e | e | e <;> rw [e] <;> decide
theorem ObjAt.putI {x : Int32} (hw : ∀ d ∈ tables_1, d.before a0 Z = true) (F : ObjAt Z h a q ob) (hk : K.2.1[k]? = some nd) (W : Wr h h' a (Jvm.RoadKit.slotOf Z K.1 nd.1 nd.2) (.int x)) : ObjAt Z h' a q (sI ob k x) := by
  obtain ⟨ty, hty⟩ := pfS hk
  refine ⟨F.1.wr W, fun k' nd' hk' => ?_, fun k' t hk' hq => ⟨(F.2.2.1 k' t hk' hq).1.other W (Or.inr (Jvm.RoadKit.slot_ne (laidA hw hk') (laidS hw hk) (Ne.symm (nm_sa hk hk')) (pfA hk') hty)), ?_⟩, fun k' t hk' hq => (F.2.2.2 k' t hk' hq).other W (Or.inr (Jvm.RoadKit.slot_ne (laidA hw hk') (laidS hw hk) (Ne.symm (nm_sa hk hk')) (pfA hk') hty))⟩
  · by_cases e : k' = k
    · subst e; cases hk.symm.trans hk'
      have := (F.2.1 k' nd hk).same W
      simpa [sI] using this
    · obtain ⟨ty', hty'⟩ := pfS hk'
      have := (F.2.1 k' nd' hk').other W (Or.inr (Jvm.RoadKit.slot_ne (laidS hw hk') (laidS hw hk) (nm_ss hk' hk e) hty' hty))
      simpa [sI, e] using this
  · have := arrAt_fr (wr_ne W (by omega)) (F.2.2.1 k' t hk' hq).2
    have e : el t.2.1 (sI ob k x) k' = el t.2.1 ob k' := by funext j; unfold el; split <;> rfl
    rw [e]; exact this
theorem ObjAt.putA (F : ObjAt Z h a q ob) (hk : K.2.2[k]? = some t) (hq : k < q) {x : Value} {j : Int32} (hj : ¬ j < 0 ∧ j < t.2.2) (W : Wr h h' (a + 1 + k) j.toNatClampNeg x)
    (e1 : el t.2.1 ob' k = fun i => if i = j then x else el t.2.1 ob k i) (e2 : ∀ k' t', k' ≠ k → el t' ob' k' = el t' ob k') (e3 : ob'.1 = ob.1) : ObjAt Z h' a q ob' := by
  have u : h'[a]? = h[a]? := wr_ne W (by omega)
  refine ⟨exa_fr u F.1, fun k' nd hk' => by rw [e3]; exact fld_fr u (F.2.1 k' nd hk'), fun k' t' hk' hq' => ⟨fld_fr u (F.2.2.1 k' t' hk' hq').1, ?_⟩, fun k' t' hk' hq' => fld_fr u (F.2.2.2 k' t' hk' hq')⟩
  by_cases e : k' = k
  · subst e; cases hk.symm.trans hk'
    obtain ⟨cl, A, S, V⟩ := (F.2.2.1 k' t hk hq).2
    have inb : ¬ (j < 0 ∨ cl.slots.size ≤ j.toNatClampNeg) := inb_of S hj
    refine ⟨_, A.same W, by rw [sz_set]; exact S, fun i h0 h1 => ?_⟩
    rw [e1]
    by_cases ei : i = j
    · simp only [ei, if_true]; exact get_hit inb rfl
    · simp only [ei, if_false]; rw [get_miss hj.1 h0 ei]; exact V i h0 h1
  · rw [e2 k' _ e]; exact arrAt_fr (wr_ne W (by omega)) (F.2.2.1 k' t' hk' hq').2
theorem el_sA {ty : FieldType} (ht : ty ≠ .long) (j x : Int32) : el ty (sA ob k j x) k = fun i => if i = j then .int x else el ty ob k i := by
  funext i; cases ty <;> first | exact absurd rfl ht | (simp only [el, sA, true_and]; split <;> rfl)
theorem el_sJ (j : Int32) (x : Int64) : el .long (sJ ob k j x) k = fun i => if i = j then .long x else el .long ob k i := by
  funext i; simp only [el, sJ, true_and]; split <;> rfl
theorem el_sA' (j x : Int32) (k' : Nat) (t' : FieldType) (ne : k' ≠ k) : el t' (sA ob k j x) k' = el t' ob k' := by
  funext i; cases t' <;> simp [el, sA, ne]
theorem el_sJ' (j : Int32) (x : Int64) (k' : Nat) (t' : FieldType) (ne : k' ≠ k) : el t' (sJ ob k j x) k' = el t' ob k' := by
  funext i; cases t' <;> simp [el, sJ, ne]
theorem Rep.upd (R : Rep Z n0 h (top, (a, q, ob) :: H)) (hs : h'.size = h.size) (hO : Old Z n0 h') (e : ∀ b, (b < a ∨ a + q < b) → h'[b]? = h[b]?) (F : ObjAt Z h' a q ob') : Rep Z n0 h' (top, (a, q, ob') :: H) := by
  obtain ⟨r1, r2, r3, r4⟩ := R
  refine ⟨hs.trans r1, hO, fun x hx => ?_, ?_⟩
  · rcases List.mem_cons.mp hx with rfl | hx
    · exact ⟨(r3 _ (List.mem_cons_self ..)).1, (r3 _ (List.mem_cons_self ..)).2.1, F⟩
    · obtain ⟨p1, p2, p3⟩ := r3 x (List.mem_cons_of_mem _ hx)
      refine ⟨p1, p2, p3.frame fun b h1 h2 => e b ?_⟩
      have := (List.pairwise_cons.mp r4).1 x hx
      simp only at this
      omega
  · have := List.pairwise_cons.mp r4
    exact List.pairwise_cons.mpr ⟨fun y hy => this.1 y hy, this.2⟩
theorem Rep.objs (R : Rep Z n0 h (top, (a, q, ob) :: H)) : n0 ≤ a ∧ a + q < top ∧ ObjAt Z h a q ob := R.2.2.1 _ (List.mem_cons_self ..)
theorem Rep.putI {x : Int32} (hw : ∀ d ∈ tables_1, d.before a0 Z = true) (R : Rep Z n0 h (top, (a, q, ob) :: H)) (hk : K.2.1[k]? = some nd) (W : Wr h h' a (Jvm.RoadKit.slotOf Z K.1 nd.1 nd.2) (.int x)) : Rep Z n0 h' (top, (a, q, sI ob k x) :: H) :=
  R.upd W.size (R.2.1.wr W R.objs.1) (fun b hb => wr_ne W (by omega)) (R.objs.2.2.putI hw hk W)
theorem Rep.putA {x j : Int32} (R : Rep Z n0 h (top, (a, q, ob) :: H)) (hk : K.2.2[k]? = some t) (hq : k < q) (ht : t.2.1 ≠ .long) (hj : ¬ j < 0 ∧ j < t.2.2) (W : Wr h h' (a + 1 + k) j.toNatClampNeg (.int x)) : Rep Z n0 h' (top, (a, q, sA ob k j x) :: H) :=
  R.upd W.size (R.2.1.wr W (by have := R.objs.1; omega)) (fun b hb => wr_ne W (by omega)) (R.objs.2.2.putA hk hq hj W (el_sA ht j x) (fun k' t' ne => el_sA' j x k' t' ne) rfl)
theorem Rep.putJ {j : Int32} {x : Int64} (R : Rep Z n0 h (top, (a, q, ob) :: H)) (hk : K.2.2[k]? = some t) (hq : k < q) (ht : t.2.1 = .long) (hj : ¬ j < 0 ∧ j < t.2.2) (W : Wr h h' (a + 1 + k) j.toNatClampNeg (.long x)) : Rep Z n0 h' (top, (a, q, sJ ob k j x) :: H) :=
  R.upd W.size (R.2.1.wr W (by have := R.objs.1; omega)) (fun b hb => wr_ne W (by omega)) (R.objs.2.2.putA hk hq hj W (by rw [ht]; exact el_sJ j x) (fun k' t' ne => el_sJ' j x k' t' ne) rfl)
theorem Rep.swap {x y : Nat × Nat × Rec} (R : Rep Z n0 h (top, x :: y :: H)) : Rep Z n0 h (top, y :: x :: H) := by
  obtain ⟨r1, r2, r3, r4⟩ := R
  refine ⟨r1, r2, fun z hz => r3 z ?_, ?_⟩
  · simp only [List.mem_cons] at hz ⊢
    rcases hz with e | e | e
    · exact Or.inr (Or.inl e)
    · exact Or.inl e
    · exact Or.inr (Or.inr e)
  · simp only [List.pairwise_cons, List.mem_cons] at r4 ⊢
    obtain ⟨p1, p2, p3⟩ := r4
    refine ⟨fun z hz => ?_, fun z hz => p1 z (Or.inr hz), p3⟩
    rcases hz with rfl | hz
    · exact (p1 _ (Or.inl rfl)).symm
    · exact p2 z hz
theorem ObjAt.addA (hw : ∀ d ∈ tables_1, d.before a0 Z = true) (F : ObjAt Z h a k ob) (hk : K.2.2[k]? = some t) (A : ArrAt Z h (a + 1 + k) t.2.1 t.2.2 (el t.2.1 ob k)) (W : Wr h h' a (Jvm.RoadKit.slotOf Z K.1 t.1 (aD t.2.1)) (.ref (a + 1 + k))) : ObjAt Z h' a (k + 1) ob := by
  refine ⟨F.1.wr W, fun k' nd hk' => ?_, fun k' t' hk' hq => ?_, fun k' t' hk' hq => ?_⟩
  · obtain ⟨ty', hty'⟩ := pfS hk'
    exact (F.2.1 k' nd hk').other W (Or.inr (Jvm.RoadKit.slot_ne (laidS hw hk') (laidA hw hk) (nm_sa hk' hk) hty' (pfA hk)))
  · by_cases e : k' = k
    · subst e
      have et : t = t' := Option.some.inj (hk.symm.trans hk')
      subst et
      exact ⟨(F.2.2.2 k' t hk (Nat.le_refl _)).same W, arrAt_fr (wr_ne W (by omega)) A⟩
    · obtain ⟨f1, f2⟩ := F.2.2.1 k' t' hk' (by omega)
      exact ⟨f1.other W (Or.inr (Jvm.RoadKit.slot_ne (laidA hw hk') (laidA hw hk) (nm_aa hk' hk e) (pfA hk') (pfA hk))), arrAt_fr (wr_ne W (by omega)) f2⟩
  · exact (F.2.2.2 k' t' hk' (by omega)).other W (Or.inr (Jvm.RoadKit.slot_ne (laidA hw hk') (laidA hw hk) (nm_aa hk' hk (by omega)) (pfA hk') (pfA hk)))
theorem Rep.addA {h1 h2 : Heap} (hw : ∀ d ∈ tables_1, d.before a0 Z = true) (R : Rep Z n0 h (top, (a, k, ob) :: H)) (E : Ext h h1) (s1 : h1.size = top + 1) (htop : top = a + 1 + k) (hk : K.2.2[k]? = some t) (A : ArrAt Z h1 top t.2.1 t.2.2 (el t.2.1 ob k)) (W : Wr h1 h2 a (Jvm.RoadKit.slotOf Z K.1 t.1 (aD t.2.1)) (.ref top)) : Rep Z n0 h2 (top + 1, (a, k + 1, ob) :: H) := by
  obtain ⟨q1, q2, q3⟩ := R.objs
  have hp := List.pairwise_cons.mp R.2.2.2
  have hO : ObjAt Z h2 a (k + 1) ob := by
    subst htop
    exact (q3.ext E).addA hw hk A W
  refine ⟨W.size.trans s1, (R.2.1.ext E).wr W q1, List.forall_mem_cons.mpr ⟨⟨q1, ?_, hO⟩, fun x hx => ?_⟩, List.pairwise_cons.mpr ⟨fun y hy => ?_, hp.2⟩⟩
  · show a + (k + 1) < top + 1; omega
  · obtain ⟨p1, p2, p3⟩ := R.2.2.1 x (List.mem_cons_of_mem _ hx)
    have u1 : a + k < x.1 ∨ x.1 + x.2.1 < a := hp.1 x hx
    have u2 : x.1 + x.2.1 < top := p2
    exact ⟨p1, Nat.lt_succ_of_lt u2, (p3.ext E).frame fun b h1 h2 => wr_ne W (by omega)⟩
  · have u1 : a + k < y.1 ∨ y.1 + y.2.1 < a := hp.1 y hy
    have u2 : y.1 + y.2.1 < top := (R.2.2.1 y (List.mem_cons_of_mem _ hy)).2.1
    show a + (k + 1) < y.1 ∨ y.1 + y.2.1 < a
    omega
theorem arr_new {cA : ClassId} {ty : FieldType} {len : Int32} (A : Arr Z h b (newA cA ty len) ty) (hts : ty = .int ∨ ty = .boolean ∨ ty = .long) (hz : (∀ i, ob.2.1 k i = 0) ∧ (∀ i, ob.2.2 k i = 0)) : ArrAt Z h b ty len (el ty ob k) := by
  refine ⟨_, A, sz_new _ _ _, fun i h0 h1 => ?_⟩
  have hi : ¬ (i < 0 ∨ len.toNatClampNeg ≤ i.toNatClampNeg) := by
    have e0 : (0 : Int32).toInt = 0 := rfl
    simp only [Int32.lt_iff_toInt_lt, Int32.toNatClampNeg] at *
    omega
  rw [get_new hi]
  rcases hts with rfl | rfl | rfl
  · show some (Value.int 0) = some (Value.int (ob.2.1 k i)); rw [hz.1]
  · show some (Value.int 0) = some (Value.int (ob.2.1 k i)); rw [hz.1]
  · show some (Value.long 0) = some (Value.long (ob.2.2 k i)); rw [hz.2]
theorem Rep.start (s : State) : Rep s s.heap.size s.heap (s.heap.size, []) := ⟨rfl, Old.start s, fun x hx => (by cases hx), List.Pairwise.nil⟩
end Facts
/- bodies, decode facts, patterns of local variables -/
abbrev Bdy : Type := MethodName × ByteArray × Nat × Option FieldType × Room
def DAt (M : Bdy) (pc : Nat) (i : Instr) (n q : Nat) : Prop := decode M.2.1 pc = .ok (i, n) ∧ q = pc + n
abbrev Pat : Type := List (Option Slot)
abbrev vi (x : Int32) : Option Slot := some (.val (.int x))
abbrev vl (x : Int64) : Option Slot := some (.val (.long x))
abbrev vr (a : Nat) : Option Slot := some (.val (.ref a))
abbrev v2 : Option Slot := some .second
abbrev vn : Option Slot := none
def pget : Pat → Nat → Option Slot
  | [], _ => none
  | x :: _, 0 => x
  | _ :: l, n + 1 => pget l n
theorem pget_eq : ∀ (P : Pat) (i : Nat), pget P i = (P[i]?).join
  | [], _ => by simp [pget]
  | x :: l, 0 => by simp [pget]
  | x :: l, n + 1 => by simp [pget, pget_eq l n]
def pput : Pat → Nat → Option Slot → Pat
  | [], _, _ => []
  | _ :: l, 0, y => y :: l
  | x :: l, n + 1, y => x :: pput l n y
theorem pget_pput : ∀ (P : Pat) (i j : Nat) (y : Option Slot) (s : Slot), pget (pput P i y) j = some s → (j = i ∧ y = some s) ∨ (j ≠ i ∧ pget P j = some s)
  | [], _, _, _, _, h => by simp [pput, pget] at h
  | x :: l, 0, 0, y, s, h => Or.inl ⟨rfl, h⟩
  | x :: l, 0, j + 1, y, s, h => Or.inr ⟨by omega, h⟩
  | x :: l, i + 1, 0, y, s, h => Or.inr ⟨by omega, h⟩
  | x :: l, i + 1, j + 1, y, s, h => by
    rcases pget_pput l i j y s h with ⟨e, r⟩ | ⟨e, r⟩
    · exact Or.inl ⟨by omega, r⟩
    · exact Or.inr ⟨by omega, r⟩
/-- a two-word value whose first word is at i is forgotten -/
def pk1 (P : Pat) (i : Nat) : Pat := match pget P i with
  | some (.val (.long _)) => pput P i none
  | some (.val (.double _)) => pput P i none
  | _ => P
def pk2 (P : Pat) (i : Nat) : Pat := match pget P i with
  | some .second => pput P i none
  | _ => P
def pkp (P : Pat) : Nat → Pat
  | 0 => P
  | i + 1 => pk1 P i
def ps1 (P : Pat) (i : Nat) (v : Value) : Pat := pput (pk2 (pkp P i) (i + 1)) i (some (.val v))
def ps2 (P : Pat) (i : Nat) (v : Value) : Pat := pput (pput (pk2 (pkp P i) (i + 2)) i (some (.val v))) (i + 1) (some .second)
def WFl (L : Array Slot) : Prop := (∀ i : Nat, L[i]? = some .second → ∃ (j : Nat) (v : Value), i = j + 1 ∧ L[j]? = some (.val v) ∧ v.category = 2) ∧ (∀ (i : Nat) (v : Value), L[i]? = some (.val v) → v.category = 2 → L[i + 1]? = some .second)
def Fits (P : Pat) (L : Array Slot) : Prop := (∀ i s, pget P i = some s → L[i]? = some s) ∧ WFl L
theorem pk1_sub {P : Pat} {i j : Nat} {s : Slot} (h : pget (pk1 P i) j = some s) : pget P j = some s ∧ (j = i → ∀ w : Value, s = .val w → w.category = 1) := by
  unfold pk1 at h
  split at h
  · rcases pget_pput _ _ _ _ _ h with ⟨-, e⟩ | ⟨e, r⟩
    · cases e
    · exact ⟨r, fun q => absurd q e⟩
  · rcases pget_pput _ _ _ _ _ h with ⟨-, e⟩ | ⟨e, r⟩
    · cases e
    · exact ⟨r, fun q => absurd q e⟩
  · rename_i h1 h2
    refine ⟨h, fun q w e => ?_⟩
    subst q e
    cases w <;> first | rfl | exact absurd h (h1 _) | exact absurd h (h2 _)
theorem pk2_sub {P : Pat} {i j : Nat} {s : Slot} (h : pget (pk2 P i) j = some s) : pget P j = some s ∧ (j = i → s ≠ .second) := by
  unfold pk2 at h
  split at h
  · rcases pget_pput _ _ _ _ _ h with ⟨-, e⟩ | ⟨e, r⟩
    · cases e
    · exact ⟨r, fun q => absurd q e⟩
  · rename_i h1
    refine ⟨h, fun q e => ?_⟩
    subst q e; exact h1 h
theorem pkp_sub {P : Pat} {i j : Nat} {s : Slot} (h : pget (pkp P i) j = some s) : pget P j = some s ∧ (j + 1 = i → ∀ w : Value, s = .val w → w.category = 1) := by
  cases i with
  | zero => exact ⟨h, fun q => by omega⟩
  | succ i => obtain ⟨h1, h2⟩ := pk1_sub (show pget (pk1 P i) j = some s from h); exact ⟨h1, fun q => h2 (by omega)⟩
theorem setAt_eq {L : Array Slot} {i : Nat} {x : Slot} (hi : i < L.size) : Jvm.setAt L i x = some (L.setIfInBounds i x) := by simp [Jvm.setAt, hi]
theorem sl_second {L : Array Slot} {i : Nat} {v : Value} (ho : L[i]? = some .second) : storeLocals L i v = (Jvm.setAt L (i - 1) .unset).bind fun l => storeSelf l i v := by
  unfold storeLocals; rw [ho]; rfl
theorem sl_unset {L : Array Slot} {i : Nat} {v : Value} (ho : L[i]? = some .unset) : storeLocals L i v = storeSelf L i v := by
  unfold storeLocals; rw [ho]; rfl
theorem sl_val {L : Array Slot} {i : Nat} {v o : Value} (ho : L[i]? = some (.val o)) : storeLocals L i v = if o.category = 2 then (Jvm.setAt L (i + 1) .unset).bind fun l => storeSelf l i v else storeSelf L i v := by
  unfold storeLocals; rw [ho]; rfl
theorem ss_one {L : Array Slot} {i : Nat} {v : Value} (hi : i < L.size) (hv : ¬ v.category = 2) : storeSelf L i v = some (L.setIfInBounds i (.val v)) := by
  unfold storeSelf; rw [setAt_eq hi]; simp [hv]
theorem ss_two {L : Array Slot} {i : Nat} {v : Value} {o : Slot} (hi : i < L.size) (hv : v.category = 2) (ho : L[i + 1]? = some o) : storeSelf L i v = (match o with
    | .val old => if old.category = 2 then (Jvm.setAt (L.setIfInBounds i (.val v)) (i + 2) .unset).bind fun l => Jvm.setAt l (i + 1) .second else Jvm.setAt (L.setIfInBounds i (.val v)) (i + 1) .second
    | _ => Jvm.setAt (L.setIfInBounds i (.val v)) (i + 1) .second) := by
  have e : (L.setIfInBounds i (.val v))[i + 1]? = some o := by rw [Array.getElem?_setIfInBounds_ne (by omega)]; exact ho
  unfold storeSelf; rw [setAt_eq hi]
  show (if v.category = 2 then _ else _) = _
  rw [if_pos hv, e]
  cases o <;> rfl
theorem cat12 (v : Value) : v.category = 1 ∨ v.category = 2 := by cases v <;> first | exact Or.inl rfl | exact Or.inr rfl
/-- a one-word store: what stands elsewhere stays, but for the halves of a two-word value that it breaks -/
theorem store_one {L : Array Slot} {i : Nat} {v : Value} (hW : WFl L) (hi : i < L.size) (hv : v.category = 1) :
    ∃ L', storeLocals L i v = some L' ∧ L'.size = L.size ∧ WFl L' ∧ L'[i]? = some (.val v) ∧ ∀ j, j ≠ i → L'[j]? = L[j]? ∨ (j + 1 = i ∧ L[i]? = some .second) ∨ (j = i + 1 ∧ L[j]? = some .second) := by
  have hv2 : ¬ v.category = 2 := by omega
  cases ho : L[i]? with
  | none => rw [Array.getElem?_eq_none_iff] at ho; omega
  | some o =>
    cases o with
    | unset =>
      refine ⟨L.setIfInBounds i (.val v), ?_, by simp, ?_, by simp [hi], fun j hj => Or.inl (Array.getElem?_setIfInBounds_ne (Ne.symm hj))⟩
      · rw [sl_unset ho, ss_one hi hv2]
      · refine ⟨fun j hj => ?_, fun j w hj hw => ?_⟩
        · by_cases e : j = i
          · subst e; simp [hi] at hj
          · rw [Array.getElem?_setIfInBounds_ne (Ne.symm e)] at hj
            obtain ⟨j', w, e1, e2, e3⟩ := hW.1 j hj
            refine ⟨j', w, e1, ?_, e3⟩
            rw [Array.getElem?_setIfInBounds_ne]; exact e2
            intro q; subst q; rw [ho] at e2; cases e2
        · by_cases e : j = i
          · subst e; simp [hi] at hj; subst hj; omega
          · rw [Array.getElem?_setIfInBounds_ne (Ne.symm e)] at hj
            have := hW.2 j w hj hw
            rw [Array.getElem?_setIfInBounds_ne]; exact this
            intro q; subst q; rw [ho] at this; cases this
    | second =>
      obtain ⟨j0, w0, rfl, f2, f3⟩ := hW.1 i ho
      have hj0 : j0 < L.size := by omega
      refine ⟨(L.setIfInBounds j0 .unset).setIfInBounds (j0 + 1) (.val v), ?_, by simp, ?_, by simp [hi], fun j hj => ?_⟩
      · rw [sl_second ho, show j0 + 1 - 1 = j0 from rfl, setAt_eq hj0]; exact ss_one (by simpa using hi) hv2
      · refine ⟨fun j hj => ?_, fun j w hj hw => ?_⟩
        · by_cases e : j = j0 + 1
          · subst e; simp [hi] at hj
          · rw [Array.getElem?_setIfInBounds_ne (Ne.symm e)] at hj
            by_cases e' : j = j0
            · subst e'; simp [hj0] at hj
            · rw [Array.getElem?_setIfInBounds_ne (Ne.symm e')] at hj
              obtain ⟨j', w, e1, e2, e3⟩ := hW.1 j hj
              refine ⟨j', w, e1, ?_, e3⟩
              rw [Array.getElem?_setIfInBounds_ne, Array.getElem?_setIfInBounds_ne]
              · exact e2
              · intro q; subst q; omega
              · intro q; subst q; rw [ho] at e2; cases e2
        · by_cases e : j = j0 + 1
          · subst e; simp [hi] at hj; subst hj; omega
          · rw [Array.getElem?_setIfInBounds_ne (Ne.symm e)] at hj
            by_cases e' : j = j0
            · subst e'; simp [hj0] at hj
            · rw [Array.getElem?_setIfInBounds_ne (Ne.symm e')] at hj
              have := hW.2 j w hj hw
              rw [Array.getElem?_setIfInBounds_ne, Array.getElem?_setIfInBounds_ne]
              · exact this
              · intro q; subst q; rw [f2] at this; cases this
              · omega
      · by_cases e' : j = j0
        · exact Or.inr (Or.inl ⟨by omega, rfl⟩)
        · left; rw [Array.getElem?_setIfInBounds_ne (Ne.symm hj), Array.getElem?_setIfInBounds_ne (Ne.symm e')]
    | val old =>
      by_cases hc : old.category = 2
      · have f2 := hW.2 i old ho hc
        have hi1 : i + 1 < L.size := (Array.getElem?_eq_some_iff.mp f2).1
        refine ⟨(L.setIfInBounds (i + 1) .unset).setIfInBounds i (.val v), ?_, by simp, ?_, by simp [hi], fun j hj => ?_⟩
        · rw [sl_val ho, if_pos hc, setAt_eq hi1]; exact ss_one (by simpa using hi) hv2
        · refine ⟨fun j hj => ?_, fun j w hj hw => ?_⟩
          · by_cases e : j = i
            · subst e; simp [hi] at hj
            · rw [Array.getElem?_setIfInBounds_ne (Ne.symm e)] at hj
              by_cases e' : j = i + 1
              · subst e'; simp [hi1] at hj
              · rw [Array.getElem?_setIfInBounds_ne (Ne.symm e')] at hj
                obtain ⟨j', w, e1, e2, e3⟩ := hW.1 j hj
                refine ⟨j', w, e1, ?_, e3⟩
                rw [Array.getElem?_setIfInBounds_ne, Array.getElem?_setIfInBounds_ne]
                · exact e2
                · intro q; subst q; rw [f2] at e2; cases e2
                · omega
          · by_cases e : j = i
            · subst e; simp [hi] at hj; subst hj; omega
            · rw [Array.getElem?_setIfInBounds_ne (Ne.symm e)] at hj
              by_cases e' : j = i + 1
              · subst e'; simp [hi1] at hj
              · rw [Array.getElem?_setIfInBounds_ne (Ne.symm e')] at hj
                have := hW.2 j w hj hw
                rw [Array.getElem?_setIfInBounds_ne, Array.getElem?_setIfInBounds_ne]
                · exact this
                · omega
                · intro q; subst q; rw [ho] at this; cases this
        · by_cases e' : j = i + 1
          · subst e'; exact Or.inr (Or.inr ⟨rfl, f2⟩)
          · left; rw [Array.getElem?_setIfInBounds_ne (Ne.symm hj), Array.getElem?_setIfInBounds_ne (Ne.symm e')]
      · refine ⟨L.setIfInBounds i (.val v), ?_, by simp, ?_, by simp [hi], fun j hj => Or.inl (Array.getElem?_setIfInBounds_ne (Ne.symm hj))⟩
        · rw [sl_val ho, if_neg hc, ss_one hi hv2]
        · refine ⟨fun j hj => ?_, fun j w hj hw => ?_⟩
          · by_cases e : j = i
            · subst e; simp [hi] at hj
            · rw [Array.getElem?_setIfInBounds_ne (Ne.symm e)] at hj
              obtain ⟨j', w, e1, e2, e3⟩ := hW.1 j hj
              refine ⟨j', w, e1, ?_, e3⟩
              rw [Array.getElem?_setIfInBounds_ne]; exact e2
              intro q; subst q; rw [ho] at e2; cases e2; omega
          · by_cases e : j = i
            · subst e; simp [hi] at hj; subst hj; omega
            · rw [Array.getElem?_setIfInBounds_ne (Ne.symm e)] at hj
              have := hW.2 j w hj hw
              rw [Array.getElem?_setIfInBounds_ne]; exact this
              intro q; subst q; rw [ho] at this; cases this
theorem Fits.store1 {P : Pat} {L : Array Slot} {i : Nat} {v : Value} (h : Fits P L) (hi : i < L.size) (hv : v.category = 1) :
    ∃ L', storeLocals L i v = some L' ∧ L'.size = L.size ∧ Fits (ps1 P i v) L' := by
  obtain ⟨L', e1, e2, e3, e4, e5⟩ := store_one h.2 hi hv
  refine ⟨L', e1, e2, fun j s hj => ?_, e3⟩
  rcases pget_pput _ _ _ _ _ hj with ⟨rfl, q⟩ | ⟨ne, q⟩
  · rw [e4]; exact q
  · obtain ⟨q1, q2⟩ := pk2_sub q
    obtain ⟨q3, q4⟩ := pkp_sub q1
    have hL := h.1 j s q3
    rcases e5 j ne with r | ⟨r1, r2⟩ | ⟨r1, r2⟩
    · rw [r]; exact hL
    · obtain ⟨j', w, z1, z2, z3⟩ := h.2.1 i r2
      have : j' = j := by omega
      subst this
      rw [hL] at z2; cases z2
      have := q4 r1 w rfl; omega
    · rw [hL] at r2; cases r2
      exact absurd rfl (q2 r1)
theorem st_ph1 {L : Array Slot} {i : Nat} {v : Value} (hW : WFl L) (hi : i + 1 < L.size) :
    ∃ A : Array Slot, storeLocals L i v = storeSelf A i v ∧ A.size = L.size ∧ (∀ j, j ≠ i → j ≠ i + 1 → A[j]? = L[j]? ∨ (j + 1 = i ∧ L[i]? = some .second ∧ A[j]? = some .unset)) ∧ (A[i + 1]? = L[i + 1]? ∨ (A[i + 1]? = some .unset ∧ L[i + 1]? = some .second)) ∧ (L[i]? = some .second → ∀ j, j + 1 = i → A[j]? = some .unset) := by
  have hi0 : i < L.size := by omega
  cases ho : L[i]? with
  | none => rw [Array.getElem?_eq_none_iff] at ho; omega
  | some o =>
    cases o with
    | unset => exact ⟨L, sl_unset ho, rfl, fun j _ _ => Or.inl rfl, Or.inl rfl, fun q => by cases q⟩
    | second =>
      obtain ⟨j0, w0, rfl, f2, f3⟩ := hW.1 i ho
      have hj0 : j0 < L.size := by omega
      refine ⟨L.setIfInBounds j0 .unset, by rw [sl_second ho, show j0 + 1 - 1 = j0 from rfl, setAt_eq hj0]; rfl, by simp, fun j h1 h2 => ?_, Or.inl (Array.getElem?_setIfInBounds_ne (by omega)), fun _ j hj => ?_⟩
      · by_cases e : j = j0
        · subst e; exact Or.inr ⟨rfl, rfl, by simp [hj0]⟩
        · exact Or.inl (Array.getElem?_setIfInBounds_ne (Ne.symm e))
      · have : j = j0 := by omega
        subst this; simp [hj0]
    | val old =>
      by_cases hc : old.category = 2
      · refine ⟨L.setIfInBounds (i + 1) .unset, by rw [sl_val ho, if_pos hc, setAt_eq hi]; rfl, by simp, fun j h1 h2 => Or.inl (Array.getElem?_setIfInBounds_ne (Ne.symm h2)), Or.inr ⟨by simp [hi], hW.2 i old ho hc⟩, fun q => by cases q⟩
      · exact ⟨L, by rw [sl_val ho, if_neg hc], rfl, fun j _ _ => Or.inl rfl, Or.inl rfl, fun q => by cases q⟩
theorem st_ph2 {A : Array Slot} {i : Nat} {v : Value} (hi : i + 1 < A.size) (hv : v.category = 2) (hn : ∀ w : Value, A[i + 1]? = some (.val w) → w.category = 2 → i + 2 < A.size) :
    ∃ L', storeSelf A i v = some L' ∧ L'.size = A.size ∧ L'[i]? = some (.val v) ∧ L'[i + 1]? = some .second ∧ (∀ j, j ≠ i → j ≠ i + 1 → L'[j]? = A[j]? ∨ (j = i + 2 ∧ L'[j]? = some .unset ∧ ∃ w : Value, A[i + 1]? = some (.val w) ∧ w.category = 2)) ∧ ((∃ w : Value, A[i + 1]? = some (.val w) ∧ w.category = 2) → L'[i + 2]? = some .unset) := by
  have hi0 : i < A.size := by omega
  have eB : (A.setIfInBounds i (.val v))[i + 1]? = A[i + 1]? := Array.getElem?_setIfInBounds_ne (by omega)
  have plain : (∀ w : Value, A[i + 1]? = some (.val w) → w.category ≠ 2) → storeSelf A i v = some ((A.setIfInBounds i (.val v)).setIfInBounds (i + 1) .second) := fun hq => by
    cases ho : A[i + 1]? with
    | none => rw [Array.getElem?_eq_none_iff] at ho; omega
    | some o => cases o with
      | unset => rw [ss_two hi0 hv ho]; exact setAt_eq (by simpa using hi)
      | second => rw [ss_two hi0 hv ho]; exact setAt_eq (by simpa using hi)
      | val w => have := hq w ho; rw [ss_two hi0 hv ho]; simp only [if_neg this]; exact setAt_eq (by simpa using hi)
  by_cases hw : ∃ w : Value, A[i + 1]? = some (.val w) ∧ w.category = 2
  · obtain ⟨w, h1, h2⟩ := hw
    have h3 := hn w h1 h2
    refine ⟨((A.setIfInBounds i (.val v)).setIfInBounds (i + 2) .unset).setIfInBounds (i + 1) .second, by rw [ss_two hi0 hv h1]; simp only [if_pos h2]; rw [setAt_eq (by simpa using h3)]; exact setAt_eq (by simpa using hi), by simp, ?_, by simp [hi], fun j a b => ?_, fun _ => ?_⟩
    · rw [Array.getElem?_setIfInBounds_ne (by omega), Array.getElem?_setIfInBounds_ne (by omega)]; simp [hi0]
    · rw [Array.getElem?_setIfInBounds_ne (by omega)]
      by_cases e : j = i + 2
      · subst e; exact Or.inr ⟨rfl, by simp [h3], w, h1, h2⟩
      · left; rw [Array.getElem?_setIfInBounds_ne (by omega), Array.getElem?_setIfInBounds_ne (by omega)]
    · rw [Array.getElem?_setIfInBounds_ne (by omega)]; simp [h3]
  · refine ⟨_, plain fun w h1 h2 => hw ⟨w, h1, h2⟩, by simp, ?_, by simp [hi], fun j a b => Or.inl ?_, fun q => absurd q hw⟩
    · rw [Array.getElem?_setIfInBounds_ne (by omega)]; simp [hi0]
    · rw [Array.getElem?_setIfInBounds_ne (by omega), Array.getElem?_setIfInBounds_ne (by omega)]
theorem store_two {L : Array Slot} {i : Nat} {v : Value} (hW : WFl L) (hi : i + 1 < L.size) (hv : v.category = 2) :
    ∃ L', storeLocals L i v = some L' ∧ L'.size = L.size ∧ WFl L' ∧ L'[i]? = some (.val v) ∧ L'[i + 1]? = some .second ∧ ∀ j, j ≠ i → j ≠ i + 1 → L'[j]? = L[j]? ∨ (j + 1 = i ∧ L[i]? = some .second) ∨ (j = i + 2 ∧ L[j]? = some .second) := by
  obtain ⟨A, a1, a2, a3, a4, a5⟩ := st_ph1 (v := v) hW hi
  have a6 : ∀ w : Value, A[i + 1]? = some (.val w) → w.category = 2 → L[i + 2]? = some .second := fun w h1 h2 => by
    rcases a4 with e | ⟨e, -⟩
    · rw [e] at h1; exact hW.2 _ _ h1 h2
    · rw [e] at h1; cases h1
  obtain ⟨L', b1, b2, b3, b4, b5, b6⟩ := st_ph2 (A := A) (i := i) (v := v) (by omega) hv (fun w h1 h2 => by have := (Array.getElem?_eq_some_iff.mp (a6 w h1 h2)).1; omega)
  have c : ∀ j, j ≠ i → j ≠ i + 1 → L'[j]? = L[j]? ∨ (j + 1 = i ∧ L[i]? = some .second ∧ L'[j]? = some .unset) ∨ (j = i + 2 ∧ L[j]? = some .second ∧ L'[j]? = some .unset) := fun j h1 h2 => by
    rcases b5 j h1 h2 with e | ⟨e1, e2, w, e3, e4⟩
    · rcases a3 j h1 h2 with r | ⟨r1, r2, r3⟩
      · exact Or.inl (e.trans r)
      · exact Or.inr (Or.inl ⟨r1, r2, e.trans r3⟩)
    · subst e1; exact Or.inr (Or.inr ⟨rfl, a6 w e3 e4, e2⟩)
  have cs : L[i]? = some .second → ∀ j, j + 1 = i → L'[j]? = some .unset := fun q j hj => by
    rcases b5 j (by omega) (by omega) with e | ⟨e1, -⟩
    · exact e.trans (a5 q j hj)
    · omega
  have c2 : L[i + 2]? = some .second → L'[i + 2]? = some .unset := fun q => by
    obtain ⟨j', w, z1, z2, z3⟩ := hW.1 _ q
    have : j' = i + 1 := by omega
    subst this
    rcases a4 with e | ⟨-, e⟩
    · exact b6 ⟨w, e.trans z2, z3⟩
    · rw [e] at z2; cases z2
  refine ⟨L', a1.trans b1, b2.trans a2, ⟨fun j hj => ?_, fun j w hj hw => ?_⟩, b3, b4, fun j h1 h2 => ?_⟩
  · by_cases e0 : j = i
    · subst e0; rw [b3] at hj; cases hj
    by_cases e1 : j = i + 1
    · exact ⟨i, v, e1, b3, hv⟩
    rcases c j e0 e1 with r | ⟨-, -, r⟩ | ⟨-, -, r⟩
    · rw [r] at hj
      obtain ⟨j', w, z1, z2, z3⟩ := hW.1 j hj
      refine ⟨j', w, z1, ?_, z3⟩
      have n0 : j' ≠ i := by omega
      by_cases n1 : j' = i + 1
      · have : j = i + 2 := by omega
        subst this
        rw [c2 hj] at r; rw [hj] at r; cases r
      rcases c j' n0 n1 with u | ⟨u, -, -⟩ | ⟨-, u, -⟩
      · exact u.trans z2
      · omega
      · rw [z2] at u; cases u
    · rw [r] at hj; cases hj
    · rw [r] at hj; cases hj
  · by_cases e0 : j = i
    · subst e0; exact b4
    by_cases e1 : j = i + 1
    · subst e1; rw [b4] at hj; cases hj
    rcases c j e0 e1 with r | ⟨-, -, r⟩ | ⟨-, -, r⟩
    · have hj' := hj
      rw [r] at hj
      have z := hW.2 j w hj hw
      by_cases n0 : j + 1 = i
      · subst n0; rw [cs z j rfl] at hj'; cases hj'
      by_cases n1 : j + 1 = i + 1
      · omega
      rcases c (j + 1) n0 n1 with u | ⟨u1, u2, -⟩ | ⟨u, -, -⟩
      · exact u.trans z
      · obtain ⟨j', w', y1, y2, y3⟩ := hW.1 i u2
        have : j' = j + 1 := by omega
        subst this; rw [z] at y2; cases y2
      · omega
    · rw [r] at hj; cases hj
    · rw [r] at hj; cases hj
  · rcases c j h1 h2 with r | ⟨r1, r2, -⟩ | ⟨r1, r2, -⟩
    · exact Or.inl r
    · exact Or.inr (Or.inl ⟨r1, r2⟩)
    · exact Or.inr (Or.inr ⟨r1, r2⟩)
theorem Fits.store2 {P : Pat} {L : Array Slot} {i : Nat} {v : Value} (h : Fits P L) (hi : i + 1 < L.size) (hv : v.category = 2) :
    ∃ L', storeLocals L i v = some L' ∧ L'.size = L.size ∧ Fits (ps2 P i v) L' := by
  obtain ⟨L', e1, e2, e3, e4, e4', e5⟩ := store_two h.2 hi hv
  refine ⟨L', e1, e2, fun j s hj => ?_, e3⟩
  rcases pget_pput _ _ _ _ _ hj with ⟨rfl, q⟩ | ⟨ne, q⟩
  · rw [e4']; exact q
  rcases pget_pput _ _ _ _ _ q with ⟨rfl, q'⟩ | ⟨ne', q'⟩
  · rw [e4]; exact q'
  obtain ⟨q1, q2⟩ := pk2_sub q'
  obtain ⟨q3, q4⟩ := pkp_sub q1
  have hL := h.1 j s q3
  rcases e5 j ne' ne with r | ⟨r1, r2⟩ | ⟨r1, r2⟩
  · rw [r]; exact hL
  · obtain ⟨j', w, z1, z2, z3⟩ := h.2.1 i r2
    have : j' = j := by omega
    subst this
    rw [hL] at z2; cases z2
    have := q4 r1 w rfl; omega
  · rw [hL] at r2; cases r2
    exact absurd rfl (q2 r1)
/- what a body does from a place on -/
def Runs (C : Ctx) (M : Bdy) (k n pc : Nat) (P : Pat) (S : List Value) (G : AH) (Q : Option Value → AH → Prop) : Prop :=
  Ok C → ∀ (p : Program) (e : Env) (s : State) (m : MethodId) (args : Array Value) (below : List Frame) (meth : Method) (c : Code) (T : State) (locs : List Loc) (L : Array Slot),
    p.tables.exec = Jvm.exec → c.code = M.2.1 → c.maxLocals = M.2.2.1 → meth.sig.returnType = M.2.2.2.1 → meth.name = M.1.name → s.vm.findClass M.1.cls = some m.cls → C.2.1.Warmed39 s.vm →
    Fits P L → L.size = M.2.2.1 → Stand p C.1 e M.2.2.2.2 s m args below meth c T locs k n → Rep C.2.1 C.2.2.1 T.heap G → Fr C.2.2.1 locs →
    ∃ (T' : State) (locs' : List Loc) (k' n' : Nat) (r : Option Value) (G' : AH), Stand p C.1 e M.2.2.2.2 s m args below meth c T' locs' k' n' ∧ k' ≤ M.2.2.2.2.cells ∧ n' ≤ M.2.2.2.2.slots ∧ Rep C.2.1 C.2.2.1 T'.heap G' ∧ Fr C.2.2.1 locs' ∧ Q r G' ∧
      (M.2.2.2.1 = none → r = none) ∧
      ∀ fs : List Frame, (∀ (f : JFrame) (acts : List Action), f.method = m → f.locked = none → f.entered = [] → (doReturn e (T'.setTop f) acts r).1 = T'.setFrames fs) → Steps p.tables e below (T.setTop (mkF m pc L S)) (T'.setFrames fs)
section Rules
variable {C : Ctx} {M : Bdy} {k n pc q : Nat} {P P' : Pat} {S S' : List Value} {G : AH} {Q : Option Value → AH → Prop}
/-- a step that leaves the heap alone -/
theorem Runs.pure {i : Instr} {len : Nat} (d : DAt M pc i len q) {pc' : Nat}
    (st : ∀ (p : Program) (e : Env) (s : State) (m : MethodId) (args : Array Value) (below : List Frame) (meth : Method) (c : Code) (T : State) (locs : List Loc) (L : Array Slot), Ok C → p.tables.exec = Jvm.exec → s.vm.findClass M.1.cls = some m.cls → C.2.1.Warmed39 s.vm → decode c.code pc = .ok (i, len) → Fits P L → L.size = M.2.2.1 → Rep C.2.1 C.2.2.1 T.heap G →
      Stand p C.1 e M.2.2.2.2 s m args below meth c T locs k n → ∃ L', Fits P' L' ∧ L'.size = M.2.2.1 ∧ ∀ t, Steps p.tables e below (T.setTop (mkF m pc' L' S')) t → Steps p.tables e below (T.setTop (mkF m pc L S)) t)
    (h : Runs C M k n pc' P' S' G Q) : Runs C M k n pc P S G Q := by
  intro hw p e s m args below meth c T locs L hx hby hml hret hnm hown hZ hP hsz X hR hF
  obtain ⟨L', f1, f2, f3⟩ := st p e s m args below meth c T locs L hw hx hown hZ (hb hby d.1) hP hsz hR X
  obtain ⟨T', locs', k', n', r, G', g1, g2, g3, g4, g5, g6, g7, g8⟩ := h hw p e s m args below meth c T locs L' hx hby hml hret hnm hown hZ f1 f2 X hR hF
  exact ⟨T', locs', k', n', r, G', g1, g2, g3, g4, g5, g6, g7, fun fs hr => f3 _ (g8 fs hr)⟩
/-- a step that keeps the locals and what the heap says -/
theorem Runs.stk {i : Instr} {len : Nat} (d : DAt M pc i len q)
    (st : ∀ (p : Program) (e : Env) (s : State) (m : MethodId) (args : Array Value) (below : List Frame) (meth : Method) (c : Code) (T : State) (locs : List Loc) (L : Array Slot), p.tables.exec = Jvm.exec → decode c.code pc = .ok (i, len) → Fits P L →
      Stand p C.1 e M.2.2.2.2 s m args below meth c T locs k n → ∀ t, Steps p.tables e below (T.setTop (mkF m (pc + len) L S')) t → Steps p.tables e below (T.setTop (mkF m pc L S)) t)
    (h : Runs C M k n q P S' G Q) : Runs C M k n pc P S G Q := by
  have hq := d.2
  subst hq
  exact Runs.pure d (fun p e s m args below meth c T locs L _ hx _ _ hd hP hsz _ X => ⟨L, hP, hsz, st p e s m args below meth c T locs L hx hd hP X⟩) h
theorem Runs.iloadN {j : Fin 4} {v : Int32} (d : DAt M pc (.iload_n j) 1 q) (hl : pget P j.val = vi v) (h : Runs C M k n q P (.int v :: S) G Q) : Runs C M k n pc P S G Q :=
  Runs.stk d (fun p e s m args below meth c T locs L hx hd hP X t r => XS.iloadN (g := mkF m pc L S) X.here hx rfl hd (hP.1 _ _ hl) r) h
theorem Runs.iload {j : Nat} {v : Int32} (d : DAt M pc (.iload j) 2 q) (hl : pget P j = vi v) (h : Runs C M k n q P (.int v :: S) G Q) : Runs C M k n pc P S G Q :=
  Runs.stk d (fun p e s m args below meth c T locs L hx hd hP X t r => XS.iload (g := mkF m pc L S) X.here hx rfl hd (hP.1 _ _ hl) r) h
theorem Runs.lloadN {j : Fin 4} {v : Int64} (d : DAt M pc (.lload_n j) 1 q) (hl : pget P j.val = vl v) (h : Runs C M k n q P (.long v :: S) G Q) : Runs C M k n pc P S G Q :=
  Runs.stk d (fun p e s m args below meth c T locs L hx hd hP X t r => XS.lloadN (g := mkF m pc L S) X.here hx rfl hd (hP.1 _ _ hl) r) h
theorem Runs.lload {j : Nat} {v : Int64} (d : DAt M pc (.lload j) 2 q) (hl : pget P j = vl v) (h : Runs C M k n q P (.long v :: S) G Q) : Runs C M k n pc P S G Q :=
  Runs.stk d (fun p e s m args below meth c T locs L hx hd hP X t r => XS.lload (g := mkF m pc L S) X.here hx rfl hd (hP.1 _ _ hl) r) h
theorem Runs.aloadN {j : Fin 4} {v : Nat} (d : DAt M pc (.aload_n j) 1 q) (hl : pget P j.val = vr v) (h : Runs C M k n q P (.ref v :: S) G Q) : Runs C M k n pc P S G Q :=
  Runs.stk d (fun p e s m args below meth c T locs L hx hd hP X t r => XS.aloadN (g := mkF m pc L S) X.here hx rfl hd (hP.1 _ _ hl) rfl r) h
theorem Runs.aload {j : Nat} {v : Nat} (d : DAt M pc (.aload j) 2 q) (hl : pget P j = vr v) (h : Runs C M k n q P (.ref v :: S) G Q) : Runs C M k n pc P S G Q :=
  Runs.stk d (fun p e s m args below meth c T locs L hx hd hP X t r => XS.aload (g := mkF m pc L S) X.here hx rfl hd (hP.1 _ _ hl) rfl r) h
theorem Runs.iconst {i : Int} {v : Int32} (d : DAt M pc (.iconst i) 1 q) (hv : Int32.ofInt i = v) (h : Runs C M k n q P (.int v :: S) G Q) : Runs C M k n pc P S G Q :=
  Runs.stk d (fun p e s m args below meth c T locs L hx hd hP X t r => XS.iconst (g := mkF m pc L S) X.here hx rfl hd (by rw [hv]; exact r)) h
theorem Runs.bipush {i : Int} {v : Int32} (d : DAt M pc (.bipush i) 2 q) (hv : (Int8.ofInt i).toInt32 = v) (h : Runs C M k n q P (.int v :: S) G Q) : Runs C M k n pc P S G Q :=
  Runs.stk d (fun p e s m args below meth c T locs L hx hd hP X t r => XS.bipush (g := mkF m pc L S) X.here hx rfl hd (by rw [hv]; exact r)) h
theorem Runs.sipush {i : Int} {v : Int32} (d : DAt M pc (.sipush i) 3 q) (hv : (Int16.ofInt i).toInt32 = v) (h : Runs C M k n q P (.int v :: S) G Q) : Runs C M k n pc P S G Q :=
  Runs.stk d (fun p e s m args below meth c T locs L hx hd hP X t r => XS.sipush (g := mkF m pc L S) X.here hx rfl hd (by rw [hv]; exact r)) h
theorem Runs.lconst {i : Fin 2} {v : Int64} (d : DAt M pc (.lconst i) 1 q) (hv : Int64.ofNat i = v) (h : Runs C M k n q P (.long v :: S) G Q) : Runs C M k n pc P S G Q :=
  Runs.stk d (fun p e s m args below meth c T locs L hx hd hP X t r => Jvm.Free.XT.lconstV (g := mkF m pc L S) X.here hx rfl v hd hv r) h
theorem Runs.ldc {i : Nat} {v : Int32} (d : DAt M pc (.ldc i) 2 q) (w : Jvm.Cond.constant M.1.cls i v ∈ tables_1) (h : Runs C M k n q P (.int v :: S) G Q) : Runs C M k n pc P S G Q := by
  have hq := d.2
  subst hq
  exact Runs.pure d (fun p e s m args below meth c T locs L hw hx hown hZ hd hP hsz _ X => ⟨L, hP, hsz, fun t r => X.ldcInt hx hown (mvT hZ (hw _ w)) (g := mkF m pc L S) rfl hd t r⟩) h
theorem Runs.ldc2 {i : Nat} {v : Int64} (d : DAt M pc (.ldc2_w i) 3 q) (w : Jvm.Cond.constantLong M.1.cls i v ∈ tables_1) (h : Runs C M k n q P (.long v :: S) G Q) : Runs C M k n pc P S G Q := by
  have hq := d.2
  subst hq
  exact Runs.pure d (fun p e s m args below meth c T locs L hw hx hown hZ hd hP hsz _ X => ⟨L, hP, hsz, fun t r => X.ldc2Long hx hown (mvT hZ (hw _ w)) (g := mkF m pc L S) rfl hd t r⟩) h
theorem Runs.iadd {x y : Int32} (d : DAt M pc .iadd 1 q) (h : Runs C M k n q P (.int (x + y) :: S) G Q) : Runs C M k n pc P (.int y :: .int x :: S) G Q :=
  Runs.stk d (fun p e s m args below meth c T locs L hx hd hP X t r => XS.iadd (g := mkF m pc L (.int y :: .int x :: S)) X.here hx rfl hd rfl r) h
theorem Runs.isub {x y : Int32} (d : DAt M pc .isub 1 q) (h : Runs C M k n q P (.int (x - y) :: S) G Q) : Runs C M k n pc P (.int y :: .int x :: S) G Q :=
  Runs.stk d (fun p e s m args below meth c T locs L hx hd hP X t r => XS.isub (g := mkF m pc L (.int y :: .int x :: S)) X.here hx rfl hd rfl r) h
theorem Runs.imul {x y : Int32} (d : DAt M pc .imul 1 q) (h : Runs C M k n q P (.int (x * y) :: S) G Q) : Runs C M k n pc P (.int y :: .int x :: S) G Q :=
  Runs.stk d (fun p e s m args below meth c T locs L hx hd hP X t r => XS.imul (g := mkF m pc L (.int y :: .int x :: S)) X.here hx rfl hd rfl r) h
theorem Runs.iand {x y : Int32} (d : DAt M pc .iand 1 q) (h : Runs C M k n q P (.int (x &&& y) :: S) G Q) : Runs C M k n pc P (.int y :: .int x :: S) G Q :=
  Runs.stk d (fun p e s m args below meth c T locs L hx hd hP X t r => XS.iand (g := mkF m pc L (.int y :: .int x :: S)) X.here hx rfl hd rfl r) h
theorem Runs.ior {x y : Int32} (d : DAt M pc .ior 1 q) (h : Runs C M k n q P (.int (x ||| y) :: S) G Q) : Runs C M k n pc P (.int y :: .int x :: S) G Q :=
  Runs.stk d (fun p e s m args below meth c T locs L hx hd hP X t r => XS.ior (g := mkF m pc L (.int y :: .int x :: S)) X.here hx rfl hd rfl r) h
theorem Runs.ixor {x y : Int32} (d : DAt M pc .ixor 1 q) (h : Runs C M k n q P (.int (x ^^^ y) :: S) G Q) : Runs C M k n pc P (.int y :: .int x :: S) G Q :=
  Runs.stk d (fun p e s m args below meth c T locs L hx hd hP X t r => XS.ixor (g := mkF m pc L (.int y :: .int x :: S)) X.here hx rfl hd rfl r) h
theorem Runs.ladd {x y : Int64} (d : DAt M pc .ladd 1 q) (h : Runs C M k n q P (.long (x + y) :: S) G Q) : Runs C M k n pc P (.long y :: .long x :: S) G Q :=
  Runs.stk d (fun p e s m args below meth c T locs L hx hd hP X t r => XS.ladd (g := mkF m pc L (.long y :: .long x :: S)) X.here hx rfl hd rfl r) h
theorem Runs.lsub {x y : Int64} (d : DAt M pc .lsub 1 q) (h : Runs C M k n q P (.long (x - y) :: S) G Q) : Runs C M k n pc P (.long y :: .long x :: S) G Q :=
  Runs.stk d (fun p e s m args below meth c T locs L hx hd hP X t r => XS.lsub (g := mkF m pc L (.long y :: .long x :: S)) X.here hx rfl hd rfl r) h
theorem Runs.lmul {x y : Int64} (d : DAt M pc .lmul 1 q) (h : Runs C M k n q P (.long (x * y) :: S) G Q) : Runs C M k n pc P (.long y :: .long x :: S) G Q :=
  Runs.stk d (fun p e s m args below meth c T locs L hx hd hP X t r => XS.lmul (g := mkF m pc L (.long y :: .long x :: S)) X.here hx rfl hd rfl r) h
theorem Runs.land {x y : Int64} (d : DAt M pc .land 1 q) (h : Runs C M k n q P (.long (x &&& y) :: S) G Q) : Runs C M k n pc P (.long y :: .long x :: S) G Q :=
  Runs.stk d (fun p e s m args below meth c T locs L hx hd hP X t r => XS.land (g := mkF m pc L (.long y :: .long x :: S)) X.here hx rfl hd rfl r) h
theorem Runs.lor {x y : Int64} (d : DAt M pc .lor 1 q) (h : Runs C M k n q P (.long (x ||| y) :: S) G Q) : Runs C M k n pc P (.long y :: .long x :: S) G Q :=
  Runs.stk d (fun p e s m args below meth c T locs L hx hd hP X t r => XS.lor (g := mkF m pc L (.long y :: .long x :: S)) X.here hx rfl hd rfl r) h
theorem Runs.lxor {x y : Int64} (d : DAt M pc .lxor 1 q) (h : Runs C M k n q P (.long (x ^^^ y) :: S) G Q) : Runs C M k n pc P (.long y :: .long x :: S) G Q :=
  Runs.stk d (fun p e s m args below meth c T locs L hx hd hP X t r => XS.lxor (g := mkF m pc L (.long y :: .long x :: S)) X.here hx rfl hd rfl r) h
theorem Runs.ishl {x : Int32} {y : Int32} (d : DAt M pc .ishl 1 q) (h : Runs C M k n q P (.int (x <<< (y &&& 31)) :: S) G Q) : Runs C M k n pc P (.int y :: .int x :: S) G Q :=
  Runs.stk d (fun p e s m args below meth c T locs L hx hd hP X t r => XS.ishl (g := mkF m pc L (.int y :: .int x :: S)) X.here hx rfl hd rfl r) h
theorem Runs.ishr {x : Int32} {y : Int32} (d : DAt M pc .ishr 1 q) (h : Runs C M k n q P (.int (x >>> (y &&& 31)) :: S) G Q) : Runs C M k n pc P (.int y :: .int x :: S) G Q :=
  Runs.stk d (fun p e s m args below meth c T locs L hx hd hP X t r => XS.ishr (g := mkF m pc L (.int y :: .int x :: S)) X.here hx rfl hd rfl r) h
theorem Runs.iushr {x : Int32} {y : Int32} (d : DAt M pc .iushr 1 q) (h : Runs C M k n q P (.int ((x.toUInt32 >>> (y &&& 31).toUInt32).toInt32) :: S) G Q) : Runs C M k n pc P (.int y :: .int x :: S) G Q :=
  Runs.stk d (fun p e s m args below meth c T locs L hx hd hP X t r => XS.iushr (g := mkF m pc L (.int y :: .int x :: S)) X.here hx rfl hd rfl r) h
theorem Runs.lshl {x : Int64} {y : Int32} (d : DAt M pc .lshl 1 q) (h : Runs C M k n q P (.long (x <<< (y &&& 0x3f).toInt64) :: S) G Q) : Runs C M k n pc P (.int y :: .long x :: S) G Q :=
  Runs.stk d (fun p e s m args below meth c T locs L hx hd hP X t r => XS.lshl (g := mkF m pc L (.int y :: .long x :: S)) X.here hx rfl hd rfl r) h
theorem Runs.lshr {x : Int64} {y : Int32} (d : DAt M pc .lshr 1 q) (h : Runs C M k n q P (.long (x >>> (y &&& 0x3f).toInt64) :: S) G Q) : Runs C M k n pc P (.int y :: .long x :: S) G Q :=
  Runs.stk d (fun p e s m args below meth c T locs L hx hd hP X t r => XS.lshr (g := mkF m pc L (.int y :: .long x :: S)) X.here hx rfl hd rfl r) h
theorem Runs.lushr {x : Int64} {y : Int32} (d : DAt M pc .lushr 1 q) (h : Runs C M k n q P (.long ((x.toUInt64 >>> (y &&& 0x3f).toInt64.toUInt64).toInt64) :: S) G Q) : Runs C M k n pc P (.int y :: .long x :: S) G Q :=
  Runs.stk d (fun p e s m args below meth c T locs L hx hd hP X t r => XS.lushr (g := mkF m pc L (.int y :: .long x :: S)) X.here hx rfl hd rfl r) h
theorem Runs.ineg {x : Int32} (d : DAt M pc .ineg 1 q) (h : Runs C M k n q P (.int (-x) :: S) G Q) : Runs C M k n pc P (.int x :: S) G Q :=
  Runs.stk d (fun p e s m args below meth c T locs L hx hd hP X t r => XS.ineg (g := mkF m pc L (.int x :: S)) X.here hx rfl hd rfl r) h
theorem Runs.lneg {x : Int64} (d : DAt M pc .lneg 1 q) (h : Runs C M k n q P (.long (-x) :: S) G Q) : Runs C M k n pc P (.long x :: S) G Q :=
  Runs.stk d (fun p e s m args below meth c T locs L hx hd hP X t r => XS.lneg (g := mkF m pc L (.long x :: S)) X.here hx rfl hd rfl r) h
theorem Runs.i2l {x : Int32} (d : DAt M pc .i2l 1 q) (h : Runs C M k n q P (.long x.toInt64 :: S) G Q) : Runs C M k n pc P (.int x :: S) G Q :=
  Runs.stk d (fun p e s m args below meth c T locs L hx hd hP X t r => XS.i2l (g := mkF m pc L (.int x :: S)) X.here hx rfl hd rfl r) h
theorem Runs.l2i {x : Int64} (d : DAt M pc .l2i 1 q) (h : Runs C M k n q P (.int x.toInt32 :: S) G Q) : Runs C M k n pc P (.long x :: S) G Q :=
  Runs.stk d (fun p e s m args below meth c T locs L hx hd hP X t r => XS.l2i (g := mkF m pc L (.long x :: S)) X.here hx rfl hd rfl r) h
theorem Runs.lcmp {x y : Int64} (d : DAt M pc .lcmp 1 q) (h : Runs C M k n q P (.int (lcmpW x y) :: S) G Q) : Runs C M k n pc P (.long y :: .long x :: S) G Q :=
  Runs.stk d (fun p e s m args below meth c T locs L hx hd hP X t r => XS.lcmp (g := mkF m pc L (.long y :: .long x :: S)) X.here hx rfl hd rfl r) h
theorem Runs.idiv {x y : Int32} (d : DAt M pc .idiv 1 q) (hy : y ≠ 0) (h : Runs C M k n q P (.int (x / y) :: S) G Q) : Runs C M k n pc P (.int y :: .int x :: S) G Q :=
  Runs.stk d (fun p e s m args below meth c T locs L hx hd hP X t r => XS.idiv (g := mkF m pc L (.int y :: .int x :: S)) X.here hx rfl hd rfl hy r) h
theorem Runs.irem {x y : Int32} (d : DAt M pc .irem 1 q) (hy : y ≠ 0) (h : Runs C M k n q P (.int (x % y) :: S) G Q) : Runs C M k n pc P (.int y :: .int x :: S) G Q :=
  Runs.stk d (fun p e s m args below meth c T locs L hx hd hP X t r => iremM (g := mkF m pc L (.int y :: .int x :: S)) X hx rfl hd rfl hy r) h
theorem Runs.dup {x : Value} (d : DAt M pc .dup 1 q) (hc : x.category = 1) (h : Runs C M k n q P (x :: x :: S) G Q) : Runs C M k n pc P (x :: S) G Q :=
  Runs.stk d (fun p e s m args below meth c T locs L hx hd hP X t r => XS.dup (g := mkF m pc L (x :: S)) X.here hx rfl hd rfl hc r) h
theorem Runs.dup2 {x y : Value} (d : DAt M pc .dup2 1 q) (hc : x.category = 1) (hc' : y.category = 1) (h : Runs C M k n q P (x :: y :: x :: y :: S) G Q) : Runs C M k n pc P (x :: y :: S) G Q :=
  Runs.stk d (fun p e s m args below meth c T locs L hx hd hP X t r => Jvm.Free.XT.dup2 (g := mkF m pc L (x :: y :: S)) X.here hx rfl hd rfl hc hc' r) h
theorem Runs.pop {x : Value} (d : DAt M pc .pop 1 q) (hc : x.category = 1) (h : Runs C M k n q P S G Q) : Runs C M k n pc P (x :: S) G Q :=
  Runs.stk d (fun p e s m args below meth c T locs L hx hd hP X t r => XS.pop (g := mkF m pc L (x :: S)) X.here hx rfl hd rfl hc r) h
theorem Runs.goto {o : Int} {pc' : Nat} (d : DAt M pc (.goto o) 3 q) (ho : 0 ≤ (pc : Int) + o ∧ ((pc : Int) + o).toNat = pc') (h : Runs C M k n pc' P S G Q) : Runs C M k n pc P S G Q :=
  Runs.pure d (fun p e s m args below meth c T locs L hw hx hown hZ hd hP hsz _ X => ⟨L, hP, hsz, fun t r => XS.goto (g := mkF m pc L S) X.here hx rfl (pc0 := pc) rfl hd ho.1 ho.2 r⟩) h
theorem Runs.ifY {cd : ClassFile.Cond} {x : Int32} {o : Int} {pc' : Nat} (d : DAt M pc (.ifCond cd o) 3 q) (hc : if_icmp.holds cd x 0 = true) (ho : 0 ≤ (pc : Int) + o ∧ ((pc : Int) + o).toNat = pc') (h : Runs C M k n pc' P S G Q) : Runs C M k n pc P (.int x :: S) G Q :=
  Runs.pure d (fun p e s m args below meth c T locs L hw hx hown hZ hd hP hsz _ X => ⟨L, hP, hsz, fun t r => XS.ifYes (g := mkF m pc L (.int x :: S)) X.here hx rfl (pc0 := pc) rfl hd rfl ((if0 _ _).trans hc) ho.1 ho.2 r⟩) h
theorem Runs.ifN {cd : ClassFile.Cond} {x : Int32} {o : Int} (d : DAt M pc (.ifCond cd o) 3 q) (hc : if_icmp.holds cd x 0 = false) (h : Runs C M k n q P S G Q) : Runs C M k n pc P (.int x :: S) G Q :=
  Runs.stk d (fun p e s m args below meth c T locs L hx hd hP X t r => XS.ifNo (g := mkF m pc L (.int x :: S)) X.here hx rfl hd rfl ((if0 _ _).trans hc) r) h
theorem Runs.icY {cd : ClassFile.Cond} {x y : Int32} {o : Int} {pc' : Nat} (d : DAt M pc (.if_icmp cd o) 3 q) (hc : if_icmp.holds cd x y = true) (ho : 0 ≤ (pc : Int) + o ∧ ((pc : Int) + o).toNat = pc') (h : Runs C M k n pc' P S G Q) : Runs C M k n pc P (.int y :: .int x :: S) G Q :=
  Runs.pure d (fun p e s m args below meth c T locs L hw hx hown hZ hd hP hsz _ X => ⟨L, hP, hsz, fun t r => XS.icmpYes (g := mkF m pc L (.int y :: .int x :: S)) X.here hx rfl (pc0 := pc) rfl hd rfl hc ho.1 ho.2 r⟩) h
theorem Runs.icN {cd : ClassFile.Cond} {x y : Int32} {o : Int} (d : DAt M pc (.if_icmp cd o) 3 q) (hc : if_icmp.holds cd x y = false) (h : Runs C M k n q P S G Q) : Runs C M k n pc P (.int y :: .int x :: S) G Q :=
  Runs.stk d (fun p e s m args below meth c T locs L hx hd hP X t r => XS.icmpNo (g := mkF m pc L (.int y :: .int x :: S)) X.here hx rfl hd rfl hc r) h
theorem Runs.tswI {dflt low high : Int} {offs : Array Int} {len : Nat} {o : Int} {pc' : Nat} {i : Int32} (d : DAt M pc (.tableswitch dflt low high offs) len q) (hin : ¬ (i.toInt < low ∨ i.toInt > high)) (hoff : offs[(i.toInt - low).toNat]? = some o) (ho : 0 ≤ (pc : Int) + o ∧ ((pc : Int) + o).toNat = pc') (h : Runs C M k n pc' P S G Q) : Runs C M k n pc P (.int i :: S) G Q :=
  Runs.pure d (fun p e s m args below meth c T locs L hw hx hown hZ hd hP hsz _ X => ⟨L, hP, hsz, fun t r => XS.tswIn (g := mkF m pc L (.int i :: S)) X.here hx rfl (pc0 := pc) rfl hd rfl hin hoff ho.1 ho.2 r⟩) h
theorem Runs.tswO {dflt low high : Int} {offs : Array Int} {len : Nat} {pc' : Nat} {i : Int32} (d : DAt M pc (.tableswitch dflt low high offs) len q) (hout : i.toInt < low ∨ i.toInt > high) (ho : 0 ≤ (pc : Int) + dflt ∧ ((pc : Int) + dflt).toNat = pc') (h : Runs C M k n pc' P S G Q) : Runs C M k n pc P (.int i :: S) G Q :=
  Runs.pure d (fun p e s m args below meth c T locs L hw hx hown hZ hd hP hsz _ X => ⟨L, hP, hsz, fun t r => XS.tswOut (g := mkF m pc L (.int i :: S)) X.here hx rfl (pc0 := pc) rfl hd rfl hout ho.1 ho.2 r⟩) h
theorem Runs.istoreN {j : Fin 4} {x : Int32} (d : DAt M pc (.istore_n j) 1 q) (hi : j.val < M.2.2.1) (hP' : ps1 P j.val (.int x) = P') (h : Runs C M k n q P' S G Q) : Runs C M k n pc P (.int x :: S) G Q := by
  have hq := d.2
  subst hq hP'
  refine Runs.pure d (fun p e s m args below meth c T locs L hw hx hown hZ hd hP hsz _ X => ?_) h
  obtain ⟨L', e1, e2, e3⟩ := hP.store1 (i := j.val) (v := .int x) (by omega) rfl
  exact ⟨L', e3, e2.trans hsz, fun t r => XS.istoreN (g := mkF m pc L (.int x :: S)) X.here hx rfl hd rfl e1 r⟩
theorem Runs.istore {j : Nat} {x : Int32} (d : DAt M pc (.istore j) 2 q) (hi : j < M.2.2.1) (hP' : ps1 P j (.int x) = P') (h : Runs C M k n q P' S G Q) : Runs C M k n pc P (.int x :: S) G Q := by
  have hq := d.2
  subst hq hP'
  refine Runs.pure d (fun p e s m args below meth c T locs L hw hx hown hZ hd hP hsz _ X => ?_) h
  obtain ⟨L', e1, e2, e3⟩ := hP.store1 (i := j) (v := .int x) (by omega) rfl
  exact ⟨L', e3, e2.trans hsz, fun t r => XS.istore (g := mkF m pc L (.int x :: S)) X.here hx rfl hd rfl e1 r⟩
theorem Runs.astoreN {j : Fin 4} {x : Nat} (d : DAt M pc (.astore_n j) 1 q) (hi : j.val < M.2.2.1) (hP' : ps1 P j.val (.ref x) = P') (h : Runs C M k n q P' S G Q) : Runs C M k n pc P (.ref x :: S) G Q := by
  have hq := d.2
  subst hq hP'
  refine Runs.pure d (fun p e s m args below meth c T locs L hw hx hown hZ hd hP hsz _ X => ?_) h
  obtain ⟨L', e1, e2, e3⟩ := hP.store1 (i := j.val) (v := .ref x) (by omega) rfl
  exact ⟨L', e3, e2.trans hsz, fun t r => XS.astoreN (g := mkF m pc L (.ref x :: S)) X.here hx rfl hd rfl rfl e1 r⟩
theorem Runs.astore {j : Nat} {x : Nat} (d : DAt M pc (.astore j) 2 q) (hi : j < M.2.2.1) (hP' : ps1 P j (.ref x) = P') (h : Runs C M k n q P' S G Q) : Runs C M k n pc P (.ref x :: S) G Q := by
  have hq := d.2
  subst hq hP'
  refine Runs.pure d (fun p e s m args below meth c T locs L hw hx hown hZ hd hP hsz _ X => ?_) h
  obtain ⟨L', e1, e2, e3⟩ := hP.store1 (i := j) (v := .ref x) (by omega) rfl
  exact ⟨L', e3, e2.trans hsz, fun t r => XS.astore (g := mkF m pc L (.ref x :: S)) X.here hx rfl hd rfl rfl e1 r⟩
theorem Runs.lstoreN {j : Fin 4} {x : Int64} (d : DAt M pc (.lstore_n j) 1 q) (hi : j.val + 1 < M.2.2.1) (hP' : ps2 P j.val (.long x) = P') (h : Runs C M k n q P' S G Q) : Runs C M k n pc P (.long x :: S) G Q := by
  have hq := d.2
  subst hq hP'
  refine Runs.pure d (fun p e s m args below meth c T locs L hw hx hown hZ hd hP hsz _ X => ?_) h
  obtain ⟨L', e1, e2, e3⟩ := hP.store2 (i := j.val) (v := .long x) (by omega) rfl
  exact ⟨L', e3, e2.trans hsz, fun t r => XS.lstoreN (g := mkF m pc L (.long x :: S)) X.here hx rfl hd rfl e1 r⟩
theorem Runs.lstore {j : Nat} {x : Int64} (d : DAt M pc (.lstore j) 2 q) (hi : j + 1 < M.2.2.1) (hP' : ps2 P j (.long x) = P') (h : Runs C M k n q P' S G Q) : Runs C M k n pc P (.long x :: S) G Q := by
  have hq := d.2
  subst hq hP'
  refine Runs.pure d (fun p e s m args below meth c T locs L hw hx hown hZ hd hP hsz _ X => ?_) h
  obtain ⟨L', e1, e2, e3⟩ := hP.store2 (i := j) (v := .long x) (by omega) rfl
  exact ⟨L', e3, e2.trans hsz, fun t r => XS.lstore (g := mkF m pc L (.long x :: S)) X.here hx rfl hd rfl e1 r⟩
theorem Runs.iinc {j : Nat} {cst : Int} {x v : Int32} (d : DAt M pc (.iinc j cst) 3 q) (hv : Int32.ofInt cst = v) (hl : pget P j = vi x) (hi : j < M.2.2.1) (hP' : ps1 P j (.int (x + v)) = P') (h : Runs C M k n q P' S G Q) : Runs C M k n pc P S G Q := by
  have hq := d.2
  subst hq hP' hv
  refine Runs.pure d (fun p e s m args below meth c T locs L hw hx hown hZ hd hP hsz _ X => ?_) h
  obtain ⟨L', e1, e2, e3⟩ := hP.store1 (i := j) (v := .int (x + Int32.ofInt cst)) (by omega) rfl
  exact ⟨L', e3, e2.trans hsz, fun t r => XS.iinc (g := mkF m pc L S) X.here hx rfl hd (hP.1 _ _ hl) e1 r⟩
/-- less is known of the locals -/
def psub : Pat → Pat → Prop
  | [], _ => True
  | none :: l, _ :: l' => psub l l'
  | some s :: l, y :: l' => y = some s ∧ psub l l'
  | none :: l, [] => psub l []
  | some _ :: _, [] => False
theorem psub_get : ∀ (P P' : Pat), psub P P' → ∀ i s, pget P i = some s → pget P' i = some s
  | [], _, _, i, s, h => by simp [pget] at h
  | none :: l, _ :: l', H, 0, s, h => by simp [pget] at h
  | none :: l, _ :: l', H, i + 1, s, h => psub_get l l' H i s h
  | some x :: l, y :: l', H, 0, s, h => by rw [show y = some x from H.1]; exact h
  | some x :: l, y :: l', H, i + 1, s, h => psub_get l l' H.2 i s h
  | none :: l, [], H, 0, s, h => by simp [pget] at h
  | none :: l, [], H, i + 1, s, h => by have := psub_get l [] H i s h; simp [pget] at this
  | some _ :: _, [], H, _, _, _ => H.elim
theorem Runs.weak (hP : psub P' P) (h : Runs C M k n pc P' S G Q) : Runs C M k n pc P S G Q := by
  intro hw p e s m args below meth c T locs L hx hby hml hret hnm hown hZ hf
  exact h hw p e s m args below meth c T locs L hx hby hml hret hnm hown hZ ⟨fun i s hi => hf.1 i s (psub_get _ _ hP i s hi), hf.2⟩
theorem Runs.swap {top : Nat} {x y : Nat × Nat × Rec} {H : List (Nat × Nat × Rec)} (h : Runs C M k n pc P S (top, y :: x :: H) Q) : Runs C M k n pc P S (top, x :: y :: H) Q := by
  intro hw p e s m args below meth c T locs L hx hby hml hret hnm hown hZ hf hsz X hR hF
  exact h hw p e s m args below meth c T locs L hx hby hml hret hnm hown hZ hf hsz X hR.swap hF
end Rules
/- the steps that touch the heap -/
section Made
variable {p : Program} {l : Launch} {e : Env} {R : Room} {s : State} {m : MethodId} {args : Array Value} {below : List Frame} {meth : Method} {c : Code} {T : State} {locs : List Loc} {cells slots : Nat} {Z : State} {a0 : Array Value}
theorem ext_push (h : Heap) (x : Cell) : Ext h (h.push x) := ⟨by simp, fun a c q => by rw [Array.getElem?_push_lt (Array.getElem?_eq_some_iff.mp q).1]; exact (Array.getElem?_eq_getElem _).symm.trans q⟩
/-- 'new', with the heap's size behind it -/
theorem new1 (X : Stand p l e R s m args below meth c T locs cells slots) (hx : p.tables.exec = Jvm.exec) (hZ : Z.Warmed39 s.vm) {own C : String} {index n : Nat} (hown : s.vm.findClass own = some m.cls) (w : (Jvm.Cond.classLink own index C).before a0 Z = true) (wi : (Jvm.Cond.instantiable C n).before a0 Z = true) (wz : (Jvm.Cond.initialized C).before a0 Z = true)
    {g : JFrame} (hg : g.method = m) (hd : decode c.code g.pc = .ok (.new index, 3)) (hc : cells + 1 ≤ R.cells) (hl : slots + n ≤ R.slots) :
    ∃ T', Stand p l e R s m args below meth c T' locs (cells + 1) (slots + n) ∧ T'.heap.size = T.heap.size + 1 ∧ Ext T.heap T'.heap ∧ Exa Z T'.heap T.heap.size C ∧ (∀ {O nm d : String} {ty : FieldType}, Laid Z a0 C O nm d → parseFieldDescriptor d = some ty → Fld Z T'.heap T.heap.size O nm d (defaultValue ty)) ∧
      ∀ target, Steps p.tables e below (T'.setTop { g with pc := g.pc + 3, stack := .ref T.heap.size :: g.stack }) target → Steps p.tables e below (T.setTop g) target := by
  obtain ⟨vm', cC, kC, h1, h2, h3, h4, X', st⟩ := X.newCold hx hown (mv hZ w) (mv hZ wi) (mv hZ wz) hg hd hc hl
  rw [hZ.alike.findClass] at h1
  obtain ⟨kZ, z1, -⟩ := Vm.findClass_spec h1
  obtain ⟨k', z2, z3⟩ := hZ.alike.2.2 _ _ z1
  have ek : kC.instanceTypes = kZ.instanceTypes := by rw [Option.some.inj (h2.symm.trans z2), z3]
  obtain ⟨cell, hcell⟩ : ∃ cell : Cell, cell = { cls := cC, slots := kC.instanceTypes.map defaultValue, vm := .none } := ⟨_, rfl⟩
  rw [← hcell] at X' st
  have hp : ((T.setVm vm').pushCell cell).heap = T.heap.push cell := rfl
  have at' : (T.heap.push cell)[T.heap.size]? = some cell := by simp
  refine ⟨_, X', by rw [hp]; simp, by rw [hp]; exact ext_push _ _, ?_, fun {O nm d ty} L ht => ?_, st⟩
  · rw [hp]; exact ⟨cell, kZ, at', by rw [hcell]; exact h1, by rw [hcell]; exact z1, by rw [hcell]; rfl, fun _ => by rw [hcell]; simp [ek]⟩
  · rw [hp]
    obtain ⟨c1, k1, cf, kf, i, f, a1, a2, a3, a4, a5, a6, -⟩ := L.spec
    cases h1.symm.trans a1
    cases z1.symm.trans a2
    refine ⟨cell, cf, kf, i, f, at', a3, a4, by rw [hcell]; simp, by rw [hcell]; rfl, by rw [hcell]; exact a5, ?_⟩
    rw [hcell]; simp [ek, a6, (State.fieldFound?_type a3 ht).2]
theorem newArr1 (X : Stand p l e R s m args below meth c T locs cells slots) (hx : p.tables.exec = Jvm.exec) (hZ : Z.Warmed39 s.vm) {aty : ArrayType} (w : (Jvm.Cond.arrayClass (newarray.typeOf aty)).before a0 Z = true) {g : JFrame} (hg : g.method = m) (hd : decode c.code g.pc = .ok (.newarray aty, 2)) {n : Int32} {rest : List Value} (hs : g.stack = .int n :: rest)
    (hn : ¬ n < 0) (hb : n.toNatClampNeg * 8 ≤ 536870912) (hc : cells + 1 ≤ R.cells) (hl : slots + n.toNatClampNeg ≤ R.slots) :
    ∃ T' cA, Stand p l e R s m args below meth c T' locs (cells + 1) (slots + n.toNatClampNeg) ∧ T'.heap.size = T.heap.size + 1 ∧ Ext T.heap T'.heap ∧ Arr Z T'.heap T.heap.size (newA cA (newarray.typeOf aty) n) (newarray.typeOf aty) ∧
      ∀ target, Steps p.tables e below (T'.setTop { g with pc := g.pc + 2, stack := .ref T.heap.size :: rest }) target → Steps p.tables e below (T.setTop g) target := by
  have hcb : componentBytes (newarray.typeOf aty) ≤ 8 := by cases aty <;> decide
  obtain ⟨cA, kA, comp, h1, h2, h3, X', st⟩ := X.newarrayPrim hx (mvA hZ w) hg hd hs hn (Nat.le_trans (Nat.mul_le_mul_left _ hcb) hb) hc hl
  rw [hZ.alike.findClass] at h1
  obtain ⟨kZ, z1, -⟩ := Vm.findClass_spec h1
  obtain ⟨k', z2, z3⟩ := hZ.alike.2.2 _ _ z1
  have ek : kA.kind = kZ.kind := by rw [Option.some.inj (h2.symm.trans z2), z3]
  have hp : (T.pushCell (newA cA (newarray.typeOf aty) n)).heap = T.heap.push (newA cA (newarray.typeOf aty) n) := rfl
  refine ⟨T.pushCell (newA cA (newarray.typeOf aty) n), cA, X', by rw [hp]; simp, by rw [hp]; exact ext_push _ _, ?_, st⟩
  rw [hp]
  exact ⟨by simp, ⟨by simp [newA], kZ, z1, comp, by rw [← ek]; exact h3⟩, by simp [newA]⟩
end Made
section Heap
variable {C : Ctx} {M : Bdy} {k n pc q : Nat} {P P' : Pat} {S S' : List Value} {G : AH} {Q : Option Value → AH → Prop} {top : Nat} {a : Nat} {qq j idx : Nat} {ob : Rec} {H : List (Nat × Nat × Rec)} {nm ds : String}
theorem Runs.getI (d : DAt M pc (.getfield idx) 3 q) (w : Jvm.Cond.fieldLink M.1.cls idx K.1 nm ds ∈ tables_1) (hk : K.2.1[j]? = some (nm, ds)) (h : Runs C M k n q P (.int (gI ob j) :: S) (top, (a, qq, ob) :: H) Q) : Runs C M k n pc P (.ref a :: S) (top, (a, qq, ob) :: H) Q := by
  intro hw p e s m args below meth c T locs L hx hby hml hret hnm hown hZ hf hsz X hR hF
  have hq := d.2
  subst hq
  obtain ⟨T1, X1, e1, st1⟩ := getF X hx hZ hown (host := "") (Or.inl (hw _ w)) Via.refl rfl (hR.objs.2.2.2.1 j _ hk) (g := mkF m pc L (.ref a :: S)) rfl rfl (hb hby d.1)
  obtain ⟨T', locs', k', n', r, G', g1, g2, g3, g4, g5, g6, g7, g8⟩ := h hw p e s m args below meth c T1 locs L hx hby hml hret hnm hown hZ hf hsz X1 (by rw [e1]; exact hR) hF
  exact ⟨T', locs', k', n', r, G', g1, g2, g3, g4, g5, g6, g7, fun fs hr => st1 _ (g8 fs hr)⟩
theorem Runs.getA {ty : FieldType} {len : Int32} (d : DAt M pc (.getfield idx) 3 q) (hk : K.2.2[j]? = some (nm, ty, len)) (w : Jvm.Cond.fieldLink M.1.cls idx K.1 nm (aD ty) ∈ tables_1) (hq : j < qq) (h : Runs C M k n q P (.ref (a + 1 + j) :: S) (top, (a, qq, ob) :: H) Q) : Runs C M k n pc P (.ref a :: S) (top, (a, qq, ob) :: H) Q := by
  intro hw p e s m args below meth c T locs L hx hby hml hret hnm hown hZ hf hsz X hR hF
  have hqq := d.2
  subst hqq
  obtain ⟨T1, X1, e1, st1⟩ := getF X hx hZ hown (host := "") (Or.inl (hw _ w)) Via.refl rfl (hR.objs.2.2.2.2.1 j _ hk hq).1 (g := mkF m pc L (.ref a :: S)) rfl rfl (hb hby d.1)
  obtain ⟨T', locs', k', n', r, G', g1, g2, g3, g4, g5, g6, g7, g8⟩ := h hw p e s m args below meth c T1 locs L hx hby hml hret hnm hown hZ hf hsz X1 (by rw [e1]; exact hR) hF
  exact ⟨T', locs', k', n', r, G', g1, g2, g3, g4, g5, g6, g7, fun fs hr => st1 _ (g8 fs hr)⟩
theorem lw_of {Z : State} {a0 : Array Value} {meth : Method} (hw : ∀ d ∈ tables_1, d.before a0 Z = true) {C O n d own : String} (h : Jvm.Cond.lays C O n d ∈ tables_1 ∨ Jvm.Cond.laysFinal C O n d ∈ tables_1) (hc : Jvm.Cond.lays C O n d ∈ tables_1 ∨ (own = O ∧ meth.name = "<init>")) : (Jvm.Cond.lays C O n d).before a0 Z = true ∨ ((Jvm.Cond.laysFinal C O n d).before a0 Z = true ∧ own = O ∧ meth.name = "<init>") := by
  rcases hc with hc | hc
  · exact Or.inl (hw _ hc)
  · exact h.imp (hw _) (fun u => ⟨hw _ u, hc⟩)
/-- a field that may be written here: not final, or in a constructor of its class -/
def Mine (M : Bdy) (nm ds : String) : Prop := Jvm.Cond.lays K.1 K.1 nm ds ∈ tables_1 ∨ (M.1.cls = K.1 ∧ M.1.name = "<init>")
theorem Runs.putI {x : Int32} (d : DAt M pc (.putfield idx) 3 q) (w : Jvm.Cond.fieldLink M.1.cls idx K.1 nm "I" ∈ tables_1) (hk : K.2.1[j]? = some (nm, "I")) (hm : Mine M nm "I") (h : Runs C M k n q P S (top, (a, qq, sI ob j x) :: H) Q) : Runs C M k n pc P (.int x :: .ref a :: S) (top, (a, qq, ob) :: H) Q := by
  intro hw p e s m args below meth c T locs L hx hby hml hret hnm hown hZ hf hsz X hR hF
  have hqq := d.2
  subst hqq
  obtain ⟨T1, h1, X1, e1, W1, st1⟩ := putF X hx hZ hown (host := "") (Or.inl (hw _ w)) Via.refl rfl (hR.objs.2.2.2.1 j _ hk) hR.objs.2.2.1 (lw_of hw ((All.mem kS (List.mem_of_getElem? hk)).1) (hm.imp id (fun u => ⟨u.1, hnm.trans u.2⟩))) (hw _ kI) (ty := .int) (by decide) rfl rfl (g := mkF m pc L (.int x :: .ref a :: S)) rfl rfl (hb hby d.1)
  obtain ⟨T', locs', k', n', r, G', g1, g2, g3, g4, g5, g6, g7, g8⟩ := h hw p e s m args below meth c T1 _ L hx hby hml hret hnm hown hZ hf hsz X1 (by rw [e1]; exact hR.putI hw hk W1) (Fr.snoc X1 hF hR.objs.1)
  exact ⟨T', locs', k', n', r, G', g1, g2, g3, g4, g5, g6, g7, fun fs hr => st1 _ (g8 fs hr)⟩
theorem Runs.putZ {x y : Int32} (d : DAt M pc (.putfield idx) 3 q) (w : Jvm.Cond.fieldLink M.1.cls idx K.1 nm "Z" ∈ tables_1) (hk : K.2.1[j]? = some (nm, "Z")) (hm : Mine M nm "Z") (hy : nar .boolean x = y) (h : Runs C M k n q P S (top, (a, qq, sI ob j y) :: H) Q) : Runs C M k n pc P (.int x :: .ref a :: S) (top, (a, qq, ob) :: H) Q := by
  subst hy
  intro hw p e s m args below meth c T locs L hx hby hml hret hnm hown hZ hf hsz X hR hF
  have hqq := d.2
  subst hqq
  obtain ⟨T1, h1, X1, e1, W1, st1⟩ := putFN X hx hZ hown (hw _ w) Via.refl rfl (hR.objs.2.2.2.1 j _ hk) hR.objs.2.2.1 (lw_of hw ((All.mem kS (List.mem_of_getElem? hk)).1) (hm.imp id (fun u => ⟨u.1, hnm.trans u.2⟩))) (hw _ kI) (ty := .boolean) (v' := .int (nar .boolean x)) (by decide) rfl (fits_nar_bool _) (g := mkF m pc L (.int x :: .ref a :: S)) rfl rfl (hb hby d.1)
  obtain ⟨T', locs', k', n', r, G', g1, g2, g3, g4, g5, g6, g7, g8⟩ := h hw p e s m args below meth c T1 _ L hx hby hml hret hnm hown hZ hf hsz X1 (by rw [e1]; exact hR.putI hw hk W1) (Fr.snoc X1 hF hR.objs.1)
  exact ⟨T', locs', k', n', r, G', g1, g2, g3, g4, g5, g6, g7, fun fs hr => st1 _ (g8 fs hr)⟩
theorem Runs.ialoadA {i len : Int32} (d : DAt M pc .iaload 1 q) (hk : K.2.2[j]? = some (nm, .int, len)) (hq : j < qq) (hi : ¬ i < 0 ∧ i < len) (h : Runs C M k n q P (.int (gA ob j i) :: S) (top, (a, qq, ob) :: H) Q) : Runs C M k n pc P (.int i :: .ref (a + 1 + j) :: S) (top, (a, qq, ob) :: H) Q := by
  have hqq := d.2
  subst hqq
  refine Runs.pure d (fun p e s m args below meth c T locs L hw hx hown hZ hd hP hsz hR X => ⟨L, hP, hsz, fun t r => ?_⟩) h
  obtain ⟨cl, A, Sz, V⟩ := (hR.objs.2.2.2.2.1 j _ hk hq).2
  exact X.iaload hx (j := i) (v := .int (gA ob j i)) A.1 (State.isArrayOf_alike hZ.alike A.2.1) A.2.2 (inb_of Sz hi) (V i hi.1 hi.2) (g := mkF m pc L (.int i :: .ref (a + 1 + j) :: S)) rfl rfl hd _ r
theorem Runs.baloadA {i len : Int32} (d : DAt M pc .baload 1 q) (hk : K.2.2[j]? = some (nm, .boolean, len)) (hq : j < qq) (hi : ¬ i < 0 ∧ i < len) (h : Runs C M k n q P (.int (gA ob j i) :: S) (top, (a, qq, ob) :: H) Q) : Runs C M k n pc P (.int i :: .ref (a + 1 + j) :: S) (top, (a, qq, ob) :: H) Q := by
  have hqq := d.2
  subst hqq
  refine Runs.pure d (fun p e s m args below meth c T locs L hw hx hown hZ hd hP hsz hR X => ⟨L, hP, hsz, fun t r => ?_⟩) h
  obtain ⟨cl, A, Sz, V⟩ := (hR.objs.2.2.2.2.1 j _ hk hq).2
  exact X.baloadBooleans hx (j := i) (v := .int (gA ob j i)) A.1 (State.isArrayOf_alike hZ.alike A.2.1) A.2.2 (inb_of Sz hi) (V i hi.1 hi.2) (g := mkF m pc L (.int i :: .ref (a + 1 + j) :: S)) rfl rfl hd _ r
theorem Runs.laloadA {i len : Int32} (d : DAt M pc .laload 1 q) (hk : K.2.2[j]? = some (nm, .long, len)) (hq : j < qq) (hi : ¬ i < 0 ∧ i < len) (h : Runs C M k n q P (.long (gJ ob j i) :: S) (top, (a, qq, ob) :: H) Q) : Runs C M k n pc P (.int i :: .ref (a + 1 + j) :: S) (top, (a, qq, ob) :: H) Q := by
  have hqq := d.2
  subst hqq
  refine Runs.pure d (fun p e s m args below meth c T locs L hw hx hown hZ hd hP hsz hR X => ⟨L, hP, hsz, fun t r => ?_⟩) h
  obtain ⟨cl, A, Sz, V⟩ := (hR.objs.2.2.2.2.1 j _ hk hq).2
  exact X.laload hx (j := i) (v := .long (gJ ob j i)) A.1 (State.isArrayOf_alike hZ.alike A.2.1) A.2.2 (inb_of Sz hi) (V i hi.1 hi.2) (g := mkF m pc L (.int i :: .ref (a + 1 + j) :: S)) rfl rfl hd _ r
theorem Runs.iastoreA {i x len : Int32} (d : DAt M pc .iastore 1 q) (hk : K.2.2[j]? = some (nm, .int, len)) (hq : j < qq) (hi : ¬ i < 0 ∧ i < len) (h : Runs C M k n q P S (top, (a, qq, sA ob j i x) :: H) Q) : Runs C M k n pc P (.int x :: .int i :: .ref (a + 1 + j) :: S) (top, (a, qq, ob) :: H) Q := by
  intro hw p e s m args below meth c T locs L hx hby hml hret hnm hown hZ hf hsz X hR hF
  have hqq := d.2
  subst hqq
  obtain ⟨cl, A, Sz, V⟩ := (hR.objs.2.2.2.2.1 j _ hk hq).2
  obtain ⟨T1, h1, X1, e1, W1, st1⟩ := stI X hx hZ rfl A (j := i) (x := x) (inb_of Sz hi) (g := mkF m pc L (.int x :: .int i :: .ref (a + 1 + j) :: S)) rfl rfl (hb hby d.1)
  obtain ⟨T', locs', k', n', r, G', g1, g2, g3, g4, g5, g6, g7, g8⟩ := h hw p e s m args below meth c T1 _ L hx hby hml hret hnm hown hZ hf hsz X1 (by rw [e1]; exact hR.putA hk hq (by simp) hi W1) (Fr.snoc X1 hF (by have := hR.objs.1; omega))
  exact ⟨T', locs', k', n', r, G', g1, g2, g3, g4, g5, g6, g7, fun fs hr => st1 _ (g8 fs hr)⟩
theorem Runs.bastoreA {i x len : Int32} (d : DAt M pc .bastore 1 q) (hk : K.2.2[j]? = some (nm, .boolean, len)) (hq : j < qq) (hi : ¬ i < 0 ∧ i < len) {y : Int32} (hy : nar .boolean x = y) (h : Runs C M k n q P S (top, (a, qq, sA ob j i y) :: H) Q) : Runs C M k n pc P (.int x :: .int i :: .ref (a + 1 + j) :: S) (top, (a, qq, ob) :: H) Q := by
  subst hy
  intro hw p e s m args below meth c T locs L hx hby hml hret hnm hown hZ hf hsz X hR hF
  have hqq := d.2
  subst hqq
  obtain ⟨cl, A, Sz, V⟩ := (hR.objs.2.2.2.2.1 j _ hk hq).2
  obtain ⟨T1, h1, X1, e1, W1, st1⟩ := stZ X hx hZ rfl A (j := i) (x := x) (inb_of Sz hi) (g := mkF m pc L (.int x :: .int i :: .ref (a + 1 + j) :: S)) rfl rfl (hb hby d.1)
  obtain ⟨T', locs', k', n', r, G', g1, g2, g3, g4, g5, g6, g7, g8⟩ := h hw p e s m args below meth c T1 _ L hx hby hml hret hnm hown hZ hf hsz X1 (by rw [e1]; exact hR.putA hk hq (by simp) hi W1) (Fr.snoc X1 hF (by have := hR.objs.1; omega))
  exact ⟨T', locs', k', n', r, G', g1, g2, g3, g4, g5, g6, g7, fun fs hr => st1 _ (g8 fs hr)⟩
theorem Runs.lastoreA {i len : Int32} {x : Int64} (d : DAt M pc .lastore 1 q) (hk : K.2.2[j]? = some (nm, .long, len)) (hq : j < qq) (hi : ¬ i < 0 ∧ i < len) (h : Runs C M k n q P S (top, (a, qq, sJ ob j i x) :: H) Q) : Runs C M k n pc P (.long x :: .int i :: .ref (a + 1 + j) :: S) (top, (a, qq, ob) :: H) Q := by
  intro hw p e s m args below meth c T locs L hx hby hml hret hnm hown hZ hf hsz X hR hF
  have hqq := d.2
  subst hqq
  obtain ⟨cl, A, Sz, V⟩ := (hR.objs.2.2.2.2.1 j _ hk hq).2
  obtain ⟨T1, h1, X1, e1, W1, st1⟩ := stJ X hx hZ rfl A (j := i) (x := x) (inb_of Sz hi) (g := mkF m pc L (.long x :: .int i :: .ref (a + 1 + j) :: S)) rfl rfl (hb hby d.1)
  obtain ⟨T', locs', k', n', r, G', g1, g2, g3, g4, g5, g6, g7, g8⟩ := h hw p e s m args below meth c T1 _ L hx hby hml hret hnm hown hZ hf hsz X1 (by rw [e1]; exact hR.putJ hk hq rfl hi W1) (Fr.snoc X1 hF (by have := hR.objs.1; omega))
  exact ⟨T', locs', k', n', r, G', g1, g2, g3, g4, g5, g6, g7, fun fs hr => st1 _ (g8 fs hr)⟩
/-- the script: an array that stood before the law began -/
def ScrF (C : Ctx) (sa : Nat) (z : Int32) (f : Int32 → Int32) : Prop := ∃ cl : Cell, Scr C.2.1 C.2.1.heap sa cl z ∧ f = atv cl
theorem Runs.lenS {sa : Nat} {z : Int32} {f : Int32 → Int32} (hs : ScrF C sa z f) (d : DAt M pc .arraylength 1 q) (h : Runs C M k n q P (.int z :: S) G Q) : Runs C M k n pc P (.ref sa :: S) G Q := by
  have hqq := d.2
  subst hqq
  refine Runs.pure d (fun p e s m args below meth c T locs L hw hx hown hZ hd hP hsz hR X => ⟨L, hP, hsz, fun t r => ?_⟩) h
  obtain ⟨cl, F, -⟩ := hs
  obtain ⟨A, Sz, N, V⟩ := F.ext hR.2.1.2
  exact X.arraylength hx A.1 (State.isArrayOf_alike hZ.alike A.2.1) (g := mkF m pc L (.ref sa :: S)) rfl rfl hd _ (by rw [len_of Sz N]; exact r)
theorem Runs.ialoadS {sa : Nat} {z i : Int32} {f : Int32 → Int32} (hs : ScrF C sa z f) (d : DAt M pc .iaload 1 q) (hi : ¬ i < 0 ∧ i < z) (h : Runs C M k n q P (.int (f i) :: S) G Q) : Runs C M k n pc P (.int i :: .ref sa :: S) G Q := by
  have hqq := d.2
  subst hqq
  refine Runs.pure d (fun p e s m args below meth c T locs L hw hx hown hZ hd hP hsz hR X => ⟨L, hP, hsz, fun t r => ?_⟩) h
  obtain ⟨cl, F, rfl⟩ := hs
  obtain ⟨A, Sz, N, V⟩ := F.ext hR.2.1.2
  exact X.iaload hx (j := i) (v := .int (atv cl i)) A.1 (State.isArrayOf_alike hZ.alike A.2.1) A.2.2 (inb_of Sz hi) (V i (inb_of Sz hi)) (g := mkF m pc L (.int i :: .ref sa :: S)) rfl rfl hd _ r
/- leaving -/
theorem Runs.retI {v : Int32} (d : DAt M pc .ireturn 1 q) (hret : M.2.2.2.1 = some .int) (hk : k ≤ M.2.2.2.2.cells ∧ n ≤ M.2.2.2.2.slots) (hQ : Q (some (.int v)) G) : Runs C M k n pc P (.int v :: S) G Q := by
  intro hw p e s m args below meth c T locs L hx hby hml hr0 hnm hown hZ hf hsz X hR hF
  exact ⟨T, locs, k, n, _, G, X, hk.1, hk.2, hR, hF, hQ, (fun u => by rw [hret] at u; cases u), fun fs hr => Jvm.RoadKit.retI X hx (hr0.trans hret) (hb hby d.1) hr⟩
theorem Runs.retZ {v : Int32} (d : DAt M pc .ireturn 1 q) (hret : M.2.2.2.1 = some .boolean) (hk : k ≤ M.2.2.2.2.cells ∧ n ≤ M.2.2.2.2.slots) {y : Int32} (hy : nar .boolean v = y) (hQ : Q (some (.int y)) G) : Runs C M k n pc P (.int v :: S) G Q := by
  subst hy
  intro hw p e s m args below meth c T locs L hx hby hml hr0 hnm hown hZ hf hsz X hR hF
  exact ⟨T, locs, k, n, _, G, X, hk.1, hk.2, hR, hF, hQ, (fun u => by rw [hret] at u; cases u), fun fs hr => retN X hx (t := .boolean) (hr0.trans hret) (by simp) (hb hby d.1) hr⟩
theorem Runs.retJ {v : Int64} (d : DAt M pc .lreturn 1 q) (hret : M.2.2.2.1 = some .long) (hk : k ≤ M.2.2.2.2.cells ∧ n ≤ M.2.2.2.2.slots) (hQ : Q (some (.long v)) G) : Runs C M k n pc P (.long v :: []) G Q := by
  intro hw p e s m args below meth c T locs L hx hby hml hr0 hnm hown hZ hf hsz X hR hF
  exact ⟨T, locs, k, n, _, G, X, hk.1, hk.2, hR, hF, hQ, (fun u => by rw [hret] at u; cases u), fun fs hr => X.lreturnOut hx (hr0.trans hret) (hb hby d.1) hr⟩
theorem Runs.retV (d : DAt M pc .return_ 1 q) (hret : M.2.2.2.1 = none) (hk : k ≤ M.2.2.2.2.cells ∧ n ≤ M.2.2.2.2.slots) (hQ : Q none G) : Runs C M k n pc P [] G Q := by
  intro hw p e s m args below meth c T locs L hx hby hml hr0 hnm hown hZ hf hsz X hR hF
  exact ⟨T, locs, k, n, _, G, X, hk.1, hk.2, hR, hF, hQ, (fun _ => rfl), fun fs hr => X.returnOut hx (hr0.trans hret) (hb hby d.1) hr⟩
/- a new object, and the arrays that its constructor makes -/
theorem Runs.newK (d : DAt M pc (.new idx) 3 q) (w : Jvm.Cond.classLink M.1.cls idx K.1 ∈ tables_1) (hc : k + 1 ≤ M.2.2.2.2.cells ∧ n + kN ≤ M.2.2.2.2.slots) {k' n' : Nat} (hk' : k + 1 = k') (hn' : n + kN = n') {H : List (Nat × Nat × Rec)} (hd : ∀ x ∈ H, x.1 + x.2.1 < top) (h : Runs C M k' n' q P (.ref top :: S) (top + 1, (top, 0, zrec) :: H) Q) : Runs C M k n pc P S (top, H) Q := by
  subst hk' hn'
  intro hw p e s m args below meth c T locs L hx hby hml hr0 hnm hown hZ hf hsz X hR hF
  have hqq := d.2
  subst hqq
  obtain ⟨T2, X2, s2, E2, A2, D2, st2⟩ := new1 X hx hZ hown (hw _ w) (hw _ kI) (hw _ kZ) (g := mkF m pc L S) rfl (hb hby d.1) hc.1 hc.2
  have hs : T.heap.size = top := hR.1
  rw [hs] at A2 D2 st2 s2
  have hR2 : Rep C.2.1 C.2.2.1 T2.heap (top + 1, (top, 0, zrec) :: H) := by
    refine ⟨s2, hR.2.1.ext E2, fun x hx' => ?_, ?_⟩
    · rcases List.mem_cons.mp hx' with rfl | hx'
      · refine ⟨?_, by simp, A2, fun k nd hk => ?_, fun k t hk hq => by simp at hq, fun k t hk hq => ?_⟩
        · have := hR.2.1.2.1; rw [hR.2.1.1] at this; simp only; omega
        · rcases (All.mem kS (List.mem_of_getElem? hk)).2 with e | e
          · have := D2 (laidS hw hk) (ty := .int) (by rw [e]; decide); exact this
          · have := D2 (laidS hw hk) (ty := .boolean) (by rw [e]; decide); exact this
        · have := D2 (laidA hw hk) (pfA hk); exact this
      · obtain ⟨p1, p2, p3⟩ := hR.2.2.1 x hx'
        exact ⟨p1, by simp only at p2 ⊢; omega, p3.ext E2⟩
    · exact List.pairwise_cons.mpr ⟨fun y hy => Or.inr (hd y hy), hR.2.2.2⟩
  obtain ⟨T', locs', k', n', r, G', g1, g2, g3, g4, g5, g6, g7, g8⟩ := h hw p e s m args below meth c T2 _ L hx hby hml hr0 hnm hown hZ hf hsz X2 hR2 hF
  exact ⟨T', locs', k', n', r, G', g1, g2, g3, g4, g5, g6, g7, fun fs hr => st2 _ (g8 fs hr)⟩
/-- newarray and the putfield behind it: the next array of an object that is being made -/
theorem Runs.newArr {aty : ArrayType} {ty : FieldType} {len : Int32} {q1 : Nat} (d : DAt M pc (.newarray aty) 2 q1) (d' : DAt M q1 (.putfield idx) 3 q) (hk : K.2.2[j]? = some (nm, ty, len)) (w : Jvm.Cond.fieldLink M.1.cls idx K.1 nm (aD ty) ∈ tables_1) (ht : newarray.typeOf aty = ty) (wa : Jvm.Cond.arrayClass ty ∈ tables_1) (hm : Mine M nm (aD ty))
    (htop : top = a + 1 + j) (hlen : ¬ len < 0 ∧ len.toNatClampNeg * 8 ≤ 536870912) (hc : k + 1 ≤ M.2.2.2.2.cells ∧ n + len.toNatClampNeg ≤ M.2.2.2.2.slots) (hz : (∀ i, ob.2.1 j i = 0) ∧ (∀ i, ob.2.2 j i = 0)) {j' top' k' n' : Nat} (hj' : j + 1 = j') (ht' : top + 1 = top') (hk' : k + 1 = k') (hn' : n + len.toNatClampNeg = n')
    (h : Runs C M k' n' q P S (top', (a, j', ob) :: H) Q) : Runs C M k n pc P (.int len :: .ref a :: S) (top, (a, j, ob) :: H) Q := by
  subst hj' ht' hk' hn'
  intro hw p e s m args below meth c T locs L hx hby hml hr0 hnm hown hZ hf hsz X hR hF
  have hqq := d.2
  have hqq' := d'.2
  subst hqq hqq' ht
  obtain ⟨T1, cA, X1, s1, E1, A1, st1⟩ := newArr1 X hx hZ (hw _ wa) (g := mkF m pc L (.int len :: .ref a :: S)) rfl (hb hby d.1) rfl hlen.1 hlen.2 hc.1 hc.2
  have hs : T.heap.size = top := hR.1
  rw [hs] at A1 st1 s1
  have O1 := hR.objs.2.2.ext E1
  obtain ⟨T2, h2, X2, e2, W2, st2⟩ := putF X1 hx hZ hown (host := "") (Or.inl (hw _ w)) Via.refl rfl (O1.2.2.2 j _ hk (Nat.le_refl _)) O1.1 (lw_of hw ((All.mem kA (List.mem_of_getElem? hk)).1) (hm.imp id (fun u => ⟨u.1, hnm.trans u.2⟩))) (hw _ kI) (ty := .array (newarray.typeOf aty)) (pfA hk) rfl rfl (g := mkF m (pc + 2) L (.ref top :: .ref a :: S)) rfl rfl (hb hby d'.1)
  have hts : (newarray.typeOf aty = .int ∨ newarray.typeOf aty = .boolean ∨ newarray.typeOf aty = .long) := (All.mem kA (List.mem_of_getElem? hk)).2.1
  have hA := arr_new A1 hts hz
  have hR2 : Rep C.2.1 C.2.2.1 T2.heap (top + 1, (a, j + 1, ob) :: H) := by rw [e2]; exact hR.addA hw E1 s1 htop hk hA W2
  obtain ⟨T', locs', k', n', r, G', g1, g2, g3, g4, g5, g6, g7, g8⟩ := h hw p e s m args below meth c T2 _ L hx hby hml hr0 hnm hown hZ hf hsz X2 hR2 (Fr.snoc X2 hF hR.objs.1)
  exact ⟨T', locs', k', n', r, G', g1, g2, g3, g4, g5, g6, g7, fun fs hr => st1 _ (st2 _ (g8 fs hr))⟩
theorem Runs.initO {W : Nat} (d : DAt M pc (.invokespecial idx) 3 q) (w1 : Jvm.Cond.methodLink M.1.cls idx Lib.objectInit ∈ tables_1) (w2 : Jvm.Cond.instanceMethod Lib.objectInit ∈ tables_1) (w3 : Jvm.Cond.code Lib.objectInit ⟨#[0xb1]⟩ 1 none ∈ tables_1) (hW : (S.map fun v => v.category).sum = W) (hc : 1 ≤ M.2.2.2.2.frames ∧ W + 12 ≤ M.2.2.2.2.locals) (h : Runs C M k n q P S G Q) : Runs C M k n pc P (.ref a :: S) G Q := by
  intro hw p e s m args below meth c T locs L hx hby hml hr0 hnm hown hZ hf hsz X hR hF
  have hqq := d.2
  subst hqq
  obtain ⟨T1, X1, e1, st1⟩ := Jvm.RoadKit.initO X hx hZ hown (hw _ w1) (hw _ w2) (hw _ w3) rfl (g := mkF m pc L (.ref a :: S)) rfl (by rw [hml]; exact hsz) rfl (hb hby d.1) hc.1 (W := W) (by show 2 * 0 + _ ≤ _; omega) hc.2
  obtain ⟨T', locs', k', n', r, G', g1, g2, g3, g4, g5, g6, g7, g8⟩ := h hw p e s m args below meth c T1 _ L hx hby hml hr0 hnm hown hZ hf hsz X1 (by rw [e1]; exact hR) hF
  exact ⟨T', locs', k', n', r, G', g1, g2, g3, g4, g5, g6, g7, fun fs hr => st1 _ (g8 fs hr)⟩
end Heap
/- a body's contract, and the calls that are paid by one -/
def Pays (C : Ctx) (N : Bdy) (as : List Value) (G : AH) (Q : Option Value → AH → Prop) : Prop :=
  Ok C → ∀ h0 : Heap, Rep C.2.1 C.2.2.1 h0 G → ∀ ws : List Jvm.Cond, MetFree C.1 N.1 (head1 (Jvm.Cond.code N.1 N.2.1 N.2.2.1 N.2.2.2.1 :: ws) N.2.2.2.2) (fun a U => a = as.toArray ∧ C.2.1.Warmed39 U.vm ∧ U.heap = h0) (fun _ _ _ _ _ => True)
    (fun _ U o U' => ∃ v L, o = .returned v ∧ (Fr C.2.2.1 L ∧ ∃ G', Rep C.2.1 C.2.2.1 U'.heap G' ∧ Q v G') ∧ FrameEnd U o U' L N.2.2.2.2.cells N.2.2.2.2.slots)
def lay : List Value → List Slot
  | [] => []
  | v :: l => if v.category = 2 then .val v :: .second :: lay l else .val v :: lay l
theorem lay_foldl (l : List Value) : ∀ acc : Array Slot, (l.foldl (fun acc v => if v.category = 2 then (acc.push (.val v)).push .second else acc.push (.val v)) acc).toList = acc.toList ++ lay l := by
  induction l with
  | nil => intro acc; simp [lay]
  | cons v l ih =>
    intro acc
    rw [List.foldl_cons, ih]
    by_cases h : v.category = 2 <;> simp [lay, h]
theorem args_lay (as : List Value) (ml : Nat) : argsToLocals as.toArray ml = (lay as ++ List.replicate (ml - (lay as).length) Slot.unset).toArray := by
  have h := lay_foldl as #[]
  apply Array.ext'
  simp only [argsToLocals, Array.toList_append, List.toList_toArray] at *
  rw [show (as.toArray.foldl (init := #[]) fun acc v => if v.category = 2 then (acc.push (Slot.val v)).push .second else acc.push (.val v)).toList = lay as by simpa using h]
  congr 1
  rw [← Array.length_toList, show (as.toArray.foldl (init := #[]) fun acc v => if v.category = 2 then (acc.push (Slot.val v)).push .second else acc.push (.val v)).toList = lay as by simpa using h]
  simp
def WFL (l : List Slot) : Prop := (∀ i : Nat, l[i]? = some .second → ∃ (j : Nat) (v : Value), i = j + 1 ∧ l[j]? = some (.val v) ∧ v.category = 2) ∧ (∀ (i : Nat) (v : Value), l[i]? = some (.val v) → v.category = 2 → l[i + 1]? = some .second)
theorem WFL.unset (n : Nat) : WFL (List.replicate n Slot.unset) := by
  refine ⟨fun i h => ?_, fun i v h => ?_⟩ <;> (rw [List.getElem?_replicate] at h; split at h <;> cases h)
theorem WFL.one {l : List Slot} {v : Value} (h : WFL l) (hv : v.category ≠ 2) : WFL (.val v :: l) := by
  refine ⟨fun i hi => ?_, fun i w hi hw => ?_⟩
  · cases i with
    | zero => simp at hi
    | succ i =>
      obtain ⟨j, w, e1, e2, e3⟩ := h.1 i (by simpa using hi)
      exact ⟨j + 1, w, by omega, by simpa using e2, e3⟩
  · cases i with
    | zero => simp at hi; subst hi; exact absurd hw hv
    | succ i => have := h.2 i w (by simpa using hi) hw; simpa using this
theorem WFL.two {l : List Slot} {v : Value} (h : WFL l) (hv : v.category = 2) : WFL (.val v :: .second :: l) := by
  refine ⟨fun i hi => ?_, fun i w hi hw => ?_⟩
  · match i, hi with
    | 0, hi => simp at hi
    | 1, hi => exact ⟨0, v, rfl, by simp, hv⟩
    | i + 2, hi =>
      obtain ⟨j, w, e1, e2, e3⟩ := h.1 i (by simpa using hi)
      exact ⟨j + 2, w, by omega, by simpa using e2, e3⟩
  · match i, hi with
    | 0, hi => simp
    | 1, hi => simp at hi
    | i + 2, hi => have := h.2 i w (by simpa using hi) hw; simpa using this
theorem WFL.lay (as : List Value) (n : Nat) : WFL (lay as ++ List.replicate n Slot.unset) := by
  induction as with
  | nil => exact WFL.unset n
  | cons v l ih =>
    by_cases h : v.category = 2
    · simpa [Jvm.Pilot.@@N@@.lay, h] using ih.two h
    · simpa [Jvm.Pilot.@@N@@.lay, h] using ih.one h
def pforget : List Bool → Pat → Pat
  | [], _ => []
  | _, [] => []
  | true :: ms, x :: l => x :: pforget ms l
  | false :: ms, _ :: l => none :: pforget ms l
theorem pforget_get : ∀ (ms : List Bool) (P : Pat) (i : Nat) (s : Slot), pget (pforget ms P) i = some s → pget P i = some s
  | [], _, i, s, h => by simp [pforget, pget] at h
  | _ :: _, [], i, s, h => by simp [pforget, pget] at h
  | true :: ms, x :: l, 0, s, h => h
  | true :: ms, x :: l, i + 1, s, h => pforget_get ms l i s h
  | false :: ms, x :: l, 0, s, h => by simp [pforget, pget] at h
  | false :: ms, x :: l, i + 1, s, h => pforget_get ms l i s h
section Calls
variable {C : Ctx} {M N : Bdy} {k n pc q : Nat} {P P' : Pat} {S S' : List Value} {G G1 : AH} {Q : Option Value → AH → Prop} {top : Nat} {a : Nat} {qq j idx W : Nat} {ob : Rec} {H : List (Nat × Nat × Rec)} {as : List Value}
theorem Runs.forget (ms : List Bool) (hP : pforget ms P = P') (h : Runs C M k n pc P' S G Q) : Runs C M k n pc P S G Q := by
  intro hw p e s m args below meth c T locs L hx hby hml hret hnm hown hZ hf
  subst hP
  exact h hw p e s m args below meth c T locs L hx hby hml hret hnm hown hZ ⟨fun i s hi => hf.1 i s (pforget_get _ _ i s hi), hf.2⟩
theorem Pays.of (hpl : plainName N.1.cls = true) (hml : (lay as).length ≤ N.2.2.1) (x : Nat) (hP : (lay as).map some ++ List.replicate x none = P) (h : Runs C N 0 0 0 P [] G Q) : Pays C N as G Q := by
  intro hw h0 hR ws
  refine MetFree.of_bodySF (plainFor_of_name hpl) hisR ?_
  intro p e s m args below meth c s₁ Bd hml0 hp hK
  obtain ⟨rfl, hZ, hh⟩ := hp
  have X0 : Stand p C.1 e N.2.2.2.2 s m as.toArray below meth c s₁ [] 0 0 := Stand.of_body Bd
  have e0 : s₁.heap = h0 := by rw [← hh, Bd.state]; rfl
  obtain ⟨L, hL⟩ : ∃ L : Array Slot, L = (lay as ++ List.replicate (N.2.2.1 - (lay as).length) Slot.unset).toArray := ⟨_, rfl⟩
  have hfit : Fits P L := by
    subst hP hL
    refine ⟨fun i s hi => ?_, ?_⟩
    · rw [pget_eq] at hi
      cases hq : (lay as)[i]? with
      | none =>
        rw [List.getElem?_append_right (by simpa using hq), List.getElem?_replicate] at hi
        split at hi <;> simp at hi
      | some y =>
        have hlt := (List.getElem?_eq_some_iff.mp hq).1
        rw [List.getElem?_append_left (by simpa using hlt), List.getElem?_map, hq] at hi
        have this : y = s := by simpa using hi
        simp only [List.getElem?_toArray]
        rw [List.getElem?_append_left hlt, hq, this]
    · have := WFL.lay as (N.2.2.1 - (lay as).length)
      refine ⟨fun i hi => ?_, fun i v hi hv => ?_⟩
      · rw [List.getElem?_toArray] at hi
        obtain ⟨j, v, e1, e2, e3⟩ := this.1 i hi
        exact ⟨j, v, e1, by rw [List.getElem?_toArray]; exact e2, e3⟩
      · rw [List.getElem?_toArray] at hi ⊢
        exact this.2 i v hi hv
  obtain ⟨T', locs', k', n', r, G', g1, g2, g3, g4, g5, g6, g7, g8⟩ := h hw p e s m as.toArray below meth c s₁ [] L Bd.exec Bd.bytes hml0 Bd.returns (name_of_methodNamed Bd.named Bd.method).1 (findClass_of_methodNamed Bd.named) hZ hfit (by rw [hL]; simp; omega) X0 (by rw [e0]; exact hR) (Fr.nil _)
  obtain ⟨fs, hr, hrun, hended, hW, hsame⟩ := g1.leave (v := r) (fun u => g7 (by rw [← Bd.returns]; exact u))
  refine ⟨_, _, ?_, hrun, hended, _, _, rfl, ⟨g5, G', ?_, g6⟩, ⟨_, rfl⟩, hW, hsame.mono g2 g3⟩
  · have ef : entryFrame m as.toArray N.2.2.1 = mkF m 0 L [] := by
      rw [hL, ← args_lay]; rfl
    rw [ef]; exact g8 fs hr
  · exact g4
abbrev room_al (M N : Bdy) (W k n : Nat) : Prop := N.2.2.2.2.frames + 1 ≤ M.2.2.2.2.frames ∧ W + (N.2.2.1 + 11) + N.2.2.2.2.locals ≤ M.2.2.2.2.locals ∧ k + N.2.2.2.2.cells ≤ M.2.2.2.2.cells ∧ n + N.2.2.2.2.slots ≤ M.2.2.2.2.slots
abbrev room_ok (M N : Bdy) (W : Nat) : Prop := N.2.2.2.2.frames + 1 ≤ M.2.2.2.2.frames ∧ W + (N.2.2.1 + 11) + N.2.2.2.2.locals ≤ M.2.2.2.2.locals ∧ N.2.2.2.2.cells = 0 ∧ N.2.2.2.2.slots = 0
abbrev full_ok (M : Bdy) (k n : Nat) : Prop := k ≤ M.2.2.2.2.cells ∧ n ≤ M.2.2.2.2.slots
theorem room_ok.al (h : room_ok M N W) (f : full_ok M k n) : room_al M N W k n := ⟨h.1, h.2.1, by rw [h.2.2.1]; exact f.1, by rw [h.2.2.2]; exact f.2⟩
abbrev code_w (N : Bdy) : Prop := Jvm.Cond.code N.1 N.2.1 N.2.2.1 N.2.2.2.1 ∈ tables_1 ∧ Jvm.Cond.initialized N.1.cls ∈ tables_1 ∧ (N.1.cls ≠ "java/lang/invoke/MethodHandle" ∧ N.1.cls ≠ "java/lang/invoke/VarHandle")
def arity (N : Bdy) (na : Nat) : Prop := ∃ ps r, parseMethodDescriptor N.1.desc = some ⟨ps, r⟩ ∧ na = ps.length
theorem arity.len {na : Nat} (h : arity N na) (e : as.length = na) : ∀ sig, parseMethodDescriptor N.1.desc = some sig → as.length = sig.parameters.length := by
  obtain ⟨ps, r, h1, h2⟩ := h
  exact lenOf h1 (e.trans h2)
theorem after_call {v : Option Value} {p : Program} {e : Env} {s : State} {m : MethodId} {args : Array Value} {below : List Frame} {meth : Method} {c : Code} {T T0 : State} {locs : List Loc} {L : Array Slot} {QN : Option Value → AH → Prop} {Lc : List Loc}
    (hw : Ok C) (hx : p.tables.exec = Jvm.exec) (hby : c.code = M.2.1) (hml : c.maxLocals = M.2.2.1) (hret : meth.sig.returnType = M.2.2.2.1) (hnm : meth.name = M.1.name) (hown : s.vm.findClass M.1.cls = some m.cls) (hZ : C.2.1.Warmed39 s.vm) (hf : Fits P L) (hsz : L.size = M.2.2.1) (hF : Fr C.2.2.1 locs)
    (X : Stand p C.1 e M.2.2.2.2 s m args below meth c T (locs ++ Lc) (k + N.2.2.2.2.cells) (n + N.2.2.2.2.slots)) (hQ : Fr C.2.2.1 Lc ∧ ∃ G', Rep C.2.1 C.2.2.1 T.heap G' ∧ QN v G')
    (h : ∀ v G', QN v G' → Runs C M (k + N.2.2.2.2.cells) (n + N.2.2.2.2.slots) (pc + 3) P (v.toList ++ S') G' Q)
    (st : ∀ t, Steps p.tables e below (T.setTop (mkF m (pc + 3) L (v.toList ++ S'))) t → Steps p.tables e below (T0.setTop (mkF m pc L S)) t) :
    ∃ (T' : State) (locs' : List Loc) (k' n' : Nat) (r : Option Value) (G' : AH), Stand p C.1 e M.2.2.2.2 s m args below meth c T' locs' k' n' ∧ k' ≤ M.2.2.2.2.cells ∧ n' ≤ M.2.2.2.2.slots ∧ Rep C.2.1 C.2.2.1 T'.heap G' ∧ Fr C.2.2.1 locs' ∧ Q r G' ∧
      (M.2.2.2.1 = none → r = none) ∧
      ∀ fs : List Frame, (∀ (f : JFrame) (acts : List Action), f.method = m → f.locked = none → f.entered = [] → (doReturn e (T'.setTop f) acts r).1 = T'.setFrames fs) → Steps p.tables e below (T0.setTop (mkF m pc L S)) (T'.setFrames fs) := by
  obtain ⟨f1, G', f2, f3⟩ := hQ
  obtain ⟨T', locs', k', n', r, G'', g1, g2, g3, g4, g5, g6, g7, g8⟩ := h v G' f3 hw p e s m args below meth c T _ L hx hby hml hret hnm hown hZ hf hsz X f2 (Fr.app hF f1)
  exact ⟨T', locs', k', n', r, G'', g1, g2, g3, g4, g5, g6, g7, fun fs hr => st _ (g8 fs hr)⟩
theorem Runs.callS {QN : Option Value → AH → Prop} (d : DAt M pc (.invokestatic idx) 3 q) (wl : Jvm.Cond.methodLink M.1.cls idx N.1 ∈ tables_1) (wt : Jvm.Cond.static N.1 ∈ tables_1) (wc : code_w N) (ar : arity N as.length) (hr0 : room_ok M N W) (hfull : full_ok M k n) (hS : S = as.reverse ++ S') (hW : (S'.map fun v => v.category).sum = W)
    (hN : Pays C N as G QN) (h : ∀ v G', QN v G' → Runs C M k n q P (v.toList ++ S') G' Q) : Runs C M k n pc P S G Q := by
  intro hw p e s m args below meth c T locs L hx hby hml hret hnm hown hZ hf hsz X hR hF
  have hq := d.2
  subst hq hS
  have hr := hr0.al hfull
  obtain ⟨_, _, ⟨T1, L1, k1, n1⟩, -, X1, ⟨Lc, hQ, l1, y1, z1⟩, st⟩ := Jvm.LawKit.callS X hx (y := N.1) hown (mvT hZ (hw _ wl)) (mvT hZ (hw _ wt)) (mvT hZ (hw _ wc.2.1)) (mvT hZ (hw _ wc.1)) wc.2.2 (backOf (W := W) (Q := fun v h L => Fr C.2.2.1 L ∧ ∃ G', Rep C.2.1 C.2.2.1 h G' ∧ QN v G') (hN hw T.heap hR []) hZ (hw _ wc.1) (hw _ wc.2.1) hr.1 hr.2.1) (g := mkF m pc L (as.reverse ++ S')) rfl (by rw [hml]; exact hsz) (argsL := as) (rest := S') (ar.len rfl) rfl (by show 2 * 0 + _ ≤ _; omega) (hb hby d.1) (fun _ _ => ⟨rfl, rfl, hr.2.2.1, hr.2.2.2⟩)
  dsimp only [Pt.U, Pt.locs, Pt.cells, Pt.slots] at X1 l1 y1 z1 st hQ
  subst l1 y1 z1
  exact after_call hw hx hby hml hret hnm hown hZ hf hsz hF X1 hQ (by rw [hr0.2.2.1, hr0.2.2.2]; exact h) (fun t u => st t u)
theorem Runs.callV {QN : Option Value → AH → Prop} (d : DAt M pc (.invokevirtual idx) 3 q) (wl : Jvm.Cond.methodLink M.1.cls idx N.1 ∈ tables_1) (wd : Jvm.Cond.declares N.1 ∈ tables_1) (wi : Jvm.Cond.instanceMethod N.1 ∈ tables_1) (ws : Jvm.Cond.selects K.1 N.1 N.1 ∈ tables_1) (wc : code_w N) (ar : arity N as.length) (hr0 : room_ok M N W) (hfull : full_ok M k n) (hS : S = as.reverse ++ .ref a :: S') (hW : (S'.map fun v => v.category).sum = W)
    (hN : Pays C N (.ref a :: as) (top, (a, qq, ob) :: H) QN) (h : ∀ v G', QN v G' → Runs C M k n q P (v.toList ++ S') G' Q) : Runs C M k n pc P S (top, (a, qq, ob) :: H) Q := by
  intro hw p e s m args below meth c T locs L hx hby hml hret hnm hown hZ hf hsz X hR hF
  have hq := d.2
  subst hq hS
  have hr := hr0.al hfull
  obtain ⟨cB, kB, u1, -, u3⟩ := isOf hZ rfl hR.objs.2.2.1
  obtain ⟨_, _, ⟨T1, L1, k1, n1⟩, -, X1, ⟨Lc, hQ, l1, y1, z1⟩, st⟩ := X.virtualBack hx (y := N.1) (z := N.1) hown (mvT hZ (hw _ wl)) (mvT hZ (hw _ wd)) (notFace_of_selects (args := #[]) (mvT hZ (hw _ ws))) (mvT hZ (hw _ ws)) (mvT hZ (hw _ wi)) wc.2.2 (backOf (W := W) (Q := fun v h L => Fr C.2.2.1 L ∧ ∃ G', Rep C.2.1 C.2.2.1 h G' ∧ QN v G') (hN hw T.heap hR []) hZ (hw _ wc.1) (hw _ wc.2.1) hr.1 hr.2.1) u1 u3 (g := mkF m pc L (as.reverse ++ .ref a :: S')) rfl (by rw [hml]; exact hsz) (Steps.refl _) (argsL := as) (rest := S') (ar.len rfl) rfl (by show 2 * 0 + _ ≤ _; omega) (hb hby d.1) (fun _ _ => ⟨rfl, rfl, hr.2.2.1, hr.2.2.2⟩)
  dsimp only [Pt.U, Pt.locs, Pt.cells, Pt.slots] at X1 l1 y1 z1 st hQ
  subst l1 y1 z1
  exact after_call hw hx hby hml hret hnm hown hZ hf hsz hF X1 hQ (by rw [hr0.2.2.1, hr0.2.2.2]; exact h) (fun t u => st.trans u)
theorem Runs.callP {QN : Option Value → AH → Prop} (d : DAt M pc (.invokevirtual idx) 3 q) (wl : Jvm.Cond.methodLink M.1.cls idx N.1 ∈ tables_1) (wi : Jvm.Cond.instanceMethod N.1 ∈ tables_1) (wp : Jvm.Cond.privateMethod N.1 ∈ tables_1) (wK : N.1.cls = K.1) (wc : code_w N) (ar : arity N as.length) (hr0 : room_ok M N W) (hfull : full_ok M k n) (hS : S = as.reverse ++ .ref a :: S') (hW : (S'.map fun v => v.category).sum = W)
    (hN : Pays C N (.ref a :: as) (top, (a, qq, ob) :: H) QN) (h : ∀ v G', QN v G' → Runs C M k n q P (v.toList ++ S') G' Q) : Runs C M k n pc P S (top, (a, qq, ob) :: H) Q := by
  intro hw p e s m args below meth c T locs L hx hby hml hret hnm hown hZ hf hsz X hR hF
  have hq := d.2
  subst hq hS
  have hr := hr0.al hfull
  obtain ⟨cl, u1, u2⟩ := hR.objs.2.2.1.cell
  have hpr : s.PrivateAt N.1 := Cond.privateMethod_at (mvP hZ (hw _ wp) (args := #[]))
  obtain ⟨c2, k2, i1, i2, i3, i4, -⟩ := Cond.instantiable_spec (mvT (args := args) hZ (hw _ kI))
  have hsel : (Jvm.Cond.selects N.1.cls N.1 N.1).before args s = true := Stand.selects_self_of_private (by rw [wK]; exact i1) i2 (by simp at i4; exact i4.1) hpr (mvT hZ (hw _ wi)) wc.2.2
  obtain ⟨_, _, ⟨T1, L1, k1, n1⟩, -, X1, ⟨Lc, hQ, l1, y1, z1⟩, st⟩ := X.privateBack hx (y := N.1) hown (mvT hZ (hw _ wl)) (mvT hZ (hw _ wi)) hsel hpr (mvT hZ (hw _ wc.1)) wc.2.2 (backOf (W := W) (Q := fun v h L => Fr C.2.2.1 L ∧ ∃ G', Rep C.2.1 C.2.2.1 h G' ∧ QN v G') (hN hw T.heap hR []) hZ (hw _ wc.1) (hw _ wc.2.1) hr.1 hr.2.1) (g := mkF m pc L (as.reverse ++ .ref a :: S')) rfl (by rw [hml]; exact hsz) (Steps.refl _) (a := a) u1 u2 (argsL := as) (rest := S') (ar.len rfl) rfl (by show 2 * 0 + _ ≤ _; omega) (hb hby d.1) (fun _ _ => ⟨rfl, rfl, hr.2.2.1, hr.2.2.2⟩)
  dsimp only [Pt.U, Pt.locs, Pt.cells, Pt.slots] at X1 l1 y1 z1 st hQ
  subst l1 y1 z1
  exact after_call hw hx hby hml hret hnm hown hZ hf hsz hF X1 hQ (by rw [hr0.2.2.1, hr0.2.2.2]; exact h) (fun t u => st.trans u)
theorem Runs.callI {QN : Option Value → AH → Prop} (d : DAt M pc (.invokespecial idx) 3 q) (hi : N.1.name = "<init>") (hn : N.2.2.2.1 = none) (wl : Jvm.Cond.methodLink M.1.cls idx N.1 ∈ tables_1) (wi : Jvm.Cond.instanceMethod N.1 ∈ tables_1) (wc : code_w N) (ar : arity N as.length) (hr : room_al M N W k n) (hS : S = as.reverse ++ .ref a :: S') (hW : (S'.map fun v => v.category).sum = W) {k' n' : Nat} (hk' : k + N.2.2.2.2.cells = k') (hn' : n + N.2.2.2.2.slots = n')
    (hN : Pays C N (.ref a :: as) G QN) (h : ∀ v G', QN v G' → Runs C M k' n' q P (v.toList ++ S') G' Q) : Runs C M k n pc P S G Q := by
  intro hw p e s m args below meth c T locs L hx hby hml hret hnm hown hZ hf hsz X hR hF
  have hq := d.2
  subst hq hS hk' hn'
  have wc1 := hw _ wc.1
  obtain ⟨_, _, ⟨T1, L1, k1, n1⟩, -, X1, ⟨Lc, hQ, l1, y1, z1⟩, st⟩ := X.specialBack hx (y := N.1) hi hown (mvT hZ (hw _ wl)) (mvT hZ (hw _ wi)) (bytes := N.2.1) (maxL := N.2.2.1) (by have := mvT (args := args) hZ wc1; rw [hn] at this; exact this) wc.2.2 (backOf (W := W) (Q := fun v h L => Fr C.2.2.1 L ∧ ∃ G', Rep C.2.1 C.2.2.1 h G' ∧ QN v G') (hN hw T.heap hR []) hZ wc1 (hw _ wc.2.1) hr.1 hr.2.1) (g := mkF m pc L (as.reverse ++ .ref a :: S')) rfl (by rw [hml]; exact hsz) (Steps.refl _) (a := a) (argsL := as) (rest := S') (ar.len rfl) rfl (by show 2 * 0 + _ ≤ _; omega) (hb hby d.1) (fun _ _ => ⟨rfl, rfl, hr.2.2.1, hr.2.2.2⟩)
  dsimp only [Pt.U, Pt.locs, Pt.cells, Pt.slots] at X1 l1 y1 z1 st hQ
  subst l1 y1 z1
  exact after_call hw hx hby hml hret hnm hown hZ hf hsz hF X1 hQ h (fun t u => st.trans u)
/-- the plain form of a contract: one answer, one heap -/
abbrev Ans (r : Option Value) (G1 : AH) : Option Value → AH → Prop := fun v G' => v = r ∧ G' = G1
theorem ans1 {x : Value} {k n : Nat} (h : Runs C M k n pc P (x :: S) G1 Q) : ∀ v G', Ans (some x) G1 v G' → Runs C M k n pc P (v.toList ++ S) G' Q := by
  rintro v G' ⟨rfl, rfl⟩; exact h
theorem ans0 {k n : Nat} (h : Runs C M k n pc P S G1 Q) : ∀ v G', Ans none G1 v G' → Runs C M k n pc P (v.toList ++ S) G' Q := by
  rintro v G' ⟨rfl, rfl⟩; exact h
end Calls
theorem pnK : plainName "SaturProver" = true := by first | (simp [plainName, overriddenIn]; done) | decide +kernel
theorem pnL : plainName "SaturProverL2" = true := by first | (simp [plainName, overriddenIn]; done) | decide +kernel
theorem w0 : (Jvm.Cond.classLink "SaturProverL2" (7 : Nat) "SaturProver") ∈ tables_1 := mem1 0 rfl
theorem w3 : (Jvm.Cond.methodLink "SaturProverL2" (9 : Nat) ({ cls := "SaturProver", name := "<init>", desc := "(I)V" } : Jvm.MethodName)) ∈ tables_1 := mem1 3 rfl
theorem w4 : (Jvm.Cond.instanceMethod ({ cls := "SaturProver", name := "<init>", desc := "(I)V" } : Jvm.MethodName)) ∈ tables_1 := mem1 4 rfl
theorem w6 : (Jvm.Cond.methodLink "SaturProver" (1 : Nat) ({ cls := "java/lang/Object", name := "<init>", desc := "()V" } : Jvm.MethodName)) ∈ tables_1 := mem1 6 rfl
theorem w7 : (Jvm.Cond.instanceMethod ({ cls := "java/lang/Object", name := "<init>", desc := "()V" } : Jvm.MethodName)) ∈ tables_1 := mem1 7 rfl
theorem w8 : (Jvm.Cond.code ({ cls := "java/lang/Object", name := "<init>", desc := "()V" } : Jvm.MethodName) object_method_1_code (1 : Nat) (Option.none : Option Jvm.ClassFile.FieldType)) ∈ tables_1 := mem1 8 rfl
theorem w9 : (Jvm.Cond.arrayClass Jvm.ClassFile.FieldType.int) ∈ tables_1 := mem1 9 rfl
theorem w10 : (Jvm.Cond.fieldLink "SaturProver" (7 : Nat) "SaturProver" "toks" "[I") ∈ tables_1 := mem1 10 rfl
theorem w12 : (Jvm.Cond.fieldLink "SaturProver" (13 : Nat) "SaturProver" "saved" "[I") ∈ tables_1 := mem1 12 rfl
theorem w14 : (Jvm.Cond.arrayClass Jvm.ClassFile.FieldType.long) ∈ tables_1 := mem1 14 rfl
theorem w15 : (Jvm.Cond.fieldLink "SaturProver" (16 : Nat) "SaturProver" "stk" "[J") ∈ tables_1 := mem1 15 rfl
theorem w17 : (Jvm.Cond.fieldLink "SaturProver" (20 : Nat) "SaturProver" "tabF" "[J") ∈ tables_1 := mem1 17 rfl
theorem w19 : (Jvm.Cond.fieldLink "SaturProver" (23 : Nat) "SaturProver" "tabS" "[J") ∈ tables_1 := mem1 19 rfl
theorem w21 : (Jvm.Cond.fieldLink "SaturProver" (26 : Nat) "SaturProver" "work" "[J") ∈ tables_1 := mem1 21 rfl
theorem w23 : (Jvm.Cond.fieldLink "SaturProver" (29 : Nat) "SaturProver" "cap" "I") ∈ tables_1 := mem1 23 rfl
theorem w24 : (Jvm.Cond.lays "SaturProver" "SaturProver" "cap" "I") ∈ tables_1 := mem1 24 rfl
theorem w25 : (Jvm.Cond.fieldLink "SaturProver" (33 : Nat) "SaturProver" "n" "I") ∈ tables_1 := mem1 25 rfl
theorem w26 : (Jvm.Cond.lays "SaturProver" "SaturProver" "n" "I") ∈ tables_1 := mem1 26 rfl
theorem w27 : (Jvm.Cond.fieldLink "SaturProver" (36 : Nat) "SaturProver" "dep" "I") ∈ tables_1 := mem1 27 rfl
theorem w28 : (Jvm.Cond.lays "SaturProver" "SaturProver" "dep" "I") ∈ tables_1 := mem1 28 rfl
theorem w29 : (Jvm.Cond.fieldLink "SaturProver" (39 : Nat) "SaturProver" "sn" "I") ∈ tables_1 := mem1 29 rfl
theorem w30 : (Jvm.Cond.lays "SaturProver" "SaturProver" "sn" "I") ∈ tables_1 := mem1 30 rfl
theorem w31 : (Jvm.Cond.fieldLink "SaturProver" (42 : Nat) "SaturProver" "hasSaved" "Z") ∈ tables_1 := mem1 31 rfl
theorem w32 : (Jvm.Cond.lays "SaturProver" "SaturProver" "hasSaved" "Z") ∈ tables_1 := mem1 32 rfl
theorem w33 : (Jvm.Cond.fieldLink "SaturProver" (46 : Nat) "SaturProver" "fValid" "Z") ∈ tables_1 := mem1 33 rfl
theorem w34 : (Jvm.Cond.lays "SaturProver" "SaturProver" "fValid" "Z") ∈ tables_1 := mem1 34 rfl
theorem w35 : (Jvm.Cond.methodLink "SaturProver" (49 : Nat) ({ cls := "SaturProver", name := "resetResult", desc := "()V" } : Jvm.MethodName)) ∈ tables_1 := mem1 35 rfl
theorem w36 : (Jvm.Cond.instanceMethod ({ cls := "SaturProver", name := "resetResult", desc := "()V" } : Jvm.MethodName)) ∈ tables_1 := mem1 36 rfl
theorem w37 : (Jvm.Cond.privateMethod ({ cls := "SaturProver", name := "resetResult", desc := "()V" } : Jvm.MethodName)) ∈ tables_1 := mem1 37 rfl
theorem w39 : (Jvm.Cond.fieldLink "SaturProver" (89 : Nat) "SaturProver" "res" "I") ∈ tables_1 := mem1 39 rfl
theorem w40 : (Jvm.Cond.lays "SaturProver" "SaturProver" "res" "I") ∈ tables_1 := mem1 40 rfl
theorem w41 : (Jvm.Cond.fieldLink "SaturProver" (92 : Nat) "SaturProver" "wit" "I") ∈ tables_1 := mem1 41 rfl
theorem w42 : (Jvm.Cond.lays "SaturProver" "SaturProver" "wit" "I") ∈ tables_1 := mem1 42 rfl
theorem w43 : (Jvm.Cond.methodLink "SaturProverL2" (12 : Nat) ({ cls := "SaturProver", name := "pushToken", desc := "(I)I" } : Jvm.MethodName)) ∈ tables_1 := mem1 43 rfl
theorem w44 : (Jvm.Cond.declares ({ cls := "SaturProver", name := "pushToken", desc := "(I)I" } : Jvm.MethodName)) ∈ tables_1 := mem1 44 rfl
theorem w45 : (Jvm.Cond.instanceMethod ({ cls := "SaturProver", name := "pushToken", desc := "(I)I" } : Jvm.MethodName)) ∈ tables_1 := mem1 45 rfl
theorem w46 : (Jvm.Cond.selects "SaturProver" ({ cls := "SaturProver", name := "pushToken", desc := "(I)I" } : Jvm.MethodName) ({ cls := "SaturProver", name := "pushToken", desc := "(I)I" } : Jvm.MethodName)) ∈ tables_1 := mem1 46 rfl
theorem w48 : (Jvm.Cond.methodLink "SaturProver" (52 : Nat) ({ cls := "SaturProver", name := "arity", desc := "(I)I" } : Jvm.MethodName)) ∈ tables_1 := mem1 48 rfl
theorem w49 : (Jvm.Cond.instanceMethod ({ cls := "SaturProver", name := "arity", desc := "(I)I" } : Jvm.MethodName)) ∈ tables_1 := mem1 49 rfl
theorem w50 : (Jvm.Cond.privateMethod ({ cls := "SaturProver", name := "arity", desc := "(I)I" } : Jvm.MethodName)) ∈ tables_1 := mem1 50 rfl
theorem w52 : (Jvm.Cond.methodLink "SaturProverL2" (16 : Nat) ({ cls := "SaturProver", name := "length", desc := "()I" } : Jvm.MethodName)) ∈ tables_1 := mem1 52 rfl
theorem w53 : (Jvm.Cond.declares ({ cls := "SaturProver", name := "length", desc := "()I" } : Jvm.MethodName)) ∈ tables_1 := mem1 53 rfl
theorem w54 : (Jvm.Cond.instanceMethod ({ cls := "SaturProver", name := "length", desc := "()I" } : Jvm.MethodName)) ∈ tables_1 := mem1 54 rfl
theorem w55 : (Jvm.Cond.selects "SaturProver" ({ cls := "SaturProver", name := "length", desc := "()I" } : Jvm.MethodName) ({ cls := "SaturProver", name := "length", desc := "()I" } : Jvm.MethodName)) ∈ tables_1 := mem1 55 rfl
theorem w57 : (Jvm.Cond.methodLink "SaturProverL2" (20 : Nat) ({ cls := "SaturProver", name := "depth", desc := "()I" } : Jvm.MethodName)) ∈ tables_1 := mem1 57 rfl
theorem w58 : (Jvm.Cond.declares ({ cls := "SaturProver", name := "depth", desc := "()I" } : Jvm.MethodName)) ∈ tables_1 := mem1 58 rfl
theorem w59 : (Jvm.Cond.instanceMethod ({ cls := "SaturProver", name := "depth", desc := "()I" } : Jvm.MethodName)) ∈ tables_1 := mem1 59 rfl
theorem w60 : (Jvm.Cond.selects "SaturProver" ({ cls := "SaturProver", name := "depth", desc := "()I" } : Jvm.MethodName) ({ cls := "SaturProver", name := "depth", desc := "()I" } : Jvm.MethodName)) ∈ tables_1 := mem1 60 rfl
theorem w62 : (Jvm.Cond.methodLink "SaturProverL2" (23 : Nat) ({ cls := "SaturProver", name := "tokenAt", desc := "(I)I" } : Jvm.MethodName)) ∈ tables_1 := mem1 62 rfl
theorem w63 : (Jvm.Cond.declares ({ cls := "SaturProver", name := "tokenAt", desc := "(I)I" } : Jvm.MethodName)) ∈ tables_1 := mem1 63 rfl
theorem w64 : (Jvm.Cond.instanceMethod ({ cls := "SaturProver", name := "tokenAt", desc := "(I)I" } : Jvm.MethodName)) ∈ tables_1 := mem1 64 rfl
theorem w65 : (Jvm.Cond.selects "SaturProver" ({ cls := "SaturProver", name := "tokenAt", desc := "(I)I" } : Jvm.MethodName) ({ cls := "SaturProver", name := "tokenAt", desc := "(I)I" } : Jvm.MethodName)) ∈ tables_1 := mem1 65 rfl
theorem w67 : (Jvm.Cond.methodLink "SaturProverL2" (26 : Nat) ({ cls := "SaturProver", name := "usedVars", desc := "()I" } : Jvm.MethodName)) ∈ tables_1 := mem1 67 rfl
theorem w68 : (Jvm.Cond.declares ({ cls := "SaturProver", name := "usedVars", desc := "()I" } : Jvm.MethodName)) ∈ tables_1 := mem1 68 rfl
theorem w69 : (Jvm.Cond.instanceMethod ({ cls := "SaturProver", name := "usedVars", desc := "()I" } : Jvm.MethodName)) ∈ tables_1 := mem1 69 rfl
theorem w70 : (Jvm.Cond.selects "SaturProver" ({ cls := "SaturProver", name := "usedVars", desc := "()I" } : Jvm.MethodName) ({ cls := "SaturProver", name := "usedVars", desc := "()I" } : Jvm.MethodName)) ∈ tables_1 := mem1 70 rfl
theorem w72 : (Jvm.Cond.methodLink "SaturProverL2" (29 : Nat) ({ cls := "SaturProver", name := "isComplete", desc := "()Z" } : Jvm.MethodName)) ∈ tables_1 := mem1 72 rfl
theorem w73 : (Jvm.Cond.declares ({ cls := "SaturProver", name := "isComplete", desc := "()Z" } : Jvm.MethodName)) ∈ tables_1 := mem1 73 rfl
theorem w74 : (Jvm.Cond.instanceMethod ({ cls := "SaturProver", name := "isComplete", desc := "()Z" } : Jvm.MethodName)) ∈ tables_1 := mem1 74 rfl
theorem w75 : (Jvm.Cond.selects "SaturProver" ({ cls := "SaturProver", name := "isComplete", desc := "()Z" } : Jvm.MethodName) ({ cls := "SaturProver", name := "isComplete", desc := "()Z" } : Jvm.MethodName)) ∈ tables_1 := mem1 75 rfl
theorem w77 : (Jvm.Cond.methodLink "SaturProver" (56 : Nat) ({ cls := "SaturProver", name := "completeF", desc := "()Z" } : Jvm.MethodName)) ∈ tables_1 := mem1 77 rfl
theorem w78 : (Jvm.Cond.instanceMethod ({ cls := "SaturProver", name := "completeF", desc := "()Z" } : Jvm.MethodName)) ∈ tables_1 := mem1 78 rfl
theorem w79 : (Jvm.Cond.privateMethod ({ cls := "SaturProver", name := "completeF", desc := "()Z" } : Jvm.MethodName)) ∈ tables_1 := mem1 79 rfl
theorem w81 : (Jvm.Cond.methodLink "SaturProverL2" (33 : Nat) ({ cls := "SaturProver", name := "lastResult", desc := "()I" } : Jvm.MethodName)) ∈ tables_1 := mem1 81 rfl
theorem w82 : (Jvm.Cond.declares ({ cls := "SaturProver", name := "lastResult", desc := "()I" } : Jvm.MethodName)) ∈ tables_1 := mem1 82 rfl
theorem w83 : (Jvm.Cond.instanceMethod ({ cls := "SaturProver", name := "lastResult", desc := "()I" } : Jvm.MethodName)) ∈ tables_1 := mem1 83 rfl
theorem w84 : (Jvm.Cond.selects "SaturProver" ({ cls := "SaturProver", name := "lastResult", desc := "()I" } : Jvm.MethodName) ({ cls := "SaturProver", name := "lastResult", desc := "()I" } : Jvm.MethodName)) ∈ tables_1 := mem1 84 rfl
theorem fS_0 : K.2.1[0]? = some ("cap", "I") := rfl
theorem fS_1 : K.2.1[1]? = some ("n", "I") := rfl
theorem fS_2 : K.2.1[2]? = some ("dep", "I") := rfl
theorem fS_3 : K.2.1[3]? = some ("sn", "I") := rfl
theorem fS_4 : K.2.1[4]? = some ("hasSaved", "Z") := rfl
theorem fS_5 : K.2.1[5]? = some ("res", "I") := rfl
theorem fS_6 : K.2.1[6]? = some ("wit", "I") := rfl
theorem fS_7 : K.2.1[7]? = some ("fValid", "Z") := rfl
theorem fA_0 : K.2.2[0]? = some ("toks", .int, (32 : Int32)) := rfl
theorem fA_1 : K.2.2[1]? = some ("saved", .int, (32 : Int32)) := rfl
theorem fA_2 : K.2.2[2]? = some ("stk", .long, (128 : Int32)) := rfl
theorem fA_3 : K.2.2[3]? = some ("tabF", .long, (4 : Int32)) := rfl
theorem fA_4 : K.2.2[4]? = some ("tabS", .long, (4 : Int32)) := rfl
theorem fA_5 : K.2.2[5]? = some ("work", .long, (4 : Int32)) := rfl
theorem cb_m3 : (Int8.ofInt (-3)).toInt32 = (-3 : Int32) := by decide
theorem cb_m2 : (Int8.ofInt (-2)).toInt32 = (-2 : Int32) := by decide
theorem cb_7 : (Int8.ofInt 7).toInt32 = (7 : Int32) := by decide
theorem cb_8 : (Int8.ofInt 8).toInt32 = (8 : Int32) := by decide
theorem cb_9 : (Int8.ofInt 9).toInt32 = (9 : Int32) := by decide
theorem cb_10 : (Int8.ofInt 10).toInt32 = (10 : Int32) := by decide
theorem cb_15 : (Int8.ofInt 15).toInt32 = (15 : Int32) := by decide
theorem cb_32 : (Int8.ofInt 32).toInt32 = (32 : Int32) := by decide
theorem ci_m1 : Int32.ofInt (-1) = (-1 : Int32) := by decide
theorem ci_0 : Int32.ofInt 0 = (0 : Int32) := by decide
theorem ci_1 : Int32.ofInt 1 = (1 : Int32) := by decide
theorem ci_2 : Int32.ofInt 2 = (2 : Int32) := by decide
theorem ci_4 : Int32.ofInt 4 = (4 : Int32) := by decide
theorem cs_128 : (Int16.ofInt 128).toInt32 = (128 : Int32) := by decide
def B2 : Bdy := ((⟨"SaturProver", "resetResult", "()V"⟩ : MethodName), prog_1_method_19_code, 1, none, ({ frames := 0, cells := 0, slots := 0, locals := 0 } : Room))
theorem d2_0 : DAt B2 0 (.aload_n 0) 1 1 := ⟨by decide +kernel, rfl⟩
theorem d2_1 : DAt B2 1 (.iconst 0) 1 2 := ⟨by decide +kernel, rfl⟩
theorem d2_2 : DAt B2 2 (.putfield 89) 3 5 := ⟨by decide +kernel, rfl⟩
theorem d2_5 : DAt B2 5 (.aload_n 0) 1 6 := ⟨by decide +kernel, rfl⟩
theorem d2_6 : DAt B2 6 (.iconst (-1)) 1 7 := ⟨by decide +kernel, rfl⟩
theorem d2_7 : DAt B2 7 (.putfield 92) 3 10 := ⟨by decide +kernel, rfl⟩
theorem d2_10 : DAt B2 10 (.return_) 1 11 := ⟨by decide +kernel, rfl⟩
def B1 : Bdy := ((⟨"SaturProver", "<init>", "(I)V"⟩ : MethodName), prog_1_method_1_code, 3, none, ({ frames := 1, cells := 6, slots := 204, locals := 12 } : Room))
theorem d1_0 : DAt B1 0 (.aload_n 0) 1 1 := ⟨by decide +kernel, rfl⟩
theorem d1_1 : DAt B1 1 (.invokespecial 1) 3 4 := ⟨by decide +kernel, rfl⟩
theorem d1_4 : DAt B1 4 (.aload_n 0) 1 5 := ⟨by decide +kernel, rfl⟩
theorem d1_5 : DAt B1 5 (.bipush 32) 2 7 := ⟨by decide +kernel, rfl⟩
theorem d1_7 : DAt B1 7 (.newarray .int) 2 9 := ⟨by decide +kernel, rfl⟩
theorem d1_9 : DAt B1 9 (.putfield 7) 3 12 := ⟨by decide +kernel, rfl⟩
theorem d1_12 : DAt B1 12 (.aload_n 0) 1 13 := ⟨by decide +kernel, rfl⟩
theorem d1_13 : DAt B1 13 (.bipush 32) 2 15 := ⟨by decide +kernel, rfl⟩
theorem d1_15 : DAt B1 15 (.newarray .int) 2 17 := ⟨by decide +kernel, rfl⟩
theorem d1_17 : DAt B1 17 (.putfield 13) 3 20 := ⟨by decide +kernel, rfl⟩
theorem d1_20 : DAt B1 20 (.aload_n 0) 1 21 := ⟨by decide +kernel, rfl⟩
theorem d1_21 : DAt B1 21 (.sipush 128) 3 24 := ⟨by decide +kernel, rfl⟩
theorem d1_24 : DAt B1 24 (.newarray .long) 2 26 := ⟨by decide +kernel, rfl⟩
theorem d1_26 : DAt B1 26 (.putfield 16) 3 29 := ⟨by decide +kernel, rfl⟩
theorem d1_29 : DAt B1 29 (.aload_n 0) 1 30 := ⟨by decide +kernel, rfl⟩
theorem d1_30 : DAt B1 30 (.iconst 4) 1 31 := ⟨by decide +kernel, rfl⟩
theorem d1_31 : DAt B1 31 (.newarray .long) 2 33 := ⟨by decide +kernel, rfl⟩
theorem d1_33 : DAt B1 33 (.putfield 20) 3 36 := ⟨by decide +kernel, rfl⟩
theorem d1_36 : DAt B1 36 (.aload_n 0) 1 37 := ⟨by decide +kernel, rfl⟩
theorem d1_37 : DAt B1 37 (.iconst 4) 1 38 := ⟨by decide +kernel, rfl⟩
theorem d1_38 : DAt B1 38 (.newarray .long) 2 40 := ⟨by decide +kernel, rfl⟩
theorem d1_40 : DAt B1 40 (.putfield 23) 3 43 := ⟨by decide +kernel, rfl⟩
theorem d1_43 : DAt B1 43 (.aload_n 0) 1 44 := ⟨by decide +kernel, rfl⟩
theorem d1_44 : DAt B1 44 (.iconst 4) 1 45 := ⟨by decide +kernel, rfl⟩
theorem d1_45 : DAt B1 45 (.newarray .long) 2 47 := ⟨by decide +kernel, rfl⟩
theorem d1_47 : DAt B1 47 (.putfield 26) 3 50 := ⟨by decide +kernel, rfl⟩
theorem d1_50 : DAt B1 50 (.iload_n 1) 1 51 := ⟨by decide +kernel, rfl⟩
theorem d1_51 : DAt B1 51 (.istore_n 2) 1 52 := ⟨by decide +kernel, rfl⟩
theorem d1_52 : DAt B1 52 (.iload_n 2) 1 53 := ⟨by decide +kernel, rfl⟩
theorem d1_53 : DAt B1 53 (.bipush 8) 2 55 := ⟨by decide +kernel, rfl⟩
theorem d1_55 : DAt B1 55 (.if_icmp .ge 6) 3 58 := ⟨by decide +kernel, rfl⟩
theorem d1_58 : DAt B1 58 (.bipush 8) 2 60 := ⟨by decide +kernel, rfl⟩
theorem d1_60 : DAt B1 60 (.istore_n 2) 1 61 := ⟨by decide +kernel, rfl⟩
theorem d1_61 : DAt B1 61 (.iload_n 2) 1 62 := ⟨by decide +kernel, rfl⟩
theorem d1_62 : DAt B1 62 (.bipush 32) 2 64 := ⟨by decide +kernel, rfl⟩
theorem d1_64 : DAt B1 64 (.if_icmp .le 6) 3 67 := ⟨by decide +kernel, rfl⟩
theorem d1_67 : DAt B1 67 (.bipush 32) 2 69 := ⟨by decide +kernel, rfl⟩
theorem d1_69 : DAt B1 69 (.istore_n 2) 1 70 := ⟨by decide +kernel, rfl⟩
theorem d1_70 : DAt B1 70 (.aload_n 0) 1 71 := ⟨by decide +kernel, rfl⟩
theorem d1_71 : DAt B1 71 (.iload_n 2) 1 72 := ⟨by decide +kernel, rfl⟩
theorem d1_72 : DAt B1 72 (.putfield 29) 3 75 := ⟨by decide +kernel, rfl⟩
theorem d1_75 : DAt B1 75 (.aload_n 0) 1 76 := ⟨by decide +kernel, rfl⟩
theorem d1_76 : DAt B1 76 (.iconst 0) 1 77 := ⟨by decide +kernel, rfl⟩
theorem d1_77 : DAt B1 77 (.putfield 33) 3 80 := ⟨by decide +kernel, rfl⟩
theorem d1_80 : DAt B1 80 (.aload_n 0) 1 81 := ⟨by decide +kernel, rfl⟩
theorem d1_81 : DAt B1 81 (.iconst 0) 1 82 := ⟨by decide +kernel, rfl⟩
theorem d1_82 : DAt B1 82 (.putfield 36) 3 85 := ⟨by decide +kernel, rfl⟩
theorem d1_85 : DAt B1 85 (.aload_n 0) 1 86 := ⟨by decide +kernel, rfl⟩
theorem d1_86 : DAt B1 86 (.iconst 0) 1 87 := ⟨by decide +kernel, rfl⟩
theorem d1_87 : DAt B1 87 (.putfield 39) 3 90 := ⟨by decide +kernel, rfl⟩
theorem d1_90 : DAt B1 90 (.aload_n 0) 1 91 := ⟨by decide +kernel, rfl⟩
theorem d1_91 : DAt B1 91 (.iconst 0) 1 92 := ⟨by decide +kernel, rfl⟩
theorem d1_92 : DAt B1 92 (.putfield 42) 3 95 := ⟨by decide +kernel, rfl⟩
theorem d1_95 : DAt B1 95 (.aload_n 0) 1 96 := ⟨by decide +kernel, rfl⟩
theorem d1_96 : DAt B1 96 (.iconst 0) 1 97 := ⟨by decide +kernel, rfl⟩
theorem d1_97 : DAt B1 97 (.putfield 46) 3 100 := ⟨by decide +kernel, rfl⟩
theorem d1_100 : DAt B1 100 (.aload_n 0) 1 101 := ⟨by decide +kernel, rfl⟩
theorem d1_101 : DAt B1 101 (.invokevirtual 49) 3 104 := ⟨by decide +kernel, rfl⟩
theorem d1_104 : DAt B1 104 (.return_) 1 105 := ⟨by decide +kernel, rfl⟩
def B4 : Bdy := ((⟨"SaturProver", "arity", "(I)I"⟩ : MethodName), prog_1_method_21_code, 2, (some .int), ({ frames := 0, cells := 0, slots := 0, locals := 0 } : Room))
theorem d4_0 : DAt B4 0 (.iload_n 1) 1 1 := ⟨by decide +kernel, rfl⟩
theorem d4_1 : DAt B4 1 (.bipush 9) 2 3 := ⟨by decide +kernel, rfl⟩
theorem d4_3 : DAt B4 3 (.if_icmp .gt 5) 3 6 := ⟨by decide +kernel, rfl⟩
theorem d4_6 : DAt B4 6 (.iconst 0) 1 7 := ⟨by decide +kernel, rfl⟩
theorem d4_7 : DAt B4 7 (.ireturn) 1 8 := ⟨by decide +kernel, rfl⟩
theorem d4_8 : DAt B4 8 (.iload_n 1) 1 9 := ⟨by decide +kernel, rfl⟩
theorem d4_9 : DAt B4 9 (.bipush 10) 2 11 := ⟨by decide +kernel, rfl⟩
theorem d4_11 : DAt B4 11 (.if_icmp .ne 5) 3 14 := ⟨by decide +kernel, rfl⟩
theorem d4_14 : DAt B4 14 (.iconst 1) 1 15 := ⟨by decide +kernel, rfl⟩
theorem d4_15 : DAt B4 15 (.ireturn) 1 16 := ⟨by decide +kernel, rfl⟩
theorem d4_16 : DAt B4 16 (.iconst 2) 1 17 := ⟨by decide +kernel, rfl⟩
theorem d4_17 : DAt B4 17 (.ireturn) 1 18 := ⟨by decide +kernel, rfl⟩
def B3 : Bdy := ((⟨"SaturProver", "pushToken", "(I)I"⟩ : MethodName), prog_1_method_2_code, 3, (some .int), ({ frames := 1, cells := 0, slots := 0, locals := 13 } : Room))
theorem d3_0 : DAt B3 0 (.iload_n 1) 1 1 := ⟨by decide +kernel, rfl⟩
theorem d3_1 : DAt B3 1 (.ifCond .lt 9) 3 4 := ⟨by decide +kernel, rfl⟩
theorem d3_4 : DAt B3 4 (.iload_n 1) 1 5 := ⟨by decide +kernel, rfl⟩
theorem d3_5 : DAt B3 5 (.bipush 15) 2 7 := ⟨by decide +kernel, rfl⟩
theorem d3_7 : DAt B3 7 (.if_icmp .le 5) 3 10 := ⟨by decide +kernel, rfl⟩
theorem d3_10 : DAt B3 10 (.iconst (-1)) 1 11 := ⟨by decide +kernel, rfl⟩
theorem d3_11 : DAt B3 11 (.ireturn) 1 12 := ⟨by decide +kernel, rfl⟩
theorem d3_12 : DAt B3 12 (.aload_n 0) 1 13 := ⟨by decide +kernel, rfl⟩
theorem d3_13 : DAt B3 13 (.getfield 33) 3 16 := ⟨by decide +kernel, rfl⟩
theorem d3_16 : DAt B3 16 (.aload_n 0) 1 17 := ⟨by decide +kernel, rfl⟩
theorem d3_17 : DAt B3 17 (.getfield 29) 3 20 := ⟨by decide +kernel, rfl⟩
theorem d3_20 : DAt B3 20 (.if_icmp .lt 6) 3 23 := ⟨by decide +kernel, rfl⟩
theorem d3_23 : DAt B3 23 (.bipush (-2)) 2 25 := ⟨by decide +kernel, rfl⟩
theorem d3_25 : DAt B3 25 (.ireturn) 1 26 := ⟨by decide +kernel, rfl⟩
theorem d3_26 : DAt B3 26 (.aload_n 0) 1 27 := ⟨by decide +kernel, rfl⟩
theorem d3_27 : DAt B3 27 (.iload_n 1) 1 28 := ⟨by decide +kernel, rfl⟩
theorem d3_28 : DAt B3 28 (.invokevirtual 52) 3 31 := ⟨by decide +kernel, rfl⟩
theorem d3_31 : DAt B3 31 (.istore_n 2) 1 32 := ⟨by decide +kernel, rfl⟩
theorem d3_32 : DAt B3 32 (.iload_n 2) 1 33 := ⟨by decide +kernel, rfl⟩
theorem d3_33 : DAt B3 33 (.aload_n 0) 1 34 := ⟨by decide +kernel, rfl⟩
theorem d3_34 : DAt B3 34 (.getfield 36) 3 37 := ⟨by decide +kernel, rfl⟩
theorem d3_37 : DAt B3 37 (.if_icmp .le 6) 3 40 := ⟨by decide +kernel, rfl⟩
theorem d3_40 : DAt B3 40 (.bipush (-3)) 2 42 := ⟨by decide +kernel, rfl⟩
theorem d3_42 : DAt B3 42 (.ireturn) 1 43 := ⟨by decide +kernel, rfl⟩
theorem d3_43 : DAt B3 43 (.aload_n 0) 1 44 := ⟨by decide +kernel, rfl⟩
theorem d3_44 : DAt B3 44 (.getfield 7) 3 47 := ⟨by decide +kernel, rfl⟩
theorem d3_47 : DAt B3 47 (.aload_n 0) 1 48 := ⟨by decide +kernel, rfl⟩
theorem d3_48 : DAt B3 48 (.getfield 33) 3 51 := ⟨by decide +kernel, rfl⟩
theorem d3_51 : DAt B3 51 (.iload_n 1) 1 52 := ⟨by decide +kernel, rfl⟩
theorem d3_52 : DAt B3 52 (.iastore) 1 53 := ⟨by decide +kernel, rfl⟩
theorem d3_53 : DAt B3 53 (.aload_n 0) 1 54 := ⟨by decide +kernel, rfl⟩
theorem d3_54 : DAt B3 54 (.aload_n 0) 1 55 := ⟨by decide +kernel, rfl⟩
theorem d3_55 : DAt B3 55 (.getfield 33) 3 58 := ⟨by decide +kernel, rfl⟩
theorem d3_58 : DAt B3 58 (.iconst 1) 1 59 := ⟨by decide +kernel, rfl⟩
theorem d3_59 : DAt B3 59 (.iadd) 1 60 := ⟨by decide +kernel, rfl⟩
theorem d3_60 : DAt B3 60 (.putfield 33) 3 63 := ⟨by decide +kernel, rfl⟩
theorem d3_63 : DAt B3 63 (.aload_n 0) 1 64 := ⟨by decide +kernel, rfl⟩
theorem d3_64 : DAt B3 64 (.aload_n 0) 1 65 := ⟨by decide +kernel, rfl⟩
theorem d3_65 : DAt B3 65 (.getfield 36) 3 68 := ⟨by decide +kernel, rfl⟩
theorem d3_68 : DAt B3 68 (.iconst 1) 1 69 := ⟨by decide +kernel, rfl⟩
theorem d3_69 : DAt B3 69 (.iadd) 1 70 := ⟨by decide +kernel, rfl⟩
theorem d3_70 : DAt B3 70 (.iload_n 2) 1 71 := ⟨by decide +kernel, rfl⟩
theorem d3_71 : DAt B3 71 (.isub) 1 72 := ⟨by decide +kernel, rfl⟩
theorem d3_72 : DAt B3 72 (.putfield 36) 3 75 := ⟨by decide +kernel, rfl⟩
theorem d3_75 : DAt B3 75 (.aload_n 0) 1 76 := ⟨by decide +kernel, rfl⟩
theorem d3_76 : DAt B3 76 (.iconst 0) 1 77 := ⟨by decide +kernel, rfl⟩
theorem d3_77 : DAt B3 77 (.putfield 46) 3 80 := ⟨by decide +kernel, rfl⟩
theorem d3_80 : DAt B3 80 (.aload_n 0) 1 81 := ⟨by decide +kernel, rfl⟩
theorem d3_81 : DAt B3 81 (.invokevirtual 49) 3 84 := ⟨by decide +kernel, rfl⟩
theorem d3_84 : DAt B3 84 (.iconst 0) 1 85 := ⟨by decide +kernel, rfl⟩
theorem d3_85 : DAt B3 85 (.ireturn) 1 86 := ⟨by decide +kernel, rfl⟩
def B5 : Bdy := ((⟨"SaturProver", "length", "()I"⟩ : MethodName), prog_1_method_6_code, 1, (some .int), ({ frames := 0, cells := 0, slots := 0, locals := 0 } : Room))
theorem d5_0 : DAt B5 0 (.aload_n 0) 1 1 := ⟨by decide +kernel, rfl⟩
theorem d5_1 : DAt B5 1 (.getfield 33) 3 4 := ⟨by decide +kernel, rfl⟩
theorem d5_4 : DAt B5 4 (.ireturn) 1 5 := ⟨by decide +kernel, rfl⟩
def B6 : Bdy := ((⟨"SaturProver", "depth", "()I"⟩ : MethodName), prog_1_method_8_code, 1, (some .int), ({ frames := 0, cells := 0, slots := 0, locals := 0 } : Room))
theorem d6_0 : DAt B6 0 (.aload_n 0) 1 1 := ⟨by decide +kernel, rfl⟩
theorem d6_1 : DAt B6 1 (.getfield 36) 3 4 := ⟨by decide +kernel, rfl⟩
theorem d6_4 : DAt B6 4 (.ireturn) 1 5 := ⟨by decide +kernel, rfl⟩
def B7 : Bdy := ((⟨"SaturProver", "tokenAt", "(I)I"⟩ : MethodName), prog_1_method_10_code, 2, (some .int), ({ frames := 0, cells := 0, slots := 0, locals := 0 } : Room))
theorem d7_0 : DAt B7 0 (.iload_n 1) 1 1 := ⟨by decide +kernel, rfl⟩
theorem d7_1 : DAt B7 1 (.ifCond .lt 11) 3 4 := ⟨by decide +kernel, rfl⟩
theorem d7_4 : DAt B7 4 (.iload_n 1) 1 5 := ⟨by decide +kernel, rfl⟩
theorem d7_5 : DAt B7 5 (.aload_n 0) 1 6 := ⟨by decide +kernel, rfl⟩
theorem d7_6 : DAt B7 6 (.getfield 33) 3 9 := ⟨by decide +kernel, rfl⟩
theorem d7_9 : DAt B7 9 (.if_icmp .lt 5) 3 12 := ⟨by decide +kernel, rfl⟩
theorem d7_12 : DAt B7 12 (.iconst (-1)) 1 13 := ⟨by decide +kernel, rfl⟩
theorem d7_13 : DAt B7 13 (.ireturn) 1 14 := ⟨by decide +kernel, rfl⟩
theorem d7_14 : DAt B7 14 (.aload_n 0) 1 15 := ⟨by decide +kernel, rfl⟩
theorem d7_15 : DAt B7 15 (.getfield 7) 3 18 := ⟨by decide +kernel, rfl⟩
theorem d7_18 : DAt B7 18 (.iload_n 1) 1 19 := ⟨by decide +kernel, rfl⟩
theorem d7_19 : DAt B7 19 (.iaload) 1 20 := ⟨by decide +kernel, rfl⟩
theorem d7_20 : DAt B7 20 (.ireturn) 1 21 := ⟨by decide +kernel, rfl⟩
def B8 : Bdy := ((⟨"SaturProver", "usedVars", "()I"⟩ : MethodName), prog_1_method_11_code, 4, (some .int), ({ frames := 0, cells := 0, slots := 0, locals := 0 } : Room))
theorem d8_0 : DAt B8 0 (.iconst 0) 1 1 := ⟨by decide +kernel, rfl⟩
theorem d8_1 : DAt B8 1 (.istore_n 1) 1 2 := ⟨by decide +kernel, rfl⟩
theorem d8_2 : DAt B8 2 (.iconst 0) 1 3 := ⟨by decide +kernel, rfl⟩
theorem d8_3 : DAt B8 3 (.istore_n 2) 1 4 := ⟨by decide +kernel, rfl⟩
theorem d8_4 : DAt B8 4 (.iload_n 2) 1 5 := ⟨by decide +kernel, rfl⟩
theorem d8_5 : DAt B8 5 (.aload_n 0) 1 6 := ⟨by decide +kernel, rfl⟩
theorem d8_6 : DAt B8 6 (.getfield 33) 3 9 := ⟨by decide +kernel, rfl⟩
theorem d8_9 : DAt B8 9 (.if_icmp .ge 38) 3 12 := ⟨by decide +kernel, rfl⟩
theorem d8_12 : DAt B8 12 (.iload_n 2) 1 13 := ⟨by decide +kernel, rfl⟩
theorem d8_13 : DAt B8 13 (.bipush 32) 2 15 := ⟨by decide +kernel, rfl⟩
theorem d8_15 : DAt B8 15 (.if_icmp .ge 32) 3 18 := ⟨by decide +kernel, rfl⟩
theorem d8_18 : DAt B8 18 (.aload_n 0) 1 19 := ⟨by decide +kernel, rfl⟩
theorem d8_19 : DAt B8 19 (.getfield 7) 3 22 := ⟨by decide +kernel, rfl⟩
theorem d8_22 : DAt B8 22 (.iload_n 2) 1 23 := ⟨by decide +kernel, rfl⟩
theorem d8_23 : DAt B8 23 (.iaload) 1 24 := ⟨by decide +kernel, rfl⟩
theorem d8_24 : DAt B8 24 (.istore_n 3) 1 25 := ⟨by decide +kernel, rfl⟩
theorem d8_25 : DAt B8 25 (.iload_n 3) 1 26 := ⟨by decide +kernel, rfl⟩
theorem d8_26 : DAt B8 26 (.ifCond .lt 15) 3 29 := ⟨by decide +kernel, rfl⟩
theorem d8_29 : DAt B8 29 (.iload_n 3) 1 30 := ⟨by decide +kernel, rfl⟩
theorem d8_30 : DAt B8 30 (.bipush 8) 2 32 := ⟨by decide +kernel, rfl⟩
theorem d8_32 : DAt B8 32 (.if_icmp .ge 9) 3 35 := ⟨by decide +kernel, rfl⟩
theorem d8_35 : DAt B8 35 (.iload_n 1) 1 36 := ⟨by decide +kernel, rfl⟩
theorem d8_36 : DAt B8 36 (.iconst 1) 1 37 := ⟨by decide +kernel, rfl⟩
theorem d8_37 : DAt B8 37 (.iload_n 3) 1 38 := ⟨by decide +kernel, rfl⟩
theorem d8_38 : DAt B8 38 (.ishl) 1 39 := ⟨by decide +kernel, rfl⟩
theorem d8_39 : DAt B8 39 (.ior) 1 40 := ⟨by decide +kernel, rfl⟩
theorem d8_40 : DAt B8 40 (.istore_n 1) 1 41 := ⟨by decide +kernel, rfl⟩
theorem d8_41 : DAt B8 41 (.iinc 2 1) 3 44 := ⟨by decide +kernel, rfl⟩
theorem d8_44 : DAt B8 44 (.goto (-40)) 3 47 := ⟨by decide +kernel, rfl⟩
theorem d8_47 : DAt B8 47 (.iload_n 1) 1 48 := ⟨by decide +kernel, rfl⟩
theorem d8_48 : DAt B8 48 (.ireturn) 1 49 := ⟨by decide +kernel, rfl⟩
def B10 : Bdy := ((⟨"SaturProver", "completeF", "()Z"⟩ : MethodName), prog_1_method_18_code, 1, (some .boolean), ({ frames := 0, cells := 0, slots := 0, locals := 0 } : Room))
theorem d10_0 : DAt B10 0 (.aload_n 0) 1 1 := ⟨by decide +kernel, rfl⟩
theorem d10_1 : DAt B10 1 (.getfield 36) 3 4 := ⟨by decide +kernel, rfl⟩
theorem d10_4 : DAt B10 4 (.iconst 1) 1 5 := ⟨by decide +kernel, rfl⟩
theorem d10_5 : DAt B10 5 (.if_icmp .ne 7) 3 8 := ⟨by decide +kernel, rfl⟩
theorem d10_8 : DAt B10 8 (.iconst 1) 1 9 := ⟨by decide +kernel, rfl⟩
theorem d10_9 : DAt B10 9 (.goto 4) 3 12 := ⟨by decide +kernel, rfl⟩
theorem d10_12 : DAt B10 12 (.iconst 0) 1 13 := ⟨by decide +kernel, rfl⟩
theorem d10_13 : DAt B10 13 (.ireturn) 1 14 := ⟨by decide +kernel, rfl⟩
def B9 : Bdy := ((⟨"SaturProver", "isComplete", "()Z"⟩ : MethodName), prog_1_method_9_code, 1, (some .boolean), ({ frames := 1, cells := 0, slots := 0, locals := 12 } : Room))
theorem d9_0 : DAt B9 0 (.aload_n 0) 1 1 := ⟨by decide +kernel, rfl⟩
theorem d9_1 : DAt B9 1 (.invokevirtual 56) 3 4 := ⟨by decide +kernel, rfl⟩
theorem d9_4 : DAt B9 4 (.ireturn) 1 5 := ⟨by decide +kernel, rfl⟩
def B11 : Bdy := ((⟨"SaturProver", "lastResult", "()I"⟩ : MethodName), prog_1_method_16_code, 1, (some .int), ({ frames := 0, cells := 0, slots := 0, locals := 0 } : Room))
theorem d11_0 : DAt B11 0 (.aload_n 0) 1 1 := ⟨by decide +kernel, rfl⟩
theorem d11_1 : DAt B11 1 (.getfield 89) 3 4 := ⟨by decide +kernel, rfl⟩
theorem d11_4 : DAt B11 4 (.ireturn) 1 5 := ⟨by decide +kernel, rfl⟩
def B0 : Bdy := (x, code, maxLocals, ret, room_1)
theorem d0_0 : DAt B0 0 (.new 7) 3 3 := ⟨at_0, rfl⟩
theorem d0_3 : DAt B0 3 (.dup) 1 4 := ⟨at_3, rfl⟩
theorem d0_4 : DAt B0 4 (.iload_n 0) 1 5 := ⟨at_4, rfl⟩
theorem d0_5 : DAt B0 5 (.invokespecial 9) 3 8 := ⟨at_5, rfl⟩
theorem d0_8 : DAt B0 8 (.astore_n 3) 1 9 := ⟨at_8, rfl⟩
theorem d0_9 : DAt B0 9 (.aload_n 3) 1 10 := ⟨at_9, rfl⟩
theorem d0_10 : DAt B0 10 (.iload_n 1) 1 11 := ⟨at_10, rfl⟩
theorem d0_11 : DAt B0 11 (.invokevirtual 12) 3 14 := ⟨at_11, rfl⟩
theorem d0_14 : DAt B0 14 (.istore 4) 2 16 := ⟨at_14, rfl⟩
theorem d0_16 : DAt B0 16 (.aload_n 3) 1 17 := ⟨at_16, rfl⟩
theorem d0_17 : DAt B0 17 (.iload_n 2) 1 18 := ⟨at_17, rfl⟩
theorem d0_18 : DAt B0 18 (.invokevirtual 12) 3 21 := ⟨at_18, rfl⟩
theorem d0_21 : DAt B0 21 (.istore 5) 2 23 := ⟨at_21, rfl⟩
theorem d0_23 : DAt B0 23 (.aload_n 3) 1 24 := ⟨at_23, rfl⟩
theorem d0_24 : DAt B0 24 (.invokevirtual 16) 3 27 := ⟨at_24, rfl⟩
theorem d0_27 : DAt B0 27 (.istore 6) 2 29 := ⟨at_27, rfl⟩
theorem d0_29 : DAt B0 29 (.aload_n 3) 1 30 := ⟨at_29, rfl⟩
theorem d0_30 : DAt B0 30 (.invokevirtual 20) 3 33 := ⟨at_30, rfl⟩
theorem d0_33 : DAt B0 33 (.istore 7) 2 35 := ⟨at_33, rfl⟩
theorem d0_35 : DAt B0 35 (.aload_n 3) 1 36 := ⟨at_35, rfl⟩
theorem d0_36 : DAt B0 36 (.iconst 0) 1 37 := ⟨at_36, rfl⟩
theorem d0_37 : DAt B0 37 (.invokevirtual 23) 3 40 := ⟨at_37, rfl⟩
theorem d0_40 : DAt B0 40 (.istore 8) 2 42 := ⟨at_40, rfl⟩
theorem d0_42 : DAt B0 42 (.aload_n 3) 1 43 := ⟨at_42, rfl⟩
theorem d0_43 : DAt B0 43 (.iconst 1) 1 44 := ⟨at_43, rfl⟩
theorem d0_44 : DAt B0 44 (.invokevirtual 23) 3 47 := ⟨at_44, rfl⟩
theorem d0_47 : DAt B0 47 (.istore 9) 2 49 := ⟨at_47, rfl⟩
theorem d0_49 : DAt B0 49 (.aload_n 3) 1 50 := ⟨at_49, rfl⟩
theorem d0_50 : DAt B0 50 (.invokevirtual 26) 3 53 := ⟨at_50, rfl⟩
theorem d0_53 : DAt B0 53 (.istore 10) 2 55 := ⟨at_53, rfl⟩
theorem d0_55 : DAt B0 55 (.aload_n 3) 1 56 := ⟨at_55, rfl⟩
theorem d0_56 : DAt B0 56 (.invokevirtual 29) 3 59 := ⟨at_56, rfl⟩
theorem d0_59 : DAt B0 59 (.istore 11) 2 61 := ⟨at_59, rfl⟩
theorem d0_61 : DAt B0 61 (.aload_n 3) 1 62 := ⟨at_61, rfl⟩
theorem d0_62 : DAt B0 62 (.invokevirtual 33) 3 65 := ⟨at_62, rfl⟩
theorem d0_65 : DAt B0 65 (.istore 12) 2 67 := ⟨at_65, rfl⟩
theorem d0_67 : DAt B0 67 (.iconst 0) 1 68 := ⟨at_67, rfl⟩
theorem d0_68 : DAt B0 68 (.istore 13) 2 70 := ⟨at_68, rfl⟩
theorem d0_70 : DAt B0 70 (.iload_n 1) 1 71 := ⟨at_70, rfl⟩
theorem d0_71 : DAt B0 71 (.ifCond .lt 9) 3 74 := ⟨at_71, rfl⟩
theorem d0_74 : DAt B0 74 (.iload_n 1) 1 75 := ⟨at_74, rfl⟩
theorem d0_75 : DAt B0 75 (.bipush 15) 2 77 := ⟨at_75, rfl⟩
theorem d0_77 : DAt B0 77 (.if_icmp .le 9) 3 80 := ⟨at_77, rfl⟩
theorem d0_80 : DAt B0 80 (.iconst (-1)) 1 81 := ⟨at_80, rfl⟩
theorem d0_81 : DAt B0 81 (.istore 13) 2 83 := ⟨at_81, rfl⟩
theorem d0_83 : DAt B0 83 (.goto 13) 3 86 := ⟨at_83, rfl⟩
theorem d0_86 : DAt B0 86 (.iload_n 1) 1 87 := ⟨at_86, rfl⟩
theorem d0_87 : DAt B0 87 (.bipush 10) 2 89 := ⟨at_87, rfl⟩
theorem d0_89 : DAt B0 89 (.if_icmp .lt 7) 3 92 := ⟨at_89, rfl⟩
theorem d0_92 : DAt B0 92 (.bipush (-3)) 2 94 := ⟨at_92, rfl⟩
theorem d0_94 : DAt B0 94 (.istore 13) 2 96 := ⟨at_94, rfl⟩
theorem d0_96 : DAt B0 96 (.iload 13) 2 98 := ⟨at_96, rfl⟩
theorem d0_98 : DAt B0 98 (.ifCond .ne 7) 3 101 := ⟨at_98, rfl⟩
theorem d0_101 : DAt B0 101 (.iconst 1) 1 102 := ⟨at_101, rfl⟩
theorem d0_102 : DAt B0 102 (.goto 4) 3 105 := ⟨at_102, rfl⟩
theorem d0_105 : DAt B0 105 (.iconst 0) 1 106 := ⟨at_105, rfl⟩
theorem d0_106 : DAt B0 106 (.istore 14) 2 108 := ⟨at_106, rfl⟩
theorem d0_108 : DAt B0 108 (.iload_n 2) 1 109 := ⟨at_108, rfl⟩
theorem d0_109 : DAt B0 109 (.bipush 9) 2 111 := ⟨at_109, rfl⟩
theorem d0_111 : DAt B0 111 (.if_icmp .gt 7) 3 114 := ⟨at_111, rfl⟩
theorem d0_114 : DAt B0 114 (.iconst 0) 1 115 := ⟨at_114, rfl⟩
theorem d0_115 : DAt B0 115 (.goto 14) 3 118 := ⟨at_115, rfl⟩
theorem d0_118 : DAt B0 118 (.iload_n 2) 1 119 := ⟨at_118, rfl⟩
theorem d0_119 : DAt B0 119 (.bipush 10) 2 121 := ⟨at_119, rfl⟩
theorem d0_121 : DAt B0 121 (.if_icmp .ne 7) 3 124 := ⟨at_121, rfl⟩
theorem d0_124 : DAt B0 124 (.iconst 1) 1 125 := ⟨at_124, rfl⟩
theorem d0_125 : DAt B0 125 (.goto 4) 3 128 := ⟨at_125, rfl⟩
theorem d0_128 : DAt B0 128 (.iconst 2) 1 129 := ⟨at_128, rfl⟩
theorem d0_129 : DAt B0 129 (.istore 15) 2 131 := ⟨at_129, rfl⟩
theorem d0_131 : DAt B0 131 (.iconst 0) 1 132 := ⟨at_131, rfl⟩
theorem d0_132 : DAt B0 132 (.istore 16) 2 134 := ⟨at_132, rfl⟩
theorem d0_134 : DAt B0 134 (.iload_n 2) 1 135 := ⟨at_134, rfl⟩
theorem d0_135 : DAt B0 135 (.ifCond .lt 9) 3 138 := ⟨at_135, rfl⟩
theorem d0_138 : DAt B0 138 (.iload_n 2) 1 139 := ⟨at_138, rfl⟩
theorem d0_139 : DAt B0 139 (.bipush 15) 2 141 := ⟨at_139, rfl⟩
theorem d0_141 : DAt B0 141 (.if_icmp .le 9) 3 144 := ⟨at_141, rfl⟩
theorem d0_144 : DAt B0 144 (.iconst (-1)) 1 145 := ⟨at_144, rfl⟩
theorem d0_145 : DAt B0 145 (.istore 16) 2 147 := ⟨at_145, rfl⟩
theorem d0_147 : DAt B0 147 (.goto 14) 3 150 := ⟨at_147, rfl⟩
theorem d0_150 : DAt B0 150 (.iload 15) 2 152 := ⟨at_150, rfl⟩
theorem d0_152 : DAt B0 152 (.iload 14) 2 154 := ⟨at_152, rfl⟩
theorem d0_154 : DAt B0 154 (.if_icmp .le 7) 3 157 := ⟨at_154, rfl⟩
theorem d0_157 : DAt B0 157 (.bipush (-3)) 2 159 := ⟨at_157, rfl⟩
theorem d0_159 : DAt B0 159 (.istore 16) 2 161 := ⟨at_159, rfl⟩
theorem d0_161 : DAt B0 161 (.iload 14) 2 163 := ⟨at_161, rfl⟩
theorem d0_163 : DAt B0 163 (.istore 17) 2 165 := ⟨at_163, rfl⟩
theorem d0_165 : DAt B0 165 (.iload 14) 2 167 := ⟨at_165, rfl⟩
theorem d0_167 : DAt B0 167 (.istore 18) 2 169 := ⟨at_167, rfl⟩
theorem d0_169 : DAt B0 169 (.iload 16) 2 171 := ⟨at_169, rfl⟩
theorem d0_171 : DAt B0 171 (.ifCond .ne 18) 3 174 := ⟨at_171, rfl⟩
theorem d0_174 : DAt B0 174 (.iload 14) 2 176 := ⟨at_174, rfl⟩
theorem d0_176 : DAt B0 176 (.iconst 1) 1 177 := ⟨at_176, rfl⟩
theorem d0_177 : DAt B0 177 (.iadd) 1 178 := ⟨at_177, rfl⟩
theorem d0_178 : DAt B0 178 (.istore 17) 2 180 := ⟨at_178, rfl⟩
theorem d0_180 : DAt B0 180 (.iload 14) 2 182 := ⟨at_180, rfl⟩
theorem d0_182 : DAt B0 182 (.iconst 1) 1 183 := ⟨at_182, rfl⟩
theorem d0_183 : DAt B0 183 (.iadd) 1 184 := ⟨at_183, rfl⟩
theorem d0_184 : DAt B0 184 (.iload 15) 2 186 := ⟨at_184, rfl⟩
theorem d0_186 : DAt B0 186 (.isub) 1 187 := ⟨at_186, rfl⟩
theorem d0_187 : DAt B0 187 (.istore 18) 2 189 := ⟨at_187, rfl⟩
theorem d0_189 : DAt B0 189 (.iload 17) 2 191 := ⟨at_189, rfl⟩
theorem d0_191 : DAt B0 191 (.ifCond .ne 7) 3 194 := ⟨at_191, rfl⟩
theorem d0_194 : DAt B0 194 (.iconst (-1)) 1 195 := ⟨at_194, rfl⟩
theorem d0_195 : DAt B0 195 (.goto 14) 3 198 := ⟨at_195, rfl⟩
theorem d0_198 : DAt B0 198 (.iload 14) 2 200 := ⟨at_198, rfl⟩
theorem d0_200 : DAt B0 200 (.iconst 1) 1 201 := ⟨at_200, rfl⟩
theorem d0_201 : DAt B0 201 (.if_icmp .ne 7) 3 204 := ⟨at_201, rfl⟩
theorem d0_204 : DAt B0 204 (.iload_n 1) 1 205 := ⟨at_204, rfl⟩
theorem d0_205 : DAt B0 205 (.goto 4) 3 208 := ⟨at_205, rfl⟩
theorem d0_208 : DAt B0 208 (.iload_n 2) 1 209 := ⟨at_208, rfl⟩
theorem d0_209 : DAt B0 209 (.istore 19) 2 211 := ⟨at_209, rfl⟩
theorem d0_211 : DAt B0 211 (.iload 17) 2 213 := ⟨at_211, rfl⟩
theorem d0_213 : DAt B0 213 (.iconst 2) 1 214 := ⟨at_213, rfl⟩
theorem d0_214 : DAt B0 214 (.if_icmp .ne 7) 3 217 := ⟨at_214, rfl⟩
theorem d0_217 : DAt B0 217 (.iload_n 2) 1 218 := ⟨at_217, rfl⟩
theorem d0_218 : DAt B0 218 (.goto 4) 3 221 := ⟨at_218, rfl⟩
theorem d0_221 : DAt B0 221 (.iconst (-1)) 1 222 := ⟨at_221, rfl⟩
theorem d0_222 : DAt B0 222 (.istore 20) 2 224 := ⟨at_222, rfl⟩
theorem d0_224 : DAt B0 224 (.iconst 0) 1 225 := ⟨at_224, rfl⟩
theorem d0_225 : DAt B0 225 (.istore 21) 2 227 := ⟨at_225, rfl⟩
theorem d0_227 : DAt B0 227 (.iload 14) 2 229 := ⟨at_227, rfl⟩
theorem d0_229 : DAt B0 229 (.iconst 1) 1 230 := ⟨at_229, rfl⟩
theorem d0_230 : DAt B0 230 (.if_icmp .ne 17) 3 233 := ⟨at_230, rfl⟩
theorem d0_233 : DAt B0 233 (.iload_n 1) 1 234 := ⟨at_233, rfl⟩
theorem d0_234 : DAt B0 234 (.bipush 7) 2 236 := ⟨at_234, rfl⟩
theorem d0_236 : DAt B0 236 (.if_icmp .gt 11) 3 239 := ⟨at_236, rfl⟩
theorem d0_239 : DAt B0 239 (.iload 21) 2 241 := ⟨at_239, rfl⟩
theorem d0_241 : DAt B0 241 (.iconst 1) 1 242 := ⟨at_241, rfl⟩
theorem d0_242 : DAt B0 242 (.iload_n 1) 1 243 := ⟨at_242, rfl⟩
theorem d0_243 : DAt B0 243 (.ishl) 1 244 := ⟨at_243, rfl⟩
theorem d0_244 : DAt B0 244 (.ior) 1 245 := ⟨at_244, rfl⟩
theorem d0_245 : DAt B0 245 (.istore 21) 2 247 := ⟨at_245, rfl⟩
theorem d0_247 : DAt B0 247 (.iload 16) 2 249 := ⟨at_247, rfl⟩
theorem d0_249 : DAt B0 249 (.ifCond .ne 17) 3 252 := ⟨at_249, rfl⟩
theorem d0_252 : DAt B0 252 (.iload_n 2) 1 253 := ⟨at_252, rfl⟩
theorem d0_253 : DAt B0 253 (.bipush 7) 2 255 := ⟨at_253, rfl⟩
theorem d0_255 : DAt B0 255 (.if_icmp .gt 11) 3 258 := ⟨at_255, rfl⟩
theorem d0_258 : DAt B0 258 (.iload 21) 2 260 := ⟨at_258, rfl⟩
theorem d0_260 : DAt B0 260 (.iconst 1) 1 261 := ⟨at_260, rfl⟩
theorem d0_261 : DAt B0 261 (.iload_n 2) 1 262 := ⟨at_261, rfl⟩
theorem d0_262 : DAt B0 262 (.ishl) 1 263 := ⟨at_262, rfl⟩
theorem d0_263 : DAt B0 263 (.ior) 1 264 := ⟨at_263, rfl⟩
theorem d0_264 : DAt B0 264 (.istore 21) 2 266 := ⟨at_264, rfl⟩
theorem d0_266 : DAt B0 266 (.iload 4) 2 268 := ⟨at_266, rfl⟩
theorem d0_268 : DAt B0 268 (.iload 13) 2 270 := ⟨at_268, rfl⟩
theorem d0_270 : DAt B0 270 (.if_icmp .ne 70) 3 273 := ⟨at_270, rfl⟩
theorem d0_273 : DAt B0 273 (.iload 5) 2 275 := ⟨at_273, rfl⟩
theorem d0_275 : DAt B0 275 (.iload 16) 2 277 := ⟨at_275, rfl⟩
theorem d0_277 : DAt B0 277 (.if_icmp .ne 63) 3 280 := ⟨at_277, rfl⟩
theorem d0_280 : DAt B0 280 (.iload 6) 2 282 := ⟨at_280, rfl⟩
theorem d0_282 : DAt B0 282 (.iload 17) 2 284 := ⟨at_282, rfl⟩
theorem d0_284 : DAt B0 284 (.if_icmp .ne 56) 3 287 := ⟨at_284, rfl⟩
theorem d0_287 : DAt B0 287 (.iload 7) 2 289 := ⟨at_287, rfl⟩
theorem d0_289 : DAt B0 289 (.iload 18) 2 291 := ⟨at_289, rfl⟩
theorem d0_291 : DAt B0 291 (.if_icmp .ne 49) 3 294 := ⟨at_291, rfl⟩
theorem d0_294 : DAt B0 294 (.iload 8) 2 296 := ⟨at_294, rfl⟩
theorem d0_296 : DAt B0 296 (.iload 19) 2 298 := ⟨at_296, rfl⟩
theorem d0_298 : DAt B0 298 (.if_icmp .ne 42) 3 301 := ⟨at_298, rfl⟩
theorem d0_301 : DAt B0 301 (.iload 9) 2 303 := ⟨at_301, rfl⟩
theorem d0_303 : DAt B0 303 (.iload 20) 2 305 := ⟨at_303, rfl⟩
theorem d0_305 : DAt B0 305 (.if_icmp .ne 35) 3 308 := ⟨at_305, rfl⟩
theorem d0_308 : DAt B0 308 (.iload 10) 2 310 := ⟨at_308, rfl⟩
theorem d0_310 : DAt B0 310 (.iload 21) 2 312 := ⟨at_310, rfl⟩
theorem d0_312 : DAt B0 312 (.if_icmp .ne 28) 3 315 := ⟨at_312, rfl⟩
theorem d0_315 : DAt B0 315 (.iload 11) 2 317 := ⟨at_315, rfl⟩
theorem d0_317 : DAt B0 317 (.iload 18) 2 319 := ⟨at_317, rfl⟩
theorem d0_319 : DAt B0 319 (.iconst 1) 1 320 := ⟨at_319, rfl⟩
theorem d0_320 : DAt B0 320 (.if_icmp .ne 7) 3 323 := ⟨at_320, rfl⟩
theorem d0_323 : DAt B0 323 (.iconst 1) 1 324 := ⟨at_323, rfl⟩
theorem d0_324 : DAt B0 324 (.goto 4) 3 327 := ⟨at_324, rfl⟩
theorem d0_327 : DAt B0 327 (.iconst 0) 1 328 := ⟨at_327, rfl⟩
theorem d0_328 : DAt B0 328 (.if_icmp .ne 12) 3 331 := ⟨at_328, rfl⟩
theorem d0_331 : DAt B0 331 (.iload 12) 2 333 := ⟨at_331, rfl⟩
theorem d0_333 : DAt B0 333 (.ifCond .ne 7) 3 336 := ⟨at_333, rfl⟩
theorem d0_336 : DAt B0 336 (.iconst 1) 1 337 := ⟨at_336, rfl⟩
theorem d0_337 : DAt B0 337 (.goto 4) 3 340 := ⟨at_337, rfl⟩
theorem d0_340 : DAt B0 340 (.iconst 0) 1 341 := ⟨at_340, rfl⟩
theorem d0_341 : DAt B0 341 (.ireturn) 1 342 := ⟨at_341, rfl⟩
theorem ar1 : arity B1 1 := ⟨[.int], none, by decide +kernel, rfl⟩
theorem ar2 : arity B2 0 := ⟨[], none, by decide +kernel, rfl⟩
theorem ar3 : arity B3 1 := ⟨[.int], some .int, by decide +kernel, rfl⟩
theorem ar4 : arity B4 1 := ⟨[.int], some .int, by decide +kernel, rfl⟩
theorem ar5 : arity B5 0 := ⟨[], some .int, by decide +kernel, rfl⟩
theorem ar6 : arity B6 0 := ⟨[], some .int, by decide +kernel, rfl⟩
theorem ar7 : arity B7 1 := ⟨[.int], some .int, by decide +kernel, rfl⟩
theorem ar8 : arity B8 0 := ⟨[], some .int, by decide +kernel, rfl⟩
theorem ar9 : arity B9 0 := ⟨[], some .boolean, by decide +kernel, rfl⟩
theorem ar10 : arity B10 0 := ⟨[], some .boolean, by decide +kernel, rfl⟩
theorem ar11 : arity B11 0 := ⟨[], some .int, by decide +kernel, rfl⟩
theorem cw1 : code_w B1 := ⟨mem1 5 rfl, mem1 2 rfl, by decide⟩
theorem cw2 : code_w B2 := ⟨mem1 38 rfl, mem1 2 rfl, by decide⟩
theorem cw3 : code_w B3 := ⟨mem1 47 rfl, mem1 2 rfl, by decide⟩
theorem cw4 : code_w B4 := ⟨mem1 51 rfl, mem1 2 rfl, by decide⟩
theorem cw5 : code_w B5 := ⟨mem1 56 rfl, mem1 2 rfl, by decide⟩
theorem cw6 : code_w B6 := ⟨mem1 61 rfl, mem1 2 rfl, by decide⟩
theorem cw7 : code_w B7 := ⟨mem1 66 rfl, mem1 2 rfl, by decide⟩
theorem cw8 : code_w B8 := ⟨mem1 71 rfl, mem1 2 rfl, by decide⟩
theorem cw9 : code_w B9 := ⟨mem1 76 rfl, mem1 2 rfl, by decide⟩
theorem cw10 : code_w B10 := ⟨mem1 80 rfl, mem1 2 rfl, by decide⟩
theorem cw11 : code_w B11 := ⟨mem1 85 rfl, mem1 2 rfl, by decide⟩
theorem rk0_3_0 : room_ok B0 B3 0 := by decide
theorem rk0_5_0 : room_ok B0 B5 0 := by decide
theorem rk0_6_0 : room_ok B0 B6 0 := by decide
theorem rk0_7_0 : room_ok B0 B7 0 := by decide
theorem rk0_8_0 : room_ok B0 B8 0 := by decide
theorem rk0_9_0 : room_ok B0 B9 0 := by decide
theorem rk0_11_0 : room_ok B0 B11 0 := by decide
theorem rk1_2_0 : room_ok B1 B2 0 := by decide
theorem rk3_2_0 : room_ok B3 B2 0 := by decide
theorem rk3_4_0 : room_ok B3 B4 0 := by decide
theorem rk9_10_0 : room_ok B9 B10 0 := by decide
def X_resetResult (ob : Rec) : Option (Rec) :=
  some (sI (sI ob 5 (0 : Int32)) 6 (-1 : Int32))
set_option maxRecDepth 65536 in
set_option maxHeartbeats 4000000 in
theorem X_resetResult_p {C : Ctx} {top : Nat} {a : Nat} {H : List (Nat × Nat × Rec)} {res : Rec} (ob : Rec) (hf : X_resetResult ob = some res) : Runs C B2 0 0 0 [vr a] [] (top, (a, 6, ob) :: H) (Ans none (top, (a, 6, res) :: H)) := by
  delta X_resetResult at hf
  obtain rfl := Option.some.inj hf
  exact Runs.aloadN d2_0 rfl <| Runs.iconst d2_1 ci_0 <| Runs.putI d2_2 w39 fS_5 (Or.inl w40) <| Runs.aloadN d2_5 rfl <| Runs.iconst d2_6 ci_m1 <| Runs.putI d2_7 w41 fS_6 (Or.inl w42) <| Runs.retV d2_10 rfl ⟨by decide, by decide⟩ ⟨rfl, rfl⟩
theorem X_resetResult_pay {C : Ctx} {top : Nat} {a : Nat} {H : List (Nat × Nat × Rec)} {res : Rec} {ob : Rec} (hf : X_resetResult ob = some res) : Pays C B2 [.ref a] (top, (a, 6, ob) :: H) (Ans none (top, (a, 6, res) :: H)) :=
  Pays.of pnK (Nat.le_of_ble_eq_true rfl) (P := [vr a]) 0 rfl (X_resetResult_p ob hf)
def X_init_b70 (ob : Rec) (i2 : Int32) : Option (Rec) :=
  (X_resetResult (sI (sI (sI (sI (sI (sI ob 0 i2) 1 (0 : Int32)) 2 (0 : Int32)) 3 (0 : Int32)) 4 (0 : Int32)) 7 (0 : Int32))).bind fun q2 =>
  some q2
set_option maxRecDepth 65536 in
set_option maxHeartbeats 4000000 in
theorem X_init_b70_p {C : Ctx} {a : Nat} {H : List (Nat × Nat × Rec)} {res : Rec} (ob : Rec) (i2 : Int32) (hf : X_init_b70 ob i2 = some res) : Runs C B1 6 204 70 [vr a, vn, vi i2] [] (a + 1 + 6, (a, 6, ob) :: H) (Ans none (a + 1 + 6, (a, 6, res) :: H)) := by
  delta X_init_b70 at hf
  refine Runs.aloadN d1_70 rfl <| Runs.iloadN d1_71 rfl <| Runs.putI d1_72 w23 fS_0 (Or.inl w24) <| Runs.aloadN d1_75 rfl <| Runs.iconst d1_76 ci_0 <| Runs.putI d1_77 w25 fS_1 (Or.inl w26) <| Runs.aloadN d1_80 rfl <| Runs.iconst d1_81 ci_0 <| Runs.putI d1_82 w27 fS_2 (Or.inl w28) <| Runs.aloadN d1_85 rfl <| Runs.iconst d1_86 ci_0 <| Runs.putI d1_87 w29 fS_3 (Or.inl w30) <| ?_
  refine Runs.aloadN d1_90 rfl <| Runs.iconst d1_91 ci_0 <| Runs.putZ (y := (0 : Int32)) d1_92 w31 fS_4 (Or.inl w32) rfl <| Runs.aloadN d1_95 rfl <| Runs.iconst d1_96 ci_0 <| Runs.putZ (y := (0 : Int32)) d1_97 w33 fS_7 (Or.inl w34) rfl <| Runs.aloadN d1_100 rfl <| ?_
  refine bind_el hf fun q2 hg3 hf => ?_
  obtain rfl := Option.some.inj hf
  exact Runs.callP (N := B2) (W := 0) (as := []) (S' := []) d1_101 w35 w36 w37 rfl cw2 ar2 rk1_2_0 (by decide) rfl rfl (X_resetResult_pay hg3) <| ans0 <| Runs.retV d1_104 rfl ⟨by decide, by decide⟩ ⟨rfl, rfl⟩
def X_init_b61 (ob : Rec) (i2 : Int32) : Option (Rec) :=
  if (32 : Int32) < i2 then
    X_init_b70 ob (32 : Int32)
  else
    X_init_b70 ob i2
set_option maxRecDepth 65536 in
set_option maxHeartbeats 4000000 in
theorem X_init_b61_p {C : Ctx} {a : Nat} {H : List (Nat × Nat × Rec)} {res : Rec} (ob : Rec) (i2 : Int32) (hf : X_init_b61 ob i2 = some res) : Runs C B1 6 204 61 [vr a, vn, vi i2] [] (a + 1 + 6, (a, 6, ob) :: H) (Ans none (a + 1 + 6, (a, 6, res) :: H)) := by
  delta X_init_b61 at hf
  refine Runs.iloadN d1_61 rfl <| Runs.bipush d1_62 cb_32 <| ?_
  refine ite_el hf (fun hc1 hf => ?_) (fun hc1 hf => ?_)
  · refine Runs.icN d1_64 (tlt hc1).2.2.2 <| ?_
    exact Runs.bipush d1_67 cb_32 <| Runs.istoreN (P' := [vr a, vn, vi (32 : Int32)]) d1_69 (by decide) rfl <| X_init_b70_p ob (32 : Int32) hf
  · exact Runs.icY (pc' := 70) d1_64 (flt hc1).2.2.2 (by decide) <| X_init_b70_p ob i2 hf
def X_init (i1 : Int32) : Option (Rec) :=
  if i1 < (8 : Int32) then
    X_init_b61 zrec (8 : Int32)
  else
    X_init_b61 zrec i1
set_option maxRecDepth 65536 in
set_option maxHeartbeats 4000000 in
theorem X_init_p {C : Ctx} {a : Nat} {H : List (Nat × Nat × Rec)} {res : Rec} (i1 : Int32) (hf : X_init i1 = some res) : Runs C B1 0 0 0 [vr a, vi i1, vn] [] (a + 1, (a, 0, zrec) :: H) (Ans none (a + 1 + 6, (a, 6, res) :: H)) := by
  delta X_init at hf
  refine Runs.aloadN d1_0 rfl <| Runs.initO (W := 0) d1_1 w6 w7 w8 rfl (by decide) <| Runs.aloadN d1_4 rfl <| Runs.bipush d1_5 cb_32 <| Runs.newArr (j' := 1) (top' := a + 1 + 1) (k' := 1) (n' := 32) d1_7 d1_9 fA_0 w10 rfl w9 (Or.inr ⟨rfl, rfl⟩) rfl (by decide) ⟨by decide, by decide⟩ ⟨fun _ => rfl, fun _ => rfl⟩ rfl rfl rfl (by decide) <| Runs.aloadN d1_12 rfl <| Runs.bipush d1_13 cb_32 <| Runs.newArr (j' := 2) (top' := a + 1 + 2) (k' := 2) (n' := 64) d1_15 d1_17 fA_1 w12 rfl w9 (Or.inr ⟨rfl, rfl⟩) rfl (by decide) ⟨by decide, by decide⟩ ⟨fun _ => rfl, fun _ => rfl⟩ rfl rfl rfl (by decide) <| Runs.aloadN d1_20 rfl <| Runs.sipush d1_21 cs_128 <| Runs.newArr (j' := 3) (top' := a + 1 + 3) (k' := 3) (n' := 192) d1_24 d1_26 fA_2 w15 rfl w14 (Or.inr ⟨rfl, rfl⟩) rfl (by decide) ⟨by decide, by decide⟩ ⟨fun _ => rfl, fun _ => rfl⟩ rfl rfl rfl (by decide) <| Runs.aloadN d1_29 rfl <| ?_
  refine Runs.iconst d1_30 ci_4 <| Runs.newArr (j' := 4) (top' := a + 1 + 4) (k' := 4) (n' := 196) d1_31 d1_33 fA_3 w17 rfl w14 (Or.inr ⟨rfl, rfl⟩) rfl (by decide) ⟨by decide, by decide⟩ ⟨fun _ => rfl, fun _ => rfl⟩ rfl rfl rfl (by decide) <| Runs.aloadN d1_36 rfl <| Runs.iconst d1_37 ci_4 <| Runs.newArr (j' := 5) (top' := a + 1 + 5) (k' := 5) (n' := 200) d1_38 d1_40 fA_4 w19 rfl w14 (Or.inr ⟨rfl, rfl⟩) rfl (by decide) ⟨by decide, by decide⟩ ⟨fun _ => rfl, fun _ => rfl⟩ rfl rfl rfl (by decide) <| Runs.aloadN d1_43 rfl <| Runs.iconst d1_44 ci_4 <| Runs.newArr (j' := 6) (top' := a + 1 + 6) (k' := 6) (n' := 204) d1_45 d1_47 fA_5 w21 rfl w14 (Or.inr ⟨rfl, rfl⟩) rfl (by decide) ⟨by decide, by decide⟩ ⟨fun _ => rfl, fun _ => rfl⟩ rfl rfl rfl (by decide) <| Runs.iloadN d1_50 rfl <| Runs.istoreN (P' := [vr a, vi i1, vi i1]) d1_51 (by decide) rfl <| Runs.iloadN d1_52 rfl <| Runs.bipush d1_53 cb_8 <| ?_
  refine ite_el hf (fun hc4 hf => ?_) (fun hc4 hf => ?_)
  · refine Runs.icN d1_55 (tlt hc4).2.1 <| ?_
    exact Runs.bipush d1_58 cb_8 <| Runs.istoreN (P' := [vr a, vi i1, vi (8 : Int32)]) d1_60 (by decide) rfl <| Runs.forget [true, false, true] rfl <| X_init_b61_p zrec (8 : Int32) hf
  · exact Runs.icY (pc' := 61) d1_55 (flt hc4).2.1 (by decide) <| Runs.forget [true, false, true] rfl <| X_init_b61_p zrec i1 hf
theorem X_init_pay {C : Ctx} {a : Nat} {H : List (Nat × Nat × Rec)} {res : Rec} {i1 : Int32} (hf : X_init i1 = some res) : Pays C B1 [.ref a, .int i1] (a + 1, (a, 0, zrec) :: H) (Ans none (a + 1 + 6, (a, 6, res) :: H)) :=
  Pays.of pnK (Nat.le_of_ble_eq_true rfl) (P := [vr a, vi i1, vn]) 1 rfl (X_init_p i1 hf)
def X_arity (ob : Rec) (i1 : Int32) : Option (Int32) :=
  if (9 : Int32) < i1 then
    if i1 = (10 : Int32) then
      some (1 : Int32)
    else
      some (2 : Int32)
  else
    some (0 : Int32)
set_option maxRecDepth 65536 in
set_option maxHeartbeats 4000000 in
theorem X_arity_p {C : Ctx} {top : Nat} {a : Nat} {H : List (Nat × Nat × Rec)} {ob : Rec} {res : Int32} (i1 : Int32) (hf : X_arity ob i1 = some res) : Runs C B4 0 0 0 [vr a, vi i1] [] (top, (a, 6, ob) :: H) (Ans (some (.int res)) (top, (a, 6, ob) :: H)) := by
  delta X_arity at hf
  refine Runs.iloadN d4_0 rfl <| Runs.bipush d4_1 cb_9 <| ?_
  refine ite_el hf (fun hc1 hf => ?_) (fun hc1 hf => ?_)
  · refine Runs.icY (pc' := 8) d4_3 (tlt hc1).2.2.1 (by decide) <| ?_
    refine Runs.iloadN d4_8 rfl <| Runs.bipush d4_9 cb_10 <| ?_
    refine ite_el hf (fun hc2 hf => ?_) (fun hc2 hf => ?_)
    · refine Runs.icN d4_11 (teq hc2).2 <| ?_
      obtain rfl := Option.some.inj hf
      exact Runs.iconst d4_14 ci_1 <| Runs.retI d4_15 rfl ⟨by decide, by decide⟩ ⟨rfl, rfl⟩
    · refine Runs.icY (pc' := 16) d4_11 (feq hc2).2 (by decide) <| ?_
      obtain rfl := Option.some.inj hf
      exact Runs.iconst d4_16 ci_2 <| Runs.retI d4_17 rfl ⟨by decide, by decide⟩ ⟨rfl, rfl⟩
  · refine Runs.icN d4_3 (flt hc1).2.2.1 <| ?_
    obtain rfl := Option.some.inj hf
    exact Runs.iconst d4_6 ci_0 <| Runs.retI d4_7 rfl ⟨by decide, by decide⟩ ⟨rfl, rfl⟩
theorem X_arity_pay {C : Ctx} {top : Nat} {a : Nat} {H : List (Nat × Nat × Rec)} {ob : Rec} {res : Int32} {i1 : Int32} (hf : X_arity ob i1 = some res) : Pays C B4 [.ref a, .int i1] (top, (a, 6, ob) :: H) (Ans (some (.int res)) (top, (a, 6, ob) :: H)) :=
  Pays.of pnK (Nat.le_of_ble_eq_true rfl) (P := [vr a, vi i1]) 0 rfl (X_arity_p i1 hf)
def X_pushToken (ob : Rec) (i1 : Int32) : Option (Int32 × Rec) :=
  if i1 < (0 : Int32) then
    some ((-1 : Int32), ob)
  else
    if (15 : Int32) < i1 then
      some ((-1 : Int32), ob)
    else
      if (gI ob 1) < (gI ob 0) then
        (X_arity ob i1).bind fun r4 =>
        if (gI ob 2) < r4 then
          some ((-3 : Int32), ob)
        else
          chk (32 : Int32) (gI ob 1) <|
          (X_resetResult (sI (sI (sI (sA ob 0 (gI ob 1) i1) 1 ((gI ob 1) + (1 : Int32))) 2 (((gI ob 2) + (1 : Int32)) - r4)) 7 (0 : Int32))).bind fun q8 =>
          some ((0 : Int32), q8)
      else
        some ((-2 : Int32), ob)
set_option maxRecDepth 65536 in
set_option maxHeartbeats 4000000 in
theorem X_pushToken_p {C : Ctx} {top : Nat} {a : Nat} {H : List (Nat × Nat × Rec)} {res : Int32 × Rec} (ob : Rec) (i1 : Int32) (hf : X_pushToken ob i1 = some res) : Runs C B3 0 0 0 [vr a, vi i1, vn] [] (top, (a, 6, ob) :: H) (Ans (some (.int res.1)) (top, (a, 6, res.2) :: H)) := by
  delta X_pushToken at hf
  refine Runs.iloadN d3_0 rfl <| ?_
  refine ite_el hf (fun hc1 hf => ?_) (fun hc1 hf => ?_)
  · refine Runs.ifY (pc' := 10) d3_1 (tlt hc1).1 (by decide) <| ?_
    obtain rfl := Option.some.inj hf
    exact Runs.iconst d3_10 ci_m1 <| Runs.retI d3_11 rfl ⟨by decide, by decide⟩ ⟨rfl, rfl⟩
  · refine Runs.ifN d3_1 (flt hc1).1 <| ?_
    refine Runs.iloadN d3_4 rfl <| Runs.bipush d3_5 cb_15 <| ?_
    refine ite_el hf (fun hc2 hf => ?_) (fun hc2 hf => ?_)
    · refine Runs.icN d3_7 (tlt hc2).2.2.2 <| ?_
      obtain rfl := Option.some.inj hf
      exact Runs.iconst d3_10 ci_m1 <| Runs.retI d3_11 rfl ⟨by decide, by decide⟩ ⟨rfl, rfl⟩
    · refine Runs.icY (pc' := 12) d3_7 (flt hc2).2.2.2 (by decide) <| ?_
      refine Runs.aloadN d3_12 rfl <| Runs.getI d3_13 w25 fS_1 <| Runs.aloadN d3_16 rfl <| Runs.getI d3_17 w23 fS_0 <| ?_
      refine ite_el hf (fun hc3 hf => ?_) (fun hc3 hf => ?_)
      · refine Runs.icY (pc' := 26) d3_20 (tlt hc3).1 (by decide) <| ?_
        refine Runs.aloadN d3_26 rfl <| Runs.iloadN d3_27 rfl <| ?_
        refine bind_el hf fun r4 hg5 hf => ?_
        refine Runs.callP (N := B4) (W := 0) (as := [.int i1]) (S' := []) d3_28 w48 w49 w50 rfl cw4 ar4 rk3_4_0 (by decide) rfl rfl (X_arity_pay hg5) <| ans1 <| Runs.istoreN (P' := [vr a, vi i1, vi r4]) d3_31 (by decide) rfl <| Runs.iloadN d3_32 rfl <| Runs.aloadN d3_33 rfl <| Runs.getI d3_34 w27 fS_2 <| ?_
        refine ite_el hf (fun hc6 hf => ?_) (fun hc6 hf => ?_)
        · refine Runs.icN d3_37 (tlt hc6).2.2.2 <| ?_
          obtain rfl := Option.some.inj hf
          exact Runs.bipush d3_40 cb_m3 <| Runs.retI d3_42 rfl ⟨by decide, by decide⟩ ⟨rfl, rfl⟩
        · refine Runs.icY (pc' := 43) d3_37 (flt hc6).2.2.2 (by decide) <| ?_
          refine Runs.aloadN d3_43 rfl <| Runs.getA d3_44 fA_0 w10 (by decide) <| Runs.aloadN d3_47 rfl <| Runs.getI d3_48 w25 fS_1 <| Runs.iloadN d3_51 rfl <| ?_
          refine chk_el hf fun hi7 hf => ?_
          refine Runs.iastoreA d3_52 fA_0 (by decide) hi7 <| Runs.aloadN d3_53 rfl <| Runs.aloadN d3_54 rfl <| Runs.getI d3_55 w25 fS_1 <| Runs.iconst d3_58 ci_1 <| Runs.iadd d3_59 <| Runs.putI d3_60 w25 fS_1 (Or.inl w26) <| Runs.aloadN d3_63 rfl <| Runs.aloadN d3_64 rfl <| Runs.getI d3_65 w27 fS_2 <| Runs.iconst d3_68 ci_1 <| Runs.iadd d3_69 <| ?_
          refine Runs.iloadN d3_70 rfl <| Runs.isub d3_71 <| Runs.putI d3_72 w27 fS_2 (Or.inl w28) <| Runs.aloadN d3_75 rfl <| Runs.iconst d3_76 ci_0 <| Runs.putZ (y := (0 : Int32)) d3_77 w33 fS_7 (Or.inl w34) rfl <| Runs.aloadN d3_80 rfl <| ?_
          refine bind_el hf fun q8 hg9 hf => ?_
          obtain rfl := Option.some.inj hf
          exact Runs.callP (N := B2) (W := 0) (as := []) (S' := []) d3_81 w35 w36 w37 rfl cw2 ar2 rk3_2_0 (by decide) rfl rfl (X_resetResult_pay hg9) <| ans0 <| Runs.iconst d3_84 ci_0 <| Runs.retI d3_85 rfl ⟨by decide, by decide⟩ ⟨rfl, rfl⟩
      · refine Runs.icN d3_20 (flt hc3).1 <| ?_
        obtain rfl := Option.some.inj hf
        exact Runs.bipush d3_23 cb_m2 <| Runs.retI d3_25 rfl ⟨by decide, by decide⟩ ⟨rfl, rfl⟩
theorem X_pushToken_pay {C : Ctx} {top : Nat} {a : Nat} {H : List (Nat × Nat × Rec)} {res : Int32 × Rec} {ob : Rec} {i1 : Int32} (hf : X_pushToken ob i1 = some res) : Pays C B3 [.ref a, .int i1] (top, (a, 6, ob) :: H) (Ans (some (.int res.1)) (top, (a, 6, res.2) :: H)) :=
  Pays.of pnK (Nat.le_of_ble_eq_true rfl) (P := [vr a, vi i1, vn]) 1 rfl (X_pushToken_p ob i1 hf)
def X_length (ob : Rec) : Option (Int32) :=
  some (gI ob 1)
set_option maxRecDepth 65536 in
set_option maxHeartbeats 4000000 in
theorem X_length_p {C : Ctx} {top : Nat} {a : Nat} {H : List (Nat × Nat × Rec)} {ob : Rec} {res : Int32} (hf : X_length ob = some res) : Runs C B5 0 0 0 [vr a] [] (top, (a, 6, ob) :: H) (Ans (some (.int res)) (top, (a, 6, ob) :: H)) := by
  delta X_length at hf
  obtain rfl := Option.some.inj hf
  exact Runs.aloadN d5_0 rfl <| Runs.getI d5_1 w25 fS_1 <| Runs.retI d5_4 rfl ⟨by decide, by decide⟩ ⟨rfl, rfl⟩
theorem X_length_pay {C : Ctx} {top : Nat} {a : Nat} {H : List (Nat × Nat × Rec)} {ob : Rec} {res : Int32} (hf : X_length ob = some res) : Pays C B5 [.ref a] (top, (a, 6, ob) :: H) (Ans (some (.int res)) (top, (a, 6, ob) :: H)) :=
  Pays.of pnK (Nat.le_of_ble_eq_true rfl) (P := [vr a]) 0 rfl (X_length_p hf)
def X_depth (ob : Rec) : Option (Int32) :=
  some (gI ob 2)
set_option maxRecDepth 65536 in
set_option maxHeartbeats 4000000 in
theorem X_depth_p {C : Ctx} {top : Nat} {a : Nat} {H : List (Nat × Nat × Rec)} {ob : Rec} {res : Int32} (hf : X_depth ob = some res) : Runs C B6 0 0 0 [vr a] [] (top, (a, 6, ob) :: H) (Ans (some (.int res)) (top, (a, 6, ob) :: H)) := by
  delta X_depth at hf
  obtain rfl := Option.some.inj hf
  exact Runs.aloadN d6_0 rfl <| Runs.getI d6_1 w27 fS_2 <| Runs.retI d6_4 rfl ⟨by decide, by decide⟩ ⟨rfl, rfl⟩
theorem X_depth_pay {C : Ctx} {top : Nat} {a : Nat} {H : List (Nat × Nat × Rec)} {ob : Rec} {res : Int32} (hf : X_depth ob = some res) : Pays C B6 [.ref a] (top, (a, 6, ob) :: H) (Ans (some (.int res)) (top, (a, 6, ob) :: H)) :=
  Pays.of pnK (Nat.le_of_ble_eq_true rfl) (P := [vr a]) 0 rfl (X_depth_p hf)
def X_tokenAt (ob : Rec) (i1 : Int32) : Option (Int32) :=
  if i1 < (0 : Int32) then
    some (-1 : Int32)
  else
    if i1 < (gI ob 1) then
      chk (32 : Int32) i1 <|
      some (gA ob 0 i1)
    else
      some (-1 : Int32)
set_option maxRecDepth 65536 in
set_option maxHeartbeats 4000000 in
theorem X_tokenAt_p {C : Ctx} {top : Nat} {a : Nat} {H : List (Nat × Nat × Rec)} {ob : Rec} {res : Int32} (i1 : Int32) (hf : X_tokenAt ob i1 = some res) : Runs C B7 0 0 0 [vr a, vi i1] [] (top, (a, 6, ob) :: H) (Ans (some (.int res)) (top, (a, 6, ob) :: H)) := by
  delta X_tokenAt at hf
  refine Runs.iloadN d7_0 rfl <| ?_
  refine ite_el hf (fun hc1 hf => ?_) (fun hc1 hf => ?_)
  · refine Runs.ifY (pc' := 12) d7_1 (tlt hc1).1 (by decide) <| ?_
    obtain rfl := Option.some.inj hf
    exact Runs.iconst d7_12 ci_m1 <| Runs.retI d7_13 rfl ⟨by decide, by decide⟩ ⟨rfl, rfl⟩
  · refine Runs.ifN d7_1 (flt hc1).1 <| ?_
    refine Runs.iloadN d7_4 rfl <| Runs.aloadN d7_5 rfl <| Runs.getI d7_6 w25 fS_1 <| ?_
    refine ite_el hf (fun hc2 hf => ?_) (fun hc2 hf => ?_)
    · refine Runs.icY (pc' := 14) d7_9 (tlt hc2).1 (by decide) <| ?_
      refine Runs.aloadN d7_14 rfl <| Runs.getA d7_15 fA_0 w10 (by decide) <| Runs.iloadN d7_18 rfl <| ?_
      refine chk_el hf fun hi3 hf => ?_
      obtain rfl := Option.some.inj hf
      exact Runs.ialoadA d7_19 fA_0 (by decide) hi3 <| Runs.retI d7_20 rfl ⟨by decide, by decide⟩ ⟨rfl, rfl⟩
    · refine Runs.icN d7_9 (flt hc2).1 <| ?_
      obtain rfl := Option.some.inj hf
      exact Runs.iconst d7_12 ci_m1 <| Runs.retI d7_13 rfl ⟨by decide, by decide⟩ ⟨rfl, rfl⟩
theorem X_tokenAt_pay {C : Ctx} {top : Nat} {a : Nat} {H : List (Nat × Nat × Rec)} {ob : Rec} {res : Int32} {i1 : Int32} (hf : X_tokenAt ob i1 = some res) : Pays C B7 [.ref a, .int i1] (top, (a, 6, ob) :: H) (Ans (some (.int res)) (top, (a, 6, ob) :: H)) :=
  Pays.of pnK (Nat.le_of_ble_eq_true rfl) (P := [vr a, vi i1]) 0 rfl (X_tokenAt_p i1 hf)
def X_usedVars_w4 (NF : Nat) (ob : Rec) (k4 : Int32 → Int32 → Option (Int32)) (i1 : Int32) (i2 : Int32) : Option (Int32) :=
  if i2 < (gI ob 1) then
    if i2 < (32 : Int32) then
      chk (32 : Int32) i2 <|
      if (gA ob 0 i2) < (0 : Int32) then
        k4 i1 (i2 + (1 : Int32))
      else
        if (gA ob 0 i2) < (8 : Int32) then
          k4 (i1 ||| ((1 : Int32) <<< ((gA ob 0 i2) &&& 31))) (i2 + (1 : Int32))
        else
          k4 i1 (i2 + (1 : Int32))
    else
      some i1
  else
    some i1
def X_usedVars_l4 (NF : Nat) (ob : Rec) : Nat → Int32 → Int32 → Option (Int32)
  | 0, _, _ => none
  | n + 1, i1, i2 => X_usedVars_w4 NF ob (X_usedVars_l4 NF ob n) i1 i2
set_option maxRecDepth 65536 in
set_option maxHeartbeats 4000000 in
theorem X_usedVars_w4_p {C : Ctx} {top : Nat} {a : Nat} {H : List (Nat × Nat × Rec)} {ob : Rec} {res : Int32} {NF : Nat} (k4 : Int32 → Int32 → Option (Int32)) (hk4 : ∀ (i1 : Int32) (i2 : Int32), k4 i1 i2 = some res → Runs C B8 0 0 4 [vr a, vi i1, vi i2, vn] [] (top, (a, 6, ob) :: H) (Ans (some (.int res)) (top, (a, 6, ob) :: H))) (i1 : Int32) (i2 : Int32) (hf : X_usedVars_w4 NF ob k4 i1 i2 = some res) : Runs C B8 0 0 4 [vr a, vi i1, vi i2, vn] [] (top, (a, 6, ob) :: H) (Ans (some (.int res)) (top, (a, 6, ob) :: H)) := by
  delta X_usedVars_w4 at hf
  refine Runs.iloadN d8_4 rfl <| Runs.aloadN d8_5 rfl <| Runs.getI d8_6 w25 fS_1 <| ?_
  refine ite_el hf (fun hc1 hf => ?_) (fun hc1 hf => ?_)
  · refine Runs.icN d8_9 (tlt hc1).2.1 <| ?_
    refine Runs.iloadN d8_12 rfl <| Runs.bipush d8_13 cb_32 <| ?_
    refine ite_el hf (fun hc2 hf => ?_) (fun hc2 hf => ?_)
    · refine Runs.icN d8_15 (tlt hc2).2.1 <| ?_
      refine Runs.aloadN d8_18 rfl <| Runs.getA d8_19 fA_0 w10 (by decide) <| Runs.iloadN d8_22 rfl <| ?_
      refine chk_el hf fun hi3 hf => ?_
      refine Runs.ialoadA d8_23 fA_0 (by decide) hi3 <| Runs.istoreN (P' := [vr a, vi i1, vi i2, vi (gA ob 0 i2)]) d8_24 (by decide) rfl <| Runs.iloadN d8_25 rfl <| ?_
      refine ite_el hf (fun hc4 hf => ?_) (fun hc4 hf => ?_)
      · refine Runs.ifY (pc' := 41) d8_26 (tlt hc4).1 (by decide) <| ?_
        exact Runs.iinc (P' := [vr a, vi i1, vi (i2 + (1 : Int32)), vi (gA ob 0 i2)]) d8_41 ci_1 rfl (by decide) rfl <| Runs.goto (pc' := 4) d8_44 (by decide) <| Runs.forget [true, true, true, false] rfl <| hk4 i1 (i2 + (1 : Int32)) hf
      · refine Runs.ifN d8_26 (flt hc4).1 <| ?_
        refine Runs.iloadN d8_29 rfl <| Runs.bipush d8_30 cb_8 <| ?_
        refine ite_el hf (fun hc5 hf => ?_) (fun hc5 hf => ?_)
        · refine Runs.icN d8_32 (tlt hc5).2.1 <| ?_
          exact Runs.iloadN d8_35 rfl <| Runs.iconst d8_36 ci_1 <| Runs.iloadN d8_37 rfl <| Runs.ishl d8_38 <| Runs.ior d8_39 <| Runs.istoreN (P' := [vr a, vi (i1 ||| ((1 : Int32) <<< ((gA ob 0 i2) &&& 31))), vi i2, vi (gA ob 0 i2)]) d8_40 (by decide) rfl <| Runs.iinc (P' := [vr a, vi (i1 ||| ((1 : Int32) <<< ((gA ob 0 i2) &&& 31))), vi (i2 + (1 : Int32)), vi (gA ob 0 i2)]) d8_41 ci_1 rfl (by decide) rfl <| Runs.goto (pc' := 4) d8_44 (by decide) <| Runs.forget [true, true, true, false] rfl <| hk4 (i1 ||| ((1 : Int32) <<< ((gA ob 0 i2) &&& 31))) (i2 + (1 : Int32)) hf
        · refine Runs.icY (pc' := 41) d8_32 (flt hc5).2.1 (by decide) <| ?_
          exact Runs.iinc (P' := [vr a, vi i1, vi (i2 + (1 : Int32)), vi (gA ob 0 i2)]) d8_41 ci_1 rfl (by decide) rfl <| Runs.goto (pc' := 4) d8_44 (by decide) <| Runs.forget [true, true, true, false] rfl <| hk4 i1 (i2 + (1 : Int32)) hf
    · refine Runs.icY (pc' := 47) d8_15 (flt hc2).2.1 (by decide) <| ?_
      obtain rfl := Option.some.inj hf
      exact Runs.iloadN d8_47 rfl <| Runs.retI d8_48 rfl ⟨by decide, by decide⟩ ⟨rfl, rfl⟩
  · refine Runs.icY (pc' := 47) d8_9 (flt hc1).2.1 (by decide) <| ?_
    obtain rfl := Option.some.inj hf
    exact Runs.iloadN d8_47 rfl <| Runs.retI d8_48 rfl ⟨by decide, by decide⟩ ⟨rfl, rfl⟩
theorem X_usedVars_l4_p {C : Ctx} {top : Nat} {a : Nat} {H : List (Nat × Nat × Rec)} {ob : Rec} {res : Int32} {NF : Nat} (n : Nat) (i1 : Int32) (i2 : Int32) (hf : X_usedVars_l4 NF ob n i1 i2 = some res) : Runs C B8 0 0 4 [vr a, vi i1, vi i2, vn] [] (top, (a, 6, ob) :: H) (Ans (some (.int res)) (top, (a, 6, ob) :: H)) := by
  induction n generalizing i1 i2 with
  | zero => cases (show (none : Option (Int32)) = some res from hf)
  | succ n ih => exact X_usedVars_w4_p (X_usedVars_l4 NF ob n) (fun i1 i2 h => ih _ _ h) i1 i2 hf
def X_usedVars (NF : Nat) (ob : Rec) : Option (Int32) :=
  X_usedVars_l4 NF ob NF (0 : Int32) (0 : Int32)
set_option maxRecDepth 65536 in
set_option maxHeartbeats 4000000 in
theorem X_usedVars_p {C : Ctx} {top : Nat} {a : Nat} {H : List (Nat × Nat × Rec)} {ob : Rec} {res : Int32} {NF : Nat} (hf : X_usedVars NF ob = some res) : Runs C B8 0 0 0 [vr a, vn, vn, vn] [] (top, (a, 6, ob) :: H) (Ans (some (.int res)) (top, (a, 6, ob) :: H)) := by
  delta X_usedVars at hf
  exact Runs.iconst d8_0 ci_0 <| Runs.istoreN (P' := [vr a, vi (0 : Int32), vn, vn]) d8_1 (by decide) rfl <| Runs.iconst d8_2 ci_0 <| Runs.istoreN (P' := [vr a, vi (0 : Int32), vi (0 : Int32), vn]) d8_3 (by decide) rfl <| X_usedVars_l4_p NF (0 : Int32) (0 : Int32) hf
theorem X_usedVars_pay {C : Ctx} {top : Nat} {a : Nat} {H : List (Nat × Nat × Rec)} {ob : Rec} {res : Int32} {NF : Nat} (hf : X_usedVars NF ob = some res) : Pays C B8 [.ref a] (top, (a, 6, ob) :: H) (Ans (some (.int res)) (top, (a, 6, ob) :: H)) :=
  Pays.of pnK (Nat.le_of_ble_eq_true rfl) (P := [vr a, vn, vn, vn]) 3 rfl (X_usedVars_p hf)
def X_completeF (ob : Rec) : Option (Int32) :=
  if (gI ob 2) = (1 : Int32) then
    some (1 : Int32)
  else
    some (0 : Int32)
set_option maxRecDepth 65536 in
set_option maxHeartbeats 4000000 in
theorem X_completeF_p {C : Ctx} {top : Nat} {a : Nat} {H : List (Nat × Nat × Rec)} {ob : Rec} {res : Int32} (hf : X_completeF ob = some res) : Runs C B10 0 0 0 [vr a] [] (top, (a, 6, ob) :: H) (Ans (some (.int res)) (top, (a, 6, ob) :: H)) := by
  delta X_completeF at hf
  refine Runs.aloadN d10_0 rfl <| Runs.getI d10_1 w27 fS_2 <| Runs.iconst d10_4 ci_1 <| ?_
  refine ite_el hf (fun hc1 hf => ?_) (fun hc1 hf => ?_)
  · refine Runs.icN d10_5 (teq hc1).2 <| ?_
    obtain rfl := Option.some.inj hf
    exact Runs.iconst d10_8 ci_1 <| Runs.goto (pc' := 13) d10_9 (by decide) <| Runs.retZ (y := (1 : Int32)) d10_13 rfl ⟨by decide, by decide⟩ rfl ⟨rfl, rfl⟩
  · refine Runs.icY (pc' := 12) d10_5 (feq hc1).2 (by decide) <| ?_
    obtain rfl := Option.some.inj hf
    exact Runs.iconst d10_12 ci_0 <| Runs.retZ (y := (0 : Int32)) d10_13 rfl ⟨by decide, by decide⟩ rfl ⟨rfl, rfl⟩
theorem X_completeF_pay {C : Ctx} {top : Nat} {a : Nat} {H : List (Nat × Nat × Rec)} {ob : Rec} {res : Int32} (hf : X_completeF ob = some res) : Pays C B10 [.ref a] (top, (a, 6, ob) :: H) (Ans (some (.int res)) (top, (a, 6, ob) :: H)) :=
  Pays.of pnK (Nat.le_of_ble_eq_true rfl) (P := [vr a]) 0 rfl (X_completeF_p hf)
def X_isComplete (ob : Rec) : Option (Int32) :=
  (X_completeF ob).bind fun r1 =>
  some (r1 &&& 1)
set_option maxRecDepth 65536 in
set_option maxHeartbeats 4000000 in
theorem X_isComplete_p {C : Ctx} {top : Nat} {a : Nat} {H : List (Nat × Nat × Rec)} {ob : Rec} {res : Int32} (hf : X_isComplete ob = some res) : Runs C B9 0 0 0 [vr a] [] (top, (a, 6, ob) :: H) (Ans (some (.int res)) (top, (a, 6, ob) :: H)) := by
  delta X_isComplete at hf
  refine Runs.aloadN d9_0 rfl <| ?_
  refine bind_el hf fun r1 hg2 hf => ?_
  obtain rfl := Option.some.inj hf
  exact Runs.callP (N := B10) (W := 0) (as := []) (S' := []) d9_1 w77 w78 w79 rfl cw10 ar10 rk9_10_0 (by decide) rfl rfl (X_completeF_pay hg2) <| ans1 <| Runs.retZ (y := (r1 &&& 1)) d9_4 rfl ⟨by decide, by decide⟩ rfl ⟨rfl, rfl⟩
theorem X_isComplete_pay {C : Ctx} {top : Nat} {a : Nat} {H : List (Nat × Nat × Rec)} {ob : Rec} {res : Int32} (hf : X_isComplete ob = some res) : Pays C B9 [.ref a] (top, (a, 6, ob) :: H) (Ans (some (.int res)) (top, (a, 6, ob) :: H)) :=
  Pays.of pnK (Nat.le_of_ble_eq_true rfl) (P := [vr a]) 0 rfl (X_isComplete_p hf)
def X_lastResult (ob : Rec) : Option (Int32) :=
  some (gI ob 5)
set_option maxRecDepth 65536 in
set_option maxHeartbeats 4000000 in
theorem X_lastResult_p {C : Ctx} {top : Nat} {a : Nat} {H : List (Nat × Nat × Rec)} {ob : Rec} {res : Int32} (hf : X_lastResult ob = some res) : Runs C B11 0 0 0 [vr a] [] (top, (a, 6, ob) :: H) (Ans (some (.int res)) (top, (a, 6, ob) :: H)) := by
  delta X_lastResult at hf
  obtain rfl := Option.some.inj hf
  exact Runs.aloadN d11_0 rfl <| Runs.getI d11_1 w39 fS_5 <| Runs.retI d11_4 rfl ⟨by decide, by decide⟩ ⟨rfl, rfl⟩
theorem X_lastResult_pay {C : Ctx} {top : Nat} {a : Nat} {H : List (Nat × Nat × Rec)} {ob : Rec} {res : Int32} (hf : X_lastResult ob = some res) : Pays C B11 [.ref a] (top, (a, 6, ob) :: H) (Ans (some (.int res)) (top, (a, 6, ob) :: H)) :=
  Pays.of pnK (Nat.le_of_ble_eq_true rfl) (P := [vr a]) 0 rfl (X_lastResult_p hf)
def L_law_b328 (NF : Nat) (ob : Rec) (i12 : Int32) (t0 : Int32) (t1 : Int32) : Option (Int32) :=
  if t0 = t1 then
    if i12 = (0 : Int32) then
      some (1 : Int32)
    else
      some (0 : Int32)
  else
    some (0 : Int32)
set_option maxRecDepth 65536 in
set_option maxHeartbeats 4000000 in
theorem L_law_b328_p {C : Ctx} {res : Int32} {NF : Nat} (ob : Rec) (i12 : Int32) (t0 : Int32) (t1 : Int32) (hf : L_law_b328 NF ob i12 t0 t1 = some res) : Runs C B0 7 218 328 [vn, vn, vn, vn, vn, vn, vn, vn, vn, vn, vn, vn, vi i12, vn, vn, vn, vn, vn, vn, vn, vn, vn] [.int t1, .int t0] (C.2.2.1 + 1 + 6, (C.2.2.1, 6, ob) :: []) (fun v _ => v = (some (.int res))) := by
  delta L_law_b328 at hf
  refine ite_el hf (fun hc23 hf => ?_) (fun hc23 hf => ?_)
  · refine Runs.icN d0_328 (teq hc23).2 <| ?_
    refine Runs.iload d0_331 rfl <| ?_
    refine ite_el hf (fun hc24 hf => ?_) (fun hc24 hf => ?_)
    · refine Runs.ifN d0_333 (teq hc24).2 <| ?_
      obtain rfl := Option.some.inj hf
      exact Runs.iconst d0_336 ci_1 <| Runs.goto (pc' := 341) d0_337 (by decide) <| Runs.retZ (y := (1 : Int32)) d0_341 rfl ⟨by decide, by decide⟩ rfl rfl
    · refine Runs.ifY (pc' := 340) d0_333 (feq hc24).2 (by decide) <| ?_
      obtain rfl := Option.some.inj hf
      exact Runs.iconst d0_340 ci_0 <| Runs.retZ (y := (0 : Int32)) d0_341 rfl ⟨by decide, by decide⟩ rfl rfl
  · refine Runs.icY (pc' := 340) d0_328 (feq hc23).2 (by decide) <| ?_
    obtain rfl := Option.some.inj hf
    exact Runs.iconst d0_340 ci_0 <| Runs.retZ (y := (0 : Int32)) d0_341 rfl ⟨by decide, by decide⟩ rfl rfl
def L_law_b266 (NF : Nat) (ob : Rec) (i4 : Int32) (i5 : Int32) (i6 : Int32) (i7 : Int32) (i8 : Int32) (i9 : Int32) (i10 : Int32) (i11 : Int32) (i12 : Int32) (i13 : Int32) (i16 : Int32) (i17 : Int32) (i18 : Int32) (i19 : Int32) (i20 : Int32) (i21 : Int32) : Option (Int32) :=
  if i4 = i13 then
    if i5 = i16 then
      if i6 = i17 then
        if i7 = i18 then
          if i8 = i19 then
            if i9 = i20 then
              if i10 = i21 then
                if i18 = (1 : Int32) then
                  L_law_b328 NF ob i12 i11 (1 : Int32)
                else
                  L_law_b328 NF ob i12 i11 (0 : Int32)
              else
                some (0 : Int32)
            else
              some (0 : Int32)
          else
            some (0 : Int32)
        else
          some (0 : Int32)
      else
        some (0 : Int32)
    else
      some (0 : Int32)
  else
    some (0 : Int32)
set_option maxRecDepth 65536 in
set_option maxHeartbeats 4000000 in
theorem L_law_b266_p {C : Ctx} {res : Int32} {NF : Nat} (ob : Rec) (i4 : Int32) (i5 : Int32) (i6 : Int32) (i7 : Int32) (i8 : Int32) (i9 : Int32) (i10 : Int32) (i11 : Int32) (i12 : Int32) (i13 : Int32) (i16 : Int32) (i17 : Int32) (i18 : Int32) (i19 : Int32) (i20 : Int32) (i21 : Int32) (hf : L_law_b266 NF ob i4 i5 i6 i7 i8 i9 i10 i11 i12 i13 i16 i17 i18 i19 i20 i21 = some res) : Runs C B0 7 218 266 [vn, vn, vn, vn, vi i4, vi i5, vi i6, vi i7, vi i8, vi i9, vi i10, vi i11, vi i12, vi i13, vn, vn, vi i16, vi i17, vi i18, vi i19, vi i20, vi i21] [] (C.2.2.1 + 1 + 6, (C.2.2.1, 6, ob) :: []) (fun v _ => v = (some (.int res))) := by
  delta L_law_b266 at hf
  refine Runs.iload d0_266 rfl <| Runs.iload d0_268 rfl <| ?_
  refine ite_el hf (fun hc15 hf => ?_) (fun hc15 hf => ?_)
  · refine Runs.icN d0_270 (teq hc15).2 <| ?_
    refine Runs.iload d0_273 rfl <| Runs.iload d0_275 rfl <| ?_
    refine ite_el hf (fun hc16 hf => ?_) (fun hc16 hf => ?_)
    · refine Runs.icN d0_277 (teq hc16).2 <| ?_
      refine Runs.iload d0_280 rfl <| Runs.iload d0_282 rfl <| ?_
      refine ite_el hf (fun hc17 hf => ?_) (fun hc17 hf => ?_)
      · refine Runs.icN d0_284 (teq hc17).2 <| ?_
        refine Runs.iload d0_287 rfl <| Runs.iload d0_289 rfl <| ?_
        refine ite_el hf (fun hc18 hf => ?_) (fun hc18 hf => ?_)
        · refine Runs.icN d0_291 (teq hc18).2 <| ?_
          refine Runs.iload d0_294 rfl <| Runs.iload d0_296 rfl <| ?_
          refine ite_el hf (fun hc19 hf => ?_) (fun hc19 hf => ?_)
          · refine Runs.icN d0_298 (teq hc19).2 <| ?_
            refine Runs.iload d0_301 rfl <| Runs.iload d0_303 rfl <| ?_
            refine ite_el hf (fun hc20 hf => ?_) (fun hc20 hf => ?_)
            · refine Runs.icN d0_305 (teq hc20).2 <| ?_
              refine Runs.iload d0_308 rfl <| Runs.iload d0_310 rfl <| ?_
              refine ite_el hf (fun hc21 hf => ?_) (fun hc21 hf => ?_)
              · refine Runs.icN d0_312 (teq hc21).2 <| ?_
                refine Runs.iload d0_315 rfl <| Runs.iload d0_317 rfl <| Runs.iconst d0_319 ci_1 <| ?_
                refine ite_el hf (fun hc22 hf => ?_) (fun hc22 hf => ?_)
                · refine Runs.icN d0_320 (teq hc22).2 <| ?_
                  exact Runs.iconst d0_323 ci_1 <| Runs.goto (pc' := 328) d0_324 (by decide) <| Runs.forget [false, false, false, false, false, false, false, false, false, false, false, false, true, false, false, false, false, false, false, false, false, false] rfl <| L_law_b328_p ob i12 i11 (1 : Int32) hf
                · refine Runs.icY (pc' := 327) d0_320 (feq hc22).2 (by decide) <| ?_
                  exact Runs.iconst d0_327 ci_0 <| Runs.forget [false, false, false, false, false, false, false, false, false, false, false, false, true, false, false, false, false, false, false, false, false, false] rfl <| L_law_b328_p ob i12 i11 (0 : Int32) hf
              · refine Runs.icY (pc' := 340) d0_312 (feq hc21).2 (by decide) <| ?_
                obtain rfl := Option.some.inj hf
                exact Runs.iconst d0_340 ci_0 <| Runs.retZ (y := (0 : Int32)) d0_341 rfl ⟨by decide, by decide⟩ rfl rfl
            · refine Runs.icY (pc' := 340) d0_305 (feq hc20).2 (by decide) <| ?_
              obtain rfl := Option.some.inj hf
              exact Runs.iconst d0_340 ci_0 <| Runs.retZ (y := (0 : Int32)) d0_341 rfl ⟨by decide, by decide⟩ rfl rfl
          · refine Runs.icY (pc' := 340) d0_298 (feq hc19).2 (by decide) <| ?_
            obtain rfl := Option.some.inj hf
            exact Runs.iconst d0_340 ci_0 <| Runs.retZ (y := (0 : Int32)) d0_341 rfl ⟨by decide, by decide⟩ rfl rfl
        · refine Runs.icY (pc' := 340) d0_291 (feq hc18).2 (by decide) <| ?_
          obtain rfl := Option.some.inj hf
          exact Runs.iconst d0_340 ci_0 <| Runs.retZ (y := (0 : Int32)) d0_341 rfl ⟨by decide, by decide⟩ rfl rfl
      · refine Runs.icY (pc' := 340) d0_284 (feq hc17).2 (by decide) <| ?_
        obtain rfl := Option.some.inj hf
        exact Runs.iconst d0_340 ci_0 <| Runs.retZ (y := (0 : Int32)) d0_341 rfl ⟨by decide, by decide⟩ rfl rfl
    · refine Runs.icY (pc' := 340) d0_277 (feq hc16).2 (by decide) <| ?_
      obtain rfl := Option.some.inj hf
      exact Runs.iconst d0_340 ci_0 <| Runs.retZ (y := (0 : Int32)) d0_341 rfl ⟨by decide, by decide⟩ rfl rfl
  · refine Runs.icY (pc' := 340) d0_270 (feq hc15).2 (by decide) <| ?_
    obtain rfl := Option.some.inj hf
    exact Runs.iconst d0_340 ci_0 <| Runs.retZ (y := (0 : Int32)) d0_341 rfl ⟨by decide, by decide⟩ rfl rfl
def L_law_b247 (NF : Nat) (ob : Rec) (i2 : Int32) (i4 : Int32) (i5 : Int32) (i6 : Int32) (i7 : Int32) (i8 : Int32) (i9 : Int32) (i10 : Int32) (i11 : Int32) (i12 : Int32) (i13 : Int32) (i16 : Int32) (i17 : Int32) (i18 : Int32) (i19 : Int32) (i20 : Int32) (i21 : Int32) : Option (Int32) :=
  if i16 = (0 : Int32) then
    if (7 : Int32) < i2 then
      L_law_b266 NF ob i4 i5 i6 i7 i8 i9 i10 i11 i12 i13 i16 i17 i18 i19 i20 i21
    else
      L_law_b266 NF ob i4 i5 i6 i7 i8 i9 i10 i11 i12 i13 i16 i17 i18 i19 i20 (i21 ||| ((1 : Int32) <<< (i2 &&& 31)))
  else
    L_law_b266 NF ob i4 i5 i6 i7 i8 i9 i10 i11 i12 i13 i16 i17 i18 i19 i20 i21
set_option maxRecDepth 65536 in
set_option maxHeartbeats 4000000 in
theorem L_law_b247_p {C : Ctx} {res : Int32} {NF : Nat} (ob : Rec) (i2 : Int32) (i4 : Int32) (i5 : Int32) (i6 : Int32) (i7 : Int32) (i8 : Int32) (i9 : Int32) (i10 : Int32) (i11 : Int32) (i12 : Int32) (i13 : Int32) (i16 : Int32) (i17 : Int32) (i18 : Int32) (i19 : Int32) (i20 : Int32) (i21 : Int32) (hf : L_law_b247 NF ob i2 i4 i5 i6 i7 i8 i9 i10 i11 i12 i13 i16 i17 i18 i19 i20 i21 = some res) : Runs C B0 7 218 247 [vn, vn, vi i2, vn, vi i4, vi i5, vi i6, vi i7, vi i8, vi i9, vi i10, vi i11, vi i12, vi i13, vn, vn, vi i16, vi i17, vi i18, vi i19, vi i20, vi i21] [] (C.2.2.1 + 1 + 6, (C.2.2.1, 6, ob) :: []) (fun v _ => v = (some (.int res))) := by
  delta L_law_b247 at hf
  refine Runs.iload d0_247 rfl <| ?_
  refine ite_el hf (fun hc13 hf => ?_) (fun hc13 hf => ?_)
  · refine Runs.ifN d0_249 (teq hc13).2 <| ?_
    refine Runs.iloadN d0_252 rfl <| Runs.bipush d0_253 cb_7 <| ?_
    refine ite_el hf (fun hc14 hf => ?_) (fun hc14 hf => ?_)
    · exact Runs.icY (pc' := 266) d0_255 (tlt hc14).2.2.1 (by decide) <| Runs.forget [false, false, false, false, true, true, true, true, true, true, true, true, true, true, false, false, true, true, true, true, true, true] rfl <| L_law_b266_p ob i4 i5 i6 i7 i8 i9 i10 i11 i12 i13 i16 i17 i18 i19 i20 i21 hf
    · refine Runs.icN d0_255 (flt hc14).2.2.1 <| ?_
      exact Runs.iload d0_258 rfl <| Runs.iconst d0_260 ci_1 <| Runs.iloadN d0_261 rfl <| Runs.ishl d0_262 <| Runs.ior d0_263 <| Runs.istore (P' := [vn, vn, vi i2, vn, vi i4, vi i5, vi i6, vi i7, vi i8, vi i9, vi i10, vi i11, vi i12, vi i13, vn, vn, vi i16, vi i17, vi i18, vi i19, vi i20, vi (i21 ||| ((1 : Int32) <<< (i2 &&& 31)))]) d0_264 (by decide) rfl <| Runs.forget [false, false, false, false, true, true, true, true, true, true, true, true, true, true, false, false, true, true, true, true, true, true] rfl <| L_law_b266_p ob i4 i5 i6 i7 i8 i9 i10 i11 i12 i13 i16 i17 i18 i19 i20 (i21 ||| ((1 : Int32) <<< (i2 &&& 31))) hf
  · exact Runs.ifY (pc' := 266) d0_249 (feq hc13).2 (by decide) <| Runs.forget [false, false, false, false, true, true, true, true, true, true, true, true, true, true, false, false, true, true, true, true, true, true] rfl <| L_law_b266_p ob i4 i5 i6 i7 i8 i9 i10 i11 i12 i13 i16 i17 i18 i19 i20 i21 hf
def L_law_b222 (NF : Nat) (ob : Rec) (i1 : Int32) (i2 : Int32) (i4 : Int32) (i5 : Int32) (i6 : Int32) (i7 : Int32) (i8 : Int32) (i9 : Int32) (i10 : Int32) (i11 : Int32) (i12 : Int32) (i13 : Int32) (i14 : Int32) (i16 : Int32) (i17 : Int32) (i18 : Int32) (i19 : Int32) (t0 : Int32) : Option (Int32) :=
  if i14 = (1 : Int32) then
    if (7 : Int32) < i1 then
      L_law_b247 NF ob i2 i4 i5 i6 i7 i8 i9 i10 i11 i12 i13 i16 i17 i18 i19 t0 (0 : Int32)
    else
      L_law_b247 NF ob i2 i4 i5 i6 i7 i8 i9 i10 i11 i12 i13 i16 i17 i18 i19 t0 ((0 : Int32) ||| ((1 : Int32) <<< (i1 &&& 31)))
  else
    L_law_b247 NF ob i2 i4 i5 i6 i7 i8 i9 i10 i11 i12 i13 i16 i17 i18 i19 t0 (0 : Int32)
set_option maxRecDepth 65536 in
set_option maxHeartbeats 4000000 in
theorem L_law_b222_p {C : Ctx} {res : Int32} {NF : Nat} (ob : Rec) (i1 : Int32) (i2 : Int32) (i4 : Int32) (i5 : Int32) (i6 : Int32) (i7 : Int32) (i8 : Int32) (i9 : Int32) (i10 : Int32) (i11 : Int32) (i12 : Int32) (i13 : Int32) (i14 : Int32) (i16 : Int32) (i17 : Int32) (i18 : Int32) (i19 : Int32) (t0 : Int32) (hf : L_law_b222 NF ob i1 i2 i4 i5 i6 i7 i8 i9 i10 i11 i12 i13 i14 i16 i17 i18 i19 t0 = some res) : Runs C B0 7 218 222 [vn, vi i1, vi i2, vn, vi i4, vi i5, vi i6, vi i7, vi i8, vi i9, vi i10, vi i11, vi i12, vi i13, vi i14, vn, vi i16, vi i17, vi i18, vi i19, vn, vn] [.int t0] (C.2.2.1 + 1 + 6, (C.2.2.1, 6, ob) :: []) (fun v _ => v = (some (.int res))) := by
  delta L_law_b222 at hf
  refine Runs.istore (P' := [vn, vi i1, vi i2, vn, vi i4, vi i5, vi i6, vi i7, vi i8, vi i9, vi i10, vi i11, vi i12, vi i13, vi i14, vn, vi i16, vi i17, vi i18, vi i19, vi t0, vn]) d0_222 (by decide) rfl <| Runs.iconst d0_224 ci_0 <| Runs.istore (P' := [vn, vi i1, vi i2, vn, vi i4, vi i5, vi i6, vi i7, vi i8, vi i9, vi i10, vi i11, vi i12, vi i13, vi i14, vn, vi i16, vi i17, vi i18, vi i19, vi t0, vi (0 : Int32)]) d0_225 (by decide) rfl <| Runs.iload d0_227 rfl <| Runs.iconst d0_229 ci_1 <| ?_
  refine ite_el hf (fun hc11 hf => ?_) (fun hc11 hf => ?_)
  · refine Runs.icN d0_230 (teq hc11).2 <| ?_
    refine Runs.iloadN d0_233 rfl <| Runs.bipush d0_234 cb_7 <| ?_
    refine ite_el hf (fun hc12 hf => ?_) (fun hc12 hf => ?_)
    · exact Runs.icY (pc' := 247) d0_236 (tlt hc12).2.2.1 (by decide) <| Runs.forget [false, false, true, false, true, true, true, true, true, true, true, true, true, true, false, false, true, true, true, true, true, true] rfl <| L_law_b247_p ob i2 i4 i5 i6 i7 i8 i9 i10 i11 i12 i13 i16 i17 i18 i19 t0 (0 : Int32) hf
    · refine Runs.icN d0_236 (flt hc12).2.2.1 <| ?_
      exact Runs.iload d0_239 rfl <| Runs.iconst d0_241 ci_1 <| Runs.iloadN d0_242 rfl <| Runs.ishl d0_243 <| Runs.ior d0_244 <| Runs.istore (P' := [vn, vi i1, vi i2, vn, vi i4, vi i5, vi i6, vi i7, vi i8, vi i9, vi i10, vi i11, vi i12, vi i13, vi i14, vn, vi i16, vi i17, vi i18, vi i19, vi t0, vi ((0 : Int32) ||| ((1 : Int32) <<< (i1 &&& 31)))]) d0_245 (by decide) rfl <| Runs.forget [false, false, true, false, true, true, true, true, true, true, true, true, true, true, false, false, true, true, true, true, true, true] rfl <| L_law_b247_p ob i2 i4 i5 i6 i7 i8 i9 i10 i11 i12 i13 i16 i17 i18 i19 t0 ((0 : Int32) ||| ((1 : Int32) <<< (i1 &&& 31))) hf
  · exact Runs.icY (pc' := 247) d0_230 (feq hc11).2 (by decide) <| Runs.forget [false, false, true, false, true, true, true, true, true, true, true, true, true, true, false, false, true, true, true, true, true, true] rfl <| L_law_b247_p ob i2 i4 i5 i6 i7 i8 i9 i10 i11 i12 i13 i16 i17 i18 i19 t0 (0 : Int32) hf
def L_law_b209 (NF : Nat) (ob : Rec) (i1 : Int32) (i2 : Int32) (i4 : Int32) (i5 : Int32) (i6 : Int32) (i7 : Int32) (i8 : Int32) (i9 : Int32) (i10 : Int32) (i11 : Int32) (i12 : Int32) (i13 : Int32) (i14 : Int32) (i16 : Int32) (i17 : Int32) (i18 : Int32) (t0 : Int32) : Option (Int32) :=
  if i17 = (2 : Int32) then
    L_law_b222 NF ob i1 i2 i4 i5 i6 i7 i8 i9 i10 i11 i12 i13 i14 i16 i17 i18 t0 i2
  else
    L_law_b222 NF ob i1 i2 i4 i5 i6 i7 i8 i9 i10 i11 i12 i13 i14 i16 i17 i18 t0 (-1 : Int32)
set_option maxRecDepth 65536 in
set_option maxHeartbeats 4000000 in
theorem L_law_b209_p {C : Ctx} {res : Int32} {NF : Nat} (ob : Rec) (i1 : Int32) (i2 : Int32) (i4 : Int32) (i5 : Int32) (i6 : Int32) (i7 : Int32) (i8 : Int32) (i9 : Int32) (i10 : Int32) (i11 : Int32) (i12 : Int32) (i13 : Int32) (i14 : Int32) (i16 : Int32) (i17 : Int32) (i18 : Int32) (t0 : Int32) (hf : L_law_b209 NF ob i1 i2 i4 i5 i6 i7 i8 i9 i10 i11 i12 i13 i14 i16 i17 i18 t0 = some res) : Runs C B0 7 218 209 [vn, vi i1, vi i2, vn, vi i4, vi i5, vi i6, vi i7, vi i8, vi i9, vi i10, vi i11, vi i12, vi i13, vi i14, vn, vi i16, vi i17, vi i18, vn, vn, vn] [.int t0] (C.2.2.1 + 1 + 6, (C.2.2.1, 6, ob) :: []) (fun v _ => v = (some (.int res))) := by
  delta L_law_b209 at hf
  refine Runs.istore (P' := [vn, vi i1, vi i2, vn, vi i4, vi i5, vi i6, vi i7, vi i8, vi i9, vi i10, vi i11, vi i12, vi i13, vi i14, vn, vi i16, vi i17, vi i18, vi t0, vn, vn]) d0_209 (by decide) rfl <| Runs.iload d0_211 rfl <| Runs.iconst d0_213 ci_2 <| ?_
  refine ite_el hf (fun hc10 hf => ?_) (fun hc10 hf => ?_)
  · refine Runs.icN d0_214 (teq hc10).2 <| ?_
    exact Runs.iloadN d0_217 rfl <| Runs.goto (pc' := 222) d0_218 (by decide) <| L_law_b222_p ob i1 i2 i4 i5 i6 i7 i8 i9 i10 i11 i12 i13 i14 i16 i17 i18 t0 i2 hf
  · refine Runs.icY (pc' := 221) d0_214 (feq hc10).2 (by decide) <| ?_
    exact Runs.iconst d0_221 ci_m1 <| L_law_b222_p ob i1 i2 i4 i5 i6 i7 i8 i9 i10 i11 i12 i13 i14 i16 i17 i18 t0 (-1 : Int32) hf
def L_law_b189 (NF : Nat) (ob : Rec) (i1 : Int32) (i2 : Int32) (i4 : Int32) (i5 : Int32) (i6 : Int32) (i7 : Int32) (i8 : Int32) (i9 : Int32) (i10 : Int32) (i11 : Int32) (i12 : Int32) (i13 : Int32) (i14 : Int32) (i16 : Int32) (i17 : Int32) (i18 : Int32) : Option (Int32) :=
  if i17 = (0 : Int32) then
    L_law_b209 NF ob i1 i2 i4 i5 i6 i7 i8 i9 i10 i11 i12 i13 i14 i16 i17 i18 (-1 : Int32)
  else
    if i14 = (1 : Int32) then
      L_law_b209 NF ob i1 i2 i4 i5 i6 i7 i8 i9 i10 i11 i12 i13 i14 i16 i17 i18 i1
    else
      L_law_b209 NF ob i1 i2 i4 i5 i6 i7 i8 i9 i10 i11 i12 i13 i14 i16 i17 i18 i2
set_option maxRecDepth 65536 in
set_option maxHeartbeats 4000000 in
theorem L_law_b189_p {C : Ctx} {res : Int32} {NF : Nat} (ob : Rec) (i1 : Int32) (i2 : Int32) (i4 : Int32) (i5 : Int32) (i6 : Int32) (i7 : Int32) (i8 : Int32) (i9 : Int32) (i10 : Int32) (i11 : Int32) (i12 : Int32) (i13 : Int32) (i14 : Int32) (i16 : Int32) (i17 : Int32) (i18 : Int32) (hf : L_law_b189 NF ob i1 i2 i4 i5 i6 i7 i8 i9 i10 i11 i12 i13 i14 i16 i17 i18 = some res) : Runs C B0 7 218 189 [vn, vi i1, vi i2, vn, vi i4, vi i5, vi i6, vi i7, vi i8, vi i9, vi i10, vi i11, vi i12, vi i13, vi i14, vn, vi i16, vi i17, vi i18, vn, vn, vn] [] (C.2.2.1 + 1 + 6, (C.2.2.1, 6, ob) :: []) (fun v _ => v = (some (.int res))) := by
  delta L_law_b189 at hf
  refine Runs.iload d0_189 rfl <| ?_
  refine ite_el hf (fun hc8 hf => ?_) (fun hc8 hf => ?_)
  · refine Runs.ifN d0_191 (teq hc8).2 <| ?_
    exact Runs.iconst d0_194 ci_m1 <| Runs.goto (pc' := 209) d0_195 (by decide) <| L_law_b209_p ob i1 i2 i4 i5 i6 i7 i8 i9 i10 i11 i12 i13 i14 i16 i17 i18 (-1 : Int32) hf
  · refine Runs.ifY (pc' := 198) d0_191 (feq hc8).2 (by decide) <| ?_
    refine Runs.iload d0_198 rfl <| Runs.iconst d0_200 ci_1 <| ?_
    refine ite_el hf (fun hc9 hf => ?_) (fun hc9 hf => ?_)
    · refine Runs.icN d0_201 (teq hc9).2 <| ?_
      exact Runs.iloadN d0_204 rfl <| Runs.goto (pc' := 209) d0_205 (by decide) <| L_law_b209_p ob i1 i2 i4 i5 i6 i7 i8 i9 i10 i11 i12 i13 i14 i16 i17 i18 i1 hf
    · refine Runs.icY (pc' := 208) d0_201 (feq hc9).2 (by decide) <| ?_
      exact Runs.iloadN d0_208 rfl <| L_law_b209_p ob i1 i2 i4 i5 i6 i7 i8 i9 i10 i11 i12 i13 i14 i16 i17 i18 i2 hf
def L_law_b161 (NF : Nat) (ob : Rec) (i1 : Int32) (i2 : Int32) (i4 : Int32) (i5 : Int32) (i6 : Int32) (i7 : Int32) (i8 : Int32) (i9 : Int32) (i10 : Int32) (i11 : Int32) (i12 : Int32) (i13 : Int32) (i14 : Int32) (i15 : Int32) (i16 : Int32) : Option (Int32) :=
  if i16 = (0 : Int32) then
    L_law_b189 NF ob i1 i2 i4 i5 i6 i7 i8 i9 i10 i11 i12 i13 i14 i16 (i14 + (1 : Int32)) ((i14 + (1 : Int32)) - i15)
  else
    L_law_b189 NF ob i1 i2 i4 i5 i6 i7 i8 i9 i10 i11 i12 i13 i14 i16 i14 i14
set_option maxRecDepth 65536 in
set_option maxHeartbeats 4000000 in
theorem L_law_b161_p {C : Ctx} {res : Int32} {NF : Nat} (ob : Rec) (i1 : Int32) (i2 : Int32) (i4 : Int32) (i5 : Int32) (i6 : Int32) (i7 : Int32) (i8 : Int32) (i9 : Int32) (i10 : Int32) (i11 : Int32) (i12 : Int32) (i13 : Int32) (i14 : Int32) (i15 : Int32) (i16 : Int32) (hf : L_law_b161 NF ob i1 i2 i4 i5 i6 i7 i8 i9 i10 i11 i12 i13 i14 i15 i16 = some res) : Runs C B0 7 218 161 [vn, vi i1, vi i2, vn, vi i4, vi i5, vi i6, vi i7, vi i8, vi i9, vi i10, vi i11, vi i12, vi i13, vi i14, vi i15, vi i16, vn, vn, vn, vn, vn] [] (C.2.2.1 + 1 + 6, (C.2.2.1, 6, ob) :: []) (fun v _ => v = (some (.int res))) := by
  delta L_law_b161 at hf
  refine Runs.iload d0_161 rfl <| Runs.istore (P' := [vn, vi i1, vi i2, vn, vi i4, vi i5, vi i6, vi i7, vi i8, vi i9, vi i10, vi i11, vi i12, vi i13, vi i14, vi i15, vi i16, vi i14, vn, vn, vn, vn]) d0_163 (by decide) rfl <| Runs.iload d0_165 rfl <| Runs.istore (P' := [vn, vi i1, vi i2, vn, vi i4, vi i5, vi i6, vi i7, vi i8, vi i9, vi i10, vi i11, vi i12, vi i13, vi i14, vi i15, vi i16, vi i14, vi i14, vn, vn, vn]) d0_167 (by decide) rfl <| Runs.iload d0_169 rfl <| ?_
  refine ite_el hf (fun hc7 hf => ?_) (fun hc7 hf => ?_)
  · refine Runs.ifN d0_171 (teq hc7).2 <| ?_
    exact Runs.iload d0_174 rfl <| Runs.iconst d0_176 ci_1 <| Runs.iadd d0_177 <| Runs.istore (P' := [vn, vi i1, vi i2, vn, vi i4, vi i5, vi i6, vi i7, vi i8, vi i9, vi i10, vi i11, vi i12, vi i13, vi i14, vi i15, vi i16, vi (i14 + (1 : Int32)), vi i14, vn, vn, vn]) d0_178 (by decide) rfl <| Runs.iload d0_180 rfl <| Runs.iconst d0_182 ci_1 <| Runs.iadd d0_183 <| Runs.iload d0_184 rfl <| Runs.isub d0_186 <| Runs.istore (P' := [vn, vi i1, vi i2, vn, vi i4, vi i5, vi i6, vi i7, vi i8, vi i9, vi i10, vi i11, vi i12, vi i13, vi i14, vi i15, vi i16, vi (i14 + (1 : Int32)), vi ((i14 + (1 : Int32)) - i15), vn, vn, vn]) d0_187 (by decide) rfl <| Runs.forget [false, true, true, false, true, true, true, true, true, true, true, true, true, true, true, false, true, true, true, false, false, false] rfl <| L_law_b189_p ob i1 i2 i4 i5 i6 i7 i8 i9 i10 i11 i12 i13 i14 i16 (i14 + (1 : Int32)) ((i14 + (1 : Int32)) - i15) hf
  · exact Runs.ifY (pc' := 189) d0_171 (feq hc7).2 (by decide) <| Runs.forget [false, true, true, false, true, true, true, true, true, true, true, true, true, true, true, false, true, true, true, false, false, false] rfl <| L_law_b189_p ob i1 i2 i4 i5 i6 i7 i8 i9 i10 i11 i12 i13 i14 i16 i14 i14 hf
def L_law_b129 (NF : Nat) (ob : Rec) (i1 : Int32) (i2 : Int32) (i4 : Int32) (i5 : Int32) (i6 : Int32) (i7 : Int32) (i8 : Int32) (i9 : Int32) (i10 : Int32) (i11 : Int32) (i12 : Int32) (i13 : Int32) (i14 : Int32) (t0 : Int32) : Option (Int32) :=
  if i2 < (0 : Int32) then
    L_law_b161 NF ob i1 i2 i4 i5 i6 i7 i8 i9 i10 i11 i12 i13 i14 t0 (-1 : Int32)
  else
    if (15 : Int32) < i2 then
      L_law_b161 NF ob i1 i2 i4 i5 i6 i7 i8 i9 i10 i11 i12 i13 i14 t0 (-1 : Int32)
    else
      if i14 < t0 then
        L_law_b161 NF ob i1 i2 i4 i5 i6 i7 i8 i9 i10 i11 i12 i13 i14 t0 (-3 : Int32)
      else
        L_law_b161 NF ob i1 i2 i4 i5 i6 i7 i8 i9 i10 i11 i12 i13 i14 t0 (0 : Int32)
set_option maxRecDepth 65536 in
set_option maxHeartbeats 4000000 in
theorem L_law_b129_p {C : Ctx} {res : Int32} {NF : Nat} (ob : Rec) (i1 : Int32) (i2 : Int32) (i4 : Int32) (i5 : Int32) (i6 : Int32) (i7 : Int32) (i8 : Int32) (i9 : Int32) (i10 : Int32) (i11 : Int32) (i12 : Int32) (i13 : Int32) (i14 : Int32) (t0 : Int32) (hf : L_law_b129 NF ob i1 i2 i4 i5 i6 i7 i8 i9 i10 i11 i12 i13 i14 t0 = some res) : Runs C B0 7 218 129 [vn, vi i1, vi i2, vn, vi i4, vi i5, vi i6, vi i7, vi i8, vi i9, vi i10, vi i11, vi i12, vi i13, vi i14, vn, vn, vn, vn, vn, vn, vn] [.int t0] (C.2.2.1 + 1 + 6, (C.2.2.1, 6, ob) :: []) (fun v _ => v = (some (.int res))) := by
  delta L_law_b129 at hf
  refine Runs.istore (P' := [vn, vi i1, vi i2, vn, vi i4, vi i5, vi i6, vi i7, vi i8, vi i9, vi i10, vi i11, vi i12, vi i13, vi i14, vi t0, vn, vn, vn, vn, vn, vn]) d0_129 (by decide) rfl <| Runs.iconst d0_131 ci_0 <| Runs.istore (P' := [vn, vi i1, vi i2, vn, vi i4, vi i5, vi i6, vi i7, vi i8, vi i9, vi i10, vi i11, vi i12, vi i13, vi i14, vi t0, vi (0 : Int32), vn, vn, vn, vn, vn]) d0_132 (by decide) rfl <| Runs.iloadN d0_134 rfl <| ?_
  refine ite_el hf (fun hc4 hf => ?_) (fun hc4 hf => ?_)
  · refine Runs.ifY (pc' := 144) d0_135 (tlt hc4).1 (by decide) <| ?_
    exact Runs.iconst d0_144 ci_m1 <| Runs.istore (P' := [vn, vi i1, vi i2, vn, vi i4, vi i5, vi i6, vi i7, vi i8, vi i9, vi i10, vi i11, vi i12, vi i13, vi i14, vi t0, vi (-1 : Int32), vn, vn, vn, vn, vn]) d0_145 (by decide) rfl <| Runs.goto (pc' := 161) d0_147 (by decide) <| L_law_b161_p ob i1 i2 i4 i5 i6 i7 i8 i9 i10 i11 i12 i13 i14 t0 (-1 : Int32) hf
  · refine Runs.ifN d0_135 (flt hc4).1 <| ?_
    refine Runs.iloadN d0_138 rfl <| Runs.bipush d0_139 cb_15 <| ?_
    refine ite_el hf (fun hc5 hf => ?_) (fun hc5 hf => ?_)
    · refine Runs.icN d0_141 (tlt hc5).2.2.2 <| ?_
      exact Runs.iconst d0_144 ci_m1 <| Runs.istore (P' := [vn, vi i1, vi i2, vn, vi i4, vi i5, vi i6, vi i7, vi i8, vi i9, vi i10, vi i11, vi i12, vi i13, vi i14, vi t0, vi (-1 : Int32), vn, vn, vn, vn, vn]) d0_145 (by decide) rfl <| Runs.goto (pc' := 161) d0_147 (by decide) <| L_law_b161_p ob i1 i2 i4 i5 i6 i7 i8 i9 i10 i11 i12 i13 i14 t0 (-1 : Int32) hf
    · refine Runs.icY (pc' := 150) d0_141 (flt hc5).2.2.2 (by decide) <| ?_
      refine Runs.iload d0_150 rfl <| Runs.iload d0_152 rfl <| ?_
      refine ite_el hf (fun hc6 hf => ?_) (fun hc6 hf => ?_)
      · refine Runs.icN d0_154 (tlt hc6).2.2.2 <| ?_
        exact Runs.bipush d0_157 cb_m3 <| Runs.istore (P' := [vn, vi i1, vi i2, vn, vi i4, vi i5, vi i6, vi i7, vi i8, vi i9, vi i10, vi i11, vi i12, vi i13, vi i14, vi t0, vi (-3 : Int32), vn, vn, vn, vn, vn]) d0_159 (by decide) rfl <| L_law_b161_p ob i1 i2 i4 i5 i6 i7 i8 i9 i10 i11 i12 i13 i14 t0 (-3 : Int32) hf
      · exact Runs.icY (pc' := 161) d0_154 (flt hc6).2.2.2 (by decide) <| L_law_b161_p ob i1 i2 i4 i5 i6 i7 i8 i9 i10 i11 i12 i13 i14 t0 (0 : Int32) hf
def L_law_b106 (NF : Nat) (ob : Rec) (i1 : Int32) (i2 : Int32) (i4 : Int32) (i5 : Int32) (i6 : Int32) (i7 : Int32) (i8 : Int32) (i9 : Int32) (i10 : Int32) (i11 : Int32) (i12 : Int32) (i13 : Int32) (t0 : Int32) : Option (Int32) :=
  if (9 : Int32) < i2 then
    if i2 = (10 : Int32) then
      L_law_b129 NF ob i1 i2 i4 i5 i6 i7 i8 i9 i10 i11 i12 i13 t0 (1 : Int32)
    else
      L_law_b129 NF ob i1 i2 i4 i5 i6 i7 i8 i9 i10 i11 i12 i13 t0 (2 : Int32)
  else
    L_law_b129 NF ob i1 i2 i4 i5 i6 i7 i8 i9 i10 i11 i12 i13 t0 (0 : Int32)
set_option maxRecDepth 65536 in
set_option maxHeartbeats 4000000 in
theorem L_law_b106_p {C : Ctx} {res : Int32} {NF : Nat} (ob : Rec) (i1 : Int32) (i2 : Int32) (i4 : Int32) (i5 : Int32) (i6 : Int32) (i7 : Int32) (i8 : Int32) (i9 : Int32) (i10 : Int32) (i11 : Int32) (i12 : Int32) (i13 : Int32) (t0 : Int32) (hf : L_law_b106 NF ob i1 i2 i4 i5 i6 i7 i8 i9 i10 i11 i12 i13 t0 = some res) : Runs C B0 7 218 106 [vn, vi i1, vi i2, vn, vi i4, vi i5, vi i6, vi i7, vi i8, vi i9, vi i10, vi i11, vi i12, vi i13, vn, vn, vn, vn, vn, vn, vn, vn] [.int t0] (C.2.2.1 + 1 + 6, (C.2.2.1, 6, ob) :: []) (fun v _ => v = (some (.int res))) := by
  delta L_law_b106 at hf
  refine Runs.istore (P' := [vn, vi i1, vi i2, vn, vi i4, vi i5, vi i6, vi i7, vi i8, vi i9, vi i10, vi i11, vi i12, vi i13, vi t0, vn, vn, vn, vn, vn, vn, vn]) d0_106 (by decide) rfl <| Runs.iloadN d0_108 rfl <| Runs.bipush d0_109 cb_9 <| ?_
  refine ite_el hf (fun hc2 hf => ?_) (fun hc2 hf => ?_)
  · refine Runs.icY (pc' := 118) d0_111 (tlt hc2).2.2.1 (by decide) <| ?_
    refine Runs.iloadN d0_118 rfl <| Runs.bipush d0_119 cb_10 <| ?_
    refine ite_el hf (fun hc3 hf => ?_) (fun hc3 hf => ?_)
    · refine Runs.icN d0_121 (teq hc3).2 <| ?_
      exact Runs.iconst d0_124 ci_1 <| Runs.goto (pc' := 129) d0_125 (by decide) <| L_law_b129_p ob i1 i2 i4 i5 i6 i7 i8 i9 i10 i11 i12 i13 t0 (1 : Int32) hf
    · refine Runs.icY (pc' := 128) d0_121 (feq hc3).2 (by decide) <| ?_
      exact Runs.iconst d0_128 ci_2 <| L_law_b129_p ob i1 i2 i4 i5 i6 i7 i8 i9 i10 i11 i12 i13 t0 (2 : Int32) hf
  · refine Runs.icN d0_111 (flt hc2).2.2.1 <| ?_
    exact Runs.iconst d0_114 ci_0 <| Runs.goto (pc' := 129) d0_115 (by decide) <| L_law_b129_p ob i1 i2 i4 i5 i6 i7 i8 i9 i10 i11 i12 i13 t0 (0 : Int32) hf
def L_law_b96 (NF : Nat) (ob : Rec) (i1 : Int32) (i2 : Int32) (i4 : Int32) (i5 : Int32) (i6 : Int32) (i7 : Int32) (i8 : Int32) (i9 : Int32) (i10 : Int32) (i11 : Int32) (i12 : Int32) (i13 : Int32) : Option (Int32) :=
  if i13 = (0 : Int32) then
    L_law_b106 NF ob i1 i2 i4 i5 i6 i7 i8 i9 i10 i11 i12 i13 (1 : Int32)
  else
    L_law_b106 NF ob i1 i2 i4 i5 i6 i7 i8 i9 i10 i11 i12 i13 (0 : Int32)
set_option maxRecDepth 65536 in
set_option maxHeartbeats 4000000 in
theorem L_law_b96_p {C : Ctx} {res : Int32} {NF : Nat} (ob : Rec) (i1 : Int32) (i2 : Int32) (i4 : Int32) (i5 : Int32) (i6 : Int32) (i7 : Int32) (i8 : Int32) (i9 : Int32) (i10 : Int32) (i11 : Int32) (i12 : Int32) (i13 : Int32) (hf : L_law_b96 NF ob i1 i2 i4 i5 i6 i7 i8 i9 i10 i11 i12 i13 = some res) : Runs C B0 7 218 96 [vn, vi i1, vi i2, vn, vi i4, vi i5, vi i6, vi i7, vi i8, vi i9, vi i10, vi i11, vi i12, vi i13, vn, vn, vn, vn, vn, vn, vn, vn] [] (C.2.2.1 + 1 + 6, (C.2.2.1, 6, ob) :: []) (fun v _ => v = (some (.int res))) := by
  delta L_law_b96 at hf
  refine Runs.iload d0_96 rfl <| ?_
  refine ite_el hf (fun hc1 hf => ?_) (fun hc1 hf => ?_)
  · refine Runs.ifN d0_98 (teq hc1).2 <| ?_
    exact Runs.iconst d0_101 ci_1 <| Runs.goto (pc' := 106) d0_102 (by decide) <| L_law_b106_p ob i1 i2 i4 i5 i6 i7 i8 i9 i10 i11 i12 i13 (1 : Int32) hf
  · refine Runs.ifY (pc' := 105) d0_98 (feq hc1).2 (by decide) <| ?_
    exact Runs.iconst d0_105 ci_0 <| L_law_b106_p ob i1 i2 i4 i5 i6 i7 i8 i9 i10 i11 i12 i13 (0 : Int32) hf
def L_law (NF : Nat) (i0 : Int32) (i1 : Int32) (i2 : Int32) : Option (Int32) :=
  (X_init i0).bind fun q25 =>
  bind2 (X_pushToken q25 i1) fun r27 q28 =>
  bind2 (X_pushToken q28 i2) fun r30 q31 =>
  (X_length q31).bind fun r33 =>
  (X_depth q31).bind fun r35 =>
  (X_tokenAt q31 (0 : Int32)).bind fun r37 =>
  (X_tokenAt q31 (1 : Int32)).bind fun r39 =>
  (X_usedVars NF q31).bind fun r41 =>
  (X_isComplete q31).bind fun r43 =>
  (X_lastResult q31).bind fun r45 =>
  if i1 < (0 : Int32) then
    L_law_b96 NF q31 i1 i2 r27 r30 r33 r35 r37 r39 r41 r43 r45 (-1 : Int32)
  else
    if (15 : Int32) < i1 then
      L_law_b96 NF q31 i1 i2 r27 r30 r33 r35 r37 r39 r41 r43 r45 (-1 : Int32)
    else
      if i1 < (10 : Int32) then
        L_law_b96 NF q31 i1 i2 r27 r30 r33 r35 r37 r39 r41 r43 r45 (0 : Int32)
      else
        L_law_b96 NF q31 i1 i2 r27 r30 r33 r35 r37 r39 r41 r43 r45 (-3 : Int32)
set_option maxRecDepth 65536 in
set_option maxHeartbeats 4000000 in
theorem L_law_p {C : Ctx} {res : Int32} {NF : Nat} (i0 : Int32) (i1 : Int32) (i2 : Int32) (hf : L_law NF i0 i1 i2 = some res) : Runs C B0 0 0 0 [vi i0, vi i1, vi i2, vn, vn, vn, vn, vn, vn, vn, vn, vn, vn, vn, vn, vn, vn, vn, vn, vn, vn, vn] [] (C.2.2.1, []) (fun v _ => v = (some (.int res))) := by
  delta L_law at hf
  refine Runs.newK (k' := 1) (n' := 14) d0_0 w0 ⟨by decide, by decide⟩ rfl rfl (by intro x hx; cases hx) <| Runs.dup d0_3 rfl <| Runs.iloadN d0_4 rfl <| ?_
  refine bind_el hf fun q25 hg26 hf => ?_
  refine Runs.callI (N := B1) (k' := 7) (n' := 218) (W := 1) (as := [.int i0]) (S' := [.ref C.2.2.1]) d0_5 rfl rfl w3 w4 cw1 ar1 (by decide) rfl rfl rfl rfl (X_init_pay hg26) <| ans0 <| Runs.astoreN (P' := [vi i0, vi i1, vi i2, vr C.2.2.1, vn, vn, vn, vn, vn, vn, vn, vn, vn, vn, vn, vn, vn, vn, vn, vn, vn, vn]) d0_8 (by decide) rfl <| Runs.aloadN d0_9 rfl <| Runs.iloadN d0_10 rfl <| ?_
  refine bind2_el hf fun r27 q28 hg29 hf => ?_
  refine Runs.callV (N := B3) (W := 0) (as := [.int i1]) (S' := []) d0_11 w43 w44 w45 w46 cw3 ar3 rk0_3_0 (by decide) rfl rfl (X_pushToken_pay hg29) <| ans1 <| Runs.istore (P' := [vi i0, vi i1, vi i2, vr C.2.2.1, vi r27, vn, vn, vn, vn, vn, vn, vn, vn, vn, vn, vn, vn, vn, vn, vn, vn, vn]) d0_14 (by decide) rfl <| Runs.aloadN d0_16 rfl <| Runs.iloadN d0_17 rfl <| ?_
  refine bind2_el hf fun r30 q31 hg32 hf => ?_
  refine Runs.callV (N := B3) (W := 0) (as := [.int i2]) (S' := []) d0_18 w43 w44 w45 w46 cw3 ar3 rk0_3_0 (by decide) rfl rfl (X_pushToken_pay hg32) <| ans1 <| Runs.istore (P' := [vi i0, vi i1, vi i2, vr C.2.2.1, vi r27, vi r30, vn, vn, vn, vn, vn, vn, vn, vn, vn, vn, vn, vn, vn, vn, vn, vn]) d0_21 (by decide) rfl <| Runs.aloadN d0_23 rfl <| ?_
  refine bind_el hf fun r33 hg34 hf => ?_
  refine Runs.callV (N := B5) (W := 0) (as := []) (S' := []) d0_24 w52 w53 w54 w55 cw5 ar5 rk0_5_0 (by decide) rfl rfl (X_length_pay hg34) <| ans1 <| Runs.istore (P' := [vi i0, vi i1, vi i2, vr C.2.2.1, vi r27, vi r30, vi r33, vn, vn, vn, vn, vn, vn, vn, vn, vn, vn, vn, vn, vn, vn, vn]) d0_27 (by decide) rfl <| Runs.aloadN d0_29 rfl <| ?_
  refine bind_el hf fun r35 hg36 hf => ?_
  refine Runs.callV (N := B6) (W := 0) (as := []) (S' := []) d0_30 w57 w58 w59 w60 cw6 ar6 rk0_6_0 (by decide) rfl rfl (X_depth_pay hg36) <| ans1 <| Runs.istore (P' := [vi i0, vi i1, vi i2, vr C.2.2.1, vi r27, vi r30, vi r33, vi r35, vn, vn, vn, vn, vn, vn, vn, vn, vn, vn, vn, vn, vn, vn]) d0_33 (by decide) rfl <| Runs.aloadN d0_35 rfl <| Runs.iconst d0_36 ci_0 <| ?_
  refine bind_el hf fun r37 hg38 hf => ?_
  refine Runs.callV (N := B7) (W := 0) (as := [.int (0 : Int32)]) (S' := []) d0_37 w62 w63 w64 w65 cw7 ar7 rk0_7_0 (by decide) rfl rfl (X_tokenAt_pay hg38) <| ans1 <| Runs.istore (P' := [vi i0, vi i1, vi i2, vr C.2.2.1, vi r27, vi r30, vi r33, vi r35, vi r37, vn, vn, vn, vn, vn, vn, vn, vn, vn, vn, vn, vn, vn]) d0_40 (by decide) rfl <| Runs.aloadN d0_42 rfl <| Runs.iconst d0_43 ci_1 <| ?_
  refine bind_el hf fun r39 hg40 hf => ?_
  refine Runs.callV (N := B7) (W := 0) (as := [.int (1 : Int32)]) (S' := []) d0_44 w62 w63 w64 w65 cw7 ar7 rk0_7_0 (by decide) rfl rfl (X_tokenAt_pay hg40) <| ans1 <| Runs.istore (P' := [vi i0, vi i1, vi i2, vr C.2.2.1, vi r27, vi r30, vi r33, vi r35, vi r37, vi r39, vn, vn, vn, vn, vn, vn, vn, vn, vn, vn, vn, vn]) d0_47 (by decide) rfl <| Runs.aloadN d0_49 rfl <| ?_
  refine bind_el hf fun r41 hg42 hf => ?_
  refine Runs.callV (N := B8) (W := 0) (as := []) (S' := []) d0_50 w67 w68 w69 w70 cw8 ar8 rk0_8_0 (by decide) rfl rfl (X_usedVars_pay hg42) <| ans1 <| Runs.istore (P' := [vi i0, vi i1, vi i2, vr C.2.2.1, vi r27, vi r30, vi r33, vi r35, vi r37, vi r39, vi r41, vn, vn, vn, vn, vn, vn, vn, vn, vn, vn, vn]) d0_53 (by decide) rfl <| Runs.aloadN d0_55 rfl <| ?_
  refine bind_el hf fun r43 hg44 hf => ?_
  refine Runs.callV (N := B9) (W := 0) (as := []) (S' := []) d0_56 w72 w73 w74 w75 cw9 ar9 rk0_9_0 (by decide) rfl rfl (X_isComplete_pay hg44) <| ans1 <| Runs.istore (P' := [vi i0, vi i1, vi i2, vr C.2.2.1, vi r27, vi r30, vi r33, vi r35, vi r37, vi r39, vi r41, vi r43, vn, vn, vn, vn, vn, vn, vn, vn, vn, vn]) d0_59 (by decide) rfl <| Runs.aloadN d0_61 rfl <| ?_
  refine bind_el hf fun r45 hg46 hf => ?_
  refine Runs.callV (N := B11) (W := 0) (as := []) (S' := []) d0_62 w81 w82 w83 w84 cw11 ar11 rk0_11_0 (by decide) rfl rfl (X_lastResult_pay hg46) <| ans1 <| Runs.istore (P' := [vi i0, vi i1, vi i2, vr C.2.2.1, vi r27, vi r30, vi r33, vi r35, vi r37, vi r39, vi r41, vi r43, vi r45, vn, vn, vn, vn, vn, vn, vn, vn, vn]) d0_65 (by decide) rfl <| Runs.iconst d0_67 ci_0 <| Runs.istore (P' := [vi i0, vi i1, vi i2, vr C.2.2.1, vi r27, vi r30, vi r33, vi r35, vi r37, vi r39, vi r41, vi r43, vi r45, vi (0 : Int32), vn, vn, vn, vn, vn, vn, vn, vn]) d0_68 (by decide) rfl <| Runs.iloadN d0_70 rfl <| ?_
  refine ite_el hf (fun hc47 hf => ?_) (fun hc47 hf => ?_)
  · refine Runs.ifY (pc' := 80) d0_71 (tlt hc47).1 (by decide) <| ?_
    exact Runs.iconst d0_80 ci_m1 <| Runs.istore (P' := [vi i0, vi i1, vi i2, vr C.2.2.1, vi r27, vi r30, vi r33, vi r35, vi r37, vi r39, vi r41, vi r43, vi r45, vi (-1 : Int32), vn, vn, vn, vn, vn, vn, vn, vn]) d0_81 (by decide) rfl <| Runs.goto (pc' := 96) d0_83 (by decide) <| Runs.forget [false, true, true, false, true, true, true, true, true, true, true, true, true, true, false, false, false, false, false, false, false, false] rfl <| L_law_b96_p q31 i1 i2 r27 r30 r33 r35 r37 r39 r41 r43 r45 (-1 : Int32) hf
  · refine Runs.ifN d0_71 (flt hc47).1 <| ?_
    refine Runs.iloadN d0_74 rfl <| Runs.bipush d0_75 cb_15 <| ?_
    refine ite_el hf (fun hc48 hf => ?_) (fun hc48 hf => ?_)
    · refine Runs.icN d0_77 (tlt hc48).2.2.2 <| ?_
      exact Runs.iconst d0_80 ci_m1 <| Runs.istore (P' := [vi i0, vi i1, vi i2, vr C.2.2.1, vi r27, vi r30, vi r33, vi r35, vi r37, vi r39, vi r41, vi r43, vi r45, vi (-1 : Int32), vn, vn, vn, vn, vn, vn, vn, vn]) d0_81 (by decide) rfl <| Runs.goto (pc' := 96) d0_83 (by decide) <| Runs.forget [false, true, true, false, true, true, true, true, true, true, true, true, true, true, false, false, false, false, false, false, false, false] rfl <| L_law_b96_p q31 i1 i2 r27 r30 r33 r35 r37 r39 r41 r43 r45 (-1 : Int32) hf
    · refine Runs.icY (pc' := 86) d0_77 (flt hc48).2.2.2 (by decide) <| ?_
      refine Runs.iloadN d0_86 rfl <| Runs.bipush d0_87 cb_10 <| ?_
      refine ite_el hf (fun hc49 hf => ?_) (fun hc49 hf => ?_)
      · exact Runs.icY (pc' := 96) d0_89 (tlt hc49).1 (by decide) <| Runs.forget [false, true, true, false, true, true, true, true, true, true, true, true, true, true, false, false, false, false, false, false, false, false] rfl <| L_law_b96_p q31 i1 i2 r27 r30 r33 r35 r37 r39 r41 r43 r45 (0 : Int32) hf
      · refine Runs.icN d0_89 (flt hc49).1 <| ?_
        exact Runs.bipush d0_92 cb_m3 <| Runs.istore (P' := [vi i0, vi i1, vi i2, vr C.2.2.1, vi r27, vi r30, vi r33, vi r35, vi r37, vi r39, vi r41, vi r43, vi r45, vi (-3 : Int32), vn, vn, vn, vn, vn, vn, vn, vn]) d0_94 (by decide) rfl <| Runs.forget [false, true, true, false, true, true, true, true, true, true, true, true, true, true, false, false, false, false, false, false, false, false] rfl <| L_law_b96_p q31 i1 i2 r27 r30 r33 r35 r37 r39 r41 r43 r45 (-3 : Int32) hf
theorem L_law_pay {C : Ctx} {res : Int32} {NF : Nat} {i0 : Int32} {i1 : Int32} {i2 : Int32} (hf : L_law NF i0 i1 i2 = some res) : Pays C B0 [.int i0, .int i1, .int i2] (C.2.2.1, []) (fun v _ => v = (some (.int res))) :=
  Pays.of pnL (Nat.le_of_ble_eq_true rfl) (P := [vi i0, vi i1, vi i2, vn, vn, vn, vn, vn, vn, vn, vn, vn, vn, vn, vn, vn, vn, vn, vn, vn, vn, vn]) 19 rfl (L_law_p i0 i1 i2 hf)
--OWED--
theorem gI_sI (ob : Rec) (k j : Nat) (v : Int32) : gI (sI ob k v) j = if j = k then v else gI ob j := rfl
theorem gI_sA (ob : Rec) (k j : Nat) (i v : Int32) : gI (sA ob k i v) j = gI ob j := rfl
theorem gI_sJ (ob : Rec) (k j : Nat) (i : Int32) (v : Int64) : gI (sJ ob k i v) j = gI ob j := rfl
theorem gA_sI (ob : Rec) (k j : Nat) (v x : Int32) : gA (sI ob k v) j x = gA ob j x := rfl
theorem gA_sA (ob : Rec) (k j : Nat) (i v x : Int32) : gA (sA ob k i v) j x = if j = k ∧ x = i then v else gA ob j x := rfl
theorem gA_sJ (ob : Rec) (k j : Nat) (i x : Int32) (v : Int64) : gA (sJ ob k i v) j x = gA ob j x := rfl
theorem gJ_sI (ob : Rec) (k j : Nat) (v x : Int32) : gJ (sI ob k v) j x = gJ ob j x := rfl
theorem gJ_sA (ob : Rec) (k j : Nat) (i v x : Int32) : gJ (sA ob k i v) j x = gJ ob j x := rfl
theorem gJ_sJ (ob : Rec) (k j : Nat) (i x : Int32) (v : Int64) : gJ (sJ ob k i v) j x = if j = k ∧ x = i then v else gJ ob j x := rfl
theorem gI_z (k : Nat) : gI zrec k = 0 := rfl
theorem gA_z (k : Nat) (i : Int32) : gA zrec k i = 0 := rfl
theorem gJ_z (k : Nat) (i : Int32) : gJ zrec k i = 0 := rfl
theorem chk_ok {γ : Type} {n i : Int32} {A : Option γ} (h : 0 ≤ i.toInt ∧ i.toInt < n.toInt) : chk n i A = A := by
  have h0 : ¬ i < 0 := by rw [Int32.lt_iff_toInt_lt]; show ¬ i.toInt < 0; omega
  have h1 : i < n := by rw [Int32.lt_iff_toInt_lt]; exact h.2
  unfold chk; rw [if_neg h0, if_pos h1]
theorem lt_i {x y : Int32} : x < y ↔ x.toInt < y.toInt := Int32.lt_iff_toInt_lt
theorem le_i {x y : Int32} : x ≤ y ↔ x.toInt ≤ y.toInt := Int32.le_iff_toInt_le
theorem eq_i32 {x y : Int32} : x = y ↔ x.toInt = y.toInt := Int32.toInt_inj.symm
theorem bm_id {n : Int} (h : -2147483648 ≤ n ∧ n < 2147483648) : n.bmod (2 ^ 32) = n := Int.bmod_eq_of_le (by omega) (by omega)
theorem ad {x y : Int32} (h : -2147483648 ≤ x.toInt + y.toInt ∧ x.toInt + y.toInt < 2147483648) : (x + y).toInt = x.toInt + y.toInt := by rw [Int32.toInt_add, bm_id h]
theorem sb {x y : Int32} (h : -2147483648 ≤ x.toInt - y.toInt ∧ x.toInt - y.toInt < 2147483648) : (x - y).toInt = x.toInt - y.toInt := by rw [Int32.toInt_sub, bm_id h]
theorem ml {x y : Int32} (h : -2147483648 ≤ x.toInt * y.toInt ∧ x.toInt * y.toInt < 2147483648) : (x * y).toInt = x.toInt * y.toInt := by rw [Int32.toInt_mul, bm_id h]
theorem bind2_some {α β γ : Type} (a : α) (b : β) (f : α → β → Option γ) : bind2 (some (a, b)) f = f a b := rfl
theorem t0 : (0 : Int32).toInt = 0 := rfl
theorem t9 : (9 : Int32).toInt = 9 := rfl
theorem t15 : (15 : Int32).toInt = 15 := rfl
theorem t32 : (32 : Int32).toInt = 32 := rfl
theorem t255 : (255 : Int32).toInt = 255 := rfl
theorem init_e (a : Int32) : ∃ r, X_init a = some r ∧ gI r 1 = 0 ∧ gI r 2 = 0 ∧ 8 ≤ (gI r 0).toInt ∧ (gI r 0).toInt ≤ 32 ∧ gI r 5 = 0 ∧ gI r 6 = -1 ∧ gI r 7 = 0 ∧ ∀ k i, gA r k i = 0 := by
  unfold X_init X_init_b61 X_init_b70 X_resetResult
  by_cases h1 : a < 8
  · simp only [h1, if_true]
    exact ⟨_, rfl, rfl, rfl, by decide, by decide, rfl, rfl, rfl, fun _ _ => rfl⟩
  · by_cases h2 : 32 < a
    · simp only [h1, h2, if_true, if_false]
      exact ⟨_, rfl, rfl, rfl, by decide, by decide, rfl, rfl, rfl, fun _ _ => rfl⟩
    · simp only [h1, h2, if_false]
      simp only [lt_i, Int32.reduceToInt] at h1 h2
      refine ⟨_, rfl, rfl, rfl, ?_, ?_, rfl, rfl, rfl, fun _ _ => rfl⟩
      · show 8 ≤ a.toInt; omega
      · show a.toInt ≤ 32; omega
def ar (t : Int32) : Int32 := if 9 < t then if t = 10 then 1 else 2 else 0
theorem ar_e (ob : Rec) (t : Int32) : X_arity ob t = some (ar t) := by
  unfold X_arity ar; split
  · split <;> rfl
  · rfl
theorem push_out (ob : Rec) (t : Int32) (h : t < 0 ∨ 15 < t) : X_pushToken ob t = some (-1, ob) := by
  unfold X_pushToken
  by_cases c : t < 0
  · rw [if_pos c]
  · rw [if_neg c, if_pos (h.resolve_left c)]
theorem push_ar (ob : Rec) (t : Int32) (h0 : ¬ t < 0) (h1 : ¬ 15 < t) (hl : gI ob 1 < gI ob 0) (hd : gI ob 2 < ar t) : X_pushToken ob t = some (-3, ob) := by
  unfold X_pushToken; rw [if_neg h0, if_neg h1, if_pos hl, ar_e, Option.bind_some, if_pos hd]
theorem push_ok (ob : Rec) (t : Int32) (h0 : ¬ t < 0) (h1 : ¬ 15 < t) (hl : gI ob 1 < gI ob 0) (hl' : 0 ≤ (gI ob 1).toInt ∧ (gI ob 1).toInt < 32) (hd : ¬ gI ob 2 < ar t) : X_pushToken ob t = some (0, sI (sI (sI (sI (sI (sA ob 0 (gI ob 1) t) 1 (gI ob 1 + 1)) 2 (gI ob 2 + 1 - ar t)) 7 0) 5 0) 6 (-1)) := by
  unfold X_pushToken X_resetResult; rw [if_neg h0, if_neg h1, if_pos hl, ar_e, Option.bind_some, if_neg hd, chk_ok (n := 32) (by rw [t32]; exact hl')]; rfl
-- USE: fa
def cd (t n : Int32) : Int32 := if t < 0 then -1 else if 15 < t then -1 else if n < ar t then -3 else 0
def pushed (ob : Rec) (t : Int32) : Rec := sI (sI (sI (sI (sI (sA ob 0 (gI ob 1) t) 1 (gI ob 1 + 1)) 2 (gI ob 2 + 1 - ar t)) 7 0) 5 0) 6 (-1)
theorem push_no (ob : Rec) (t : Int32) (hl : gI ob 1 < gI ob 0) (h : ¬ cd t (gI ob 2) = 0) : X_pushToken ob t = some (cd t (gI ob 2), ob) := by
  unfold cd at h ⊢
  by_cases c1 : t < 0
  · rw [if_pos c1]; exact push_out ob t (Or.inl c1)
  · by_cases c2 : 15 < t
    · rw [if_neg c1, if_pos c2]; exact push_out ob t (Or.inr c2)
    · by_cases c3 : gI ob 2 < ar t
      · rw [if_neg c1, if_neg c2, if_pos c3]; exact push_ar ob t c1 c2 hl c3
      · rw [if_neg c1, if_neg c2, if_neg c3] at h; exact absurd rfl h
theorem cd0 {t n : Int32} (h : cd t n = 0) : ¬ t < 0 ∧ ¬ 15 < t ∧ ¬ n < ar t := by
  unfold cd at h
  by_cases c1 : t < 0
  · rw [if_pos c1] at h; exact absurd h (by decide)
  · by_cases c2 : 15 < t
    · rw [if_neg c1, if_pos c2] at h; exact absurd h (by decide)
    · by_cases c3 : n < ar t
      · rw [if_neg c1, if_neg c2, if_pos c3] at h; exact absurd h (by decide)
      · exact ⟨c1, c2, c3⟩
theorem push_yes (ob : Rec) (t : Int32) (hl : gI ob 1 < gI ob 0) (hl' : 0 ≤ (gI ob 1).toInt ∧ (gI ob 1).toInt < 32) (h : cd t (gI ob 2) = 0) : X_pushToken ob t = some (0, pushed ob t) := by
  obtain ⟨c1, c2, c3⟩ := cd0 h
  exact push_ok ob t c1 c2 hl hl' c3
def uvt (acc t : Int32) : Int32 := if t < 0 then acc else if t < 8 then acc ||| (1 <<< (t &&& 31)) else acc
theorem uvS (NF n : Nat) (ob : Rec) (acc k : Int32) (h : k < gI ob 1) (h3 : k < 32) (h0 : 0 ≤ k.toInt) : X_usedVars_l4 NF ob (n + 1) acc k = X_usedVars_l4 NF ob n (uvt acc (gA ob 0 k)) (k + 1) := by
  show X_usedVars_w4 NF ob _ acc k = _
  unfold X_usedVars_w4 uvt
  rw [if_pos h, if_pos h3, chk_ok (n := 32) ⟨h0, lt_i.mp h3⟩]
  split
  · rfl
  · split <;> rfl
theorem uvE (NF n : Nat) (ob : Rec) (acc k : Int32) (h : ¬ k < gI ob 1) : X_usedVars_l4 NF ob (n + 1) acc k = some acc := by
  show X_usedVars_w4 NF ob _ acc k = _
  unfold X_usedVars_w4; rw [if_neg h]
theorem uv7 (acc : Int32) {t : Int32} (h : ¬ t < 0) : uvt acc t = if 7 < t then acc else acc ||| (1 <<< (t &&& 31)) := by
  unfold uvt
  rw [if_neg h]
  have e : (t < 8) ↔ ¬ 7 < t := by simp only [lt_i, Int32.reduceToInt]; omega
  by_cases c : 7 < t
  · rw [if_pos c, if_neg (fun g => e.mp g c)]
  · rw [if_neg c, if_pos (e.mpr c)]
theorem blk (NF : Nat) (q : Rec) (a b r1 r2 r3 r4 r5 r6 r7 r8 r9 c n : Int32) (hn : n = if c = 0 then 1 else 0) : L_law_b96 NF q a b r1 r2 r3 r4 r5 r6 r7 r8 r9 c = L_law_b161 NF q a b r1 r2 r3 r4 r5 r6 r7 r8 r9 c n (ar b) (cd b n) := by
  have h129 : ∀ n w : Int32, w = ar b → L_law_b129 NF q a b r1 r2 r3 r4 r5 r6 r7 r8 r9 c n w = L_law_b161 NF q a b r1 r2 r3 r4 r5 r6 r7 r8 r9 c n (ar b) (cd b n) := by
    intro n w hw
    unfold L_law_b129 cd
    rw [hw]
    by_cases c1 : b < 0
    · simp only [if_pos c1]
    · by_cases c2 : 15 < b
      · simp only [if_neg c1, if_pos c2]
      · by_cases c3 : n < ar b
        · simp only [if_neg c1, if_neg c2, if_pos c3]
        · simp only [if_neg c1, if_neg c2, if_neg c3]
  have h106 : ∀ n : Int32, L_law_b106 NF q a b r1 r2 r3 r4 r5 r6 r7 r8 r9 c n = L_law_b161 NF q a b r1 r2 r3 r4 r5 r6 r7 r8 r9 c n (ar b) (cd b n) := by
    intro n
    unfold L_law_b106
    by_cases c1 : 9 < b
    · by_cases c2 : b = 10
      · rw [if_pos c1, if_pos c2]; exact h129 n 1 (by unfold ar; rw [if_pos c1, if_pos c2])
      · rw [if_pos c1, if_neg c2]; exact h129 n 2 (by unfold ar; rw [if_pos c1, if_neg c2])
    · rw [if_neg c1]; exact h129 n 0 (by unfold ar; rw [if_neg c1])
  unfold L_law_b96
  by_cases c1 : c = 0
  · rw [if_pos c1] at hn ⊢; rw [hn]; exact h106 1
  · rw [if_neg c1] at hn ⊢; rw [hn]; exact h106 0
theorem ar0 {t : Int32} (h : ¬ (0 : Int32) < ar t) : ar t = 0 := by
  unfold ar at h ⊢
  by_cases c : 9 < t
  · exfalso; rw [if_pos c] at h; apply h; split <;> decide
  · rw [if_neg c]
/-- what the law reads of the object at the end -/
theorem rd (q : Rec) (a b r1 r2 len dep t0 t1 uv c : Int32) (e1 : gI q 1 = len) (e2 : gI q 2 = dep) (e5 : gI q 5 = 0) (h0 : X_tokenAt q 0 = some t0) (h1 : X_tokenAt q 1 = some t1) (hu : X_usedVars 20 q = some uv) (hc : ∀ cm, cm = (if dep = 1 then 1 else 0 : Int32) → L_law_b96 20 q a b r1 r2 len dep t0 t1 uv cm 0 c = some 1) :
  ((X_length q).bind fun r33 => (X_depth q).bind fun r35 => (X_tokenAt q (0 : Int32)).bind fun r37 => (X_tokenAt q (1 : Int32)).bind fun r39 => (X_usedVars 20 q).bind fun r41 => (X_isComplete q).bind fun r43 => (X_lastResult q).bind fun r45 => L_law_b96 20 q a b r1 r2 r33 r35 r37 r39 r41 r43 r45 c) = some 1 := by
  unfold X_length X_depth X_isComplete X_completeF X_lastResult
  rw [h0, h1, hu, e1, e2, e5]
  by_cases d : dep = 1
  · rw [if_pos d]; exact hc _ (by rw [if_pos d]; rfl)
  · rw [if_neg d]; exact hc _ (by rw [if_neg d]; rfl)
theorem two (q1 : Rec) (a b c n : Int32) (hl : gI q1 1 < gI q1 0) (e1 : gI q1 1 = n) (e2 : gI q1 2 = n) (e5 : gI q1 5 = 0) (hn : n = if c = 0 then 1 else 0) (ha : c = 0 → ¬ a < 0 ∧ gA q1 0 0 = a) :
  (bind2 (X_pushToken q1 b) fun r30 q31 => (X_length q31).bind fun r33 => (X_depth q31).bind fun r35 => (X_tokenAt q31 (0 : Int32)).bind fun r37 => (X_tokenAt q31 (1 : Int32)).bind fun r39 => (X_usedVars 20 q31).bind fun r41 => (X_isComplete q31).bind fun r43 => (X_lastResult q31).bind fun r45 => L_law_b96 20 q31 a b c r30 r33 r35 r37 r39 r41 r43 r45 c) = some 1 := by
  by_cases h : cd b n = 0
  · have hb := cd0 h
    rw [push_yes q1 b hl (by rw [e1, hn]; split <;> decide) (by rw [e2]; exact h), bind2_some]
    by_cases hc : c = 0
    · rw [if_pos hc] at hn
      subst hn
      obtain ⟨ha, ht⟩ := ha hc
      have g1 : gI (pushed q1 b) 1 = 2 := by show gI q1 1 + 1 = 2; rw [e1]; rfl
      have g0 : gA (pushed q1 b) 0 0 = a := by
        unfold pushed; simp only [gA_sI, gA_sA, e1]; rw [if_neg (by decide)]; exact ht
      have g0' : gA (pushed q1 b) 0 1 = b := by
        unfold pushed; simp only [gA_sI, gA_sA, e1]; rw [if_pos (by decide)]
      refine rd _ a b c 0 2 (1 + 1 - ar b) a b (uvt (uvt 0 a) b) c g1 (by show gI q1 2 + 1 - ar b = _; rw [e2]) rfl ?_ ?_ ?_ ?_
      · unfold X_tokenAt; rw [g1, if_neg (by decide), if_pos (by decide), chk_ok (by decide), g0]
      · unfold X_tokenAt; rw [g1, if_neg (by decide), if_pos (by decide), chk_ok (by decide), g0']
      · unfold X_usedVars
        rw [uvS 20 19 _ 0 0 (by rw [g1]; decide) (by decide) (by decide), uvS 20 18 _ _ (0 + 1) (by rw [g1]; decide) (by decide) (by decide), uvE 20 17 _ _ _ (by rw [g1]; decide), g0]
        show some (uvt (uvt 0 a) (gA (pushed q1 b) 0 1)) = _
        rw [g0']
      · intro cm hcm
        rw [blk _ _ _ _ _ _ _ _ _ _ _ _ _ _ 1 (by rw [if_pos hc]), h, uv7 _ hb.1, uv7 _ ha]
        unfold L_law_b161
        rw [if_pos rfl]
        generalize (1 + 1 - ar b : Int32) = d at hcm ⊢
        subst hcm
        by_cases k1 : 7 < a <;> by_cases k2 : 7 < b <;> by_cases k3 : d = 1 <;> simp [L_law_b189, L_law_b209, L_law_b222, L_law_b247, L_law_b266, L_law_b328, k1, k2, k3]
    · rw [if_neg hc] at hn
      subst hn
      have arb := ar0 hb.2.2
      have g1 : gI (pushed q1 b) 1 = 1 := by show gI q1 1 + 1 = 1; rw [e1]; rfl
      have g0 : gA (pushed q1 b) 0 0 = b := by
        unfold pushed; simp only [gA_sI, gA_sA, e1]; rw [if_pos (by decide)]
      refine rd _ a b c 0 1 1 b (-1) (uvt 0 b) c g1 (by show gI q1 2 + 1 - ar b = _; rw [e2, arb]; rfl) rfl ?_ ?_ ?_ ?_
      · unfold X_tokenAt; rw [g1, if_neg (by decide), if_pos (by decide), chk_ok (by decide), g0]
      · unfold X_tokenAt; rw [g1, if_neg (by decide), if_neg (by decide)]
      · unfold X_usedVars
        rw [uvS 20 19 _ 0 0 (by rw [g1]; decide) (by decide) (by decide), uvE 20 18 _ _ _ (by rw [g1]; decide), g0]
      · intro cm hcm
        rw [if_pos rfl] at hcm
        subst hcm
        rw [blk _ _ _ _ _ _ _ _ _ _ _ _ _ _ 0 (by rw [if_neg hc]), h, uv7 _ hb.1, arb]
        by_cases k2 : 7 < b <;> simp [L_law_b161, L_law_b189, L_law_b209, L_law_b222, L_law_b247, L_law_b266, L_law_b328, k2]
  · rw [push_no q1 b hl (by rw [e2]; exact h), bind2_some, e2]
    by_cases hc : c = 0
    · rw [if_pos hc] at hn
      subst hn
      obtain ⟨ha, ht⟩ := ha hc
      refine rd _ a b c _ 1 1 a (-1) (uvt 0 a) c e1 e2 e5 ?_ ?_ ?_ ?_
      · unfold X_tokenAt; rw [e1, if_neg (by decide), if_pos (by decide), chk_ok (by decide), ht]
      · unfold X_tokenAt; rw [e1, if_neg (by decide), if_neg (by decide)]
      · unfold X_usedVars
        rw [uvS 20 19 _ 0 0 (by rw [e1]; decide) (by decide) (by decide), uvE 20 18 _ _ _ (by rw [e1]; decide), ht]
      · intro cm hcm
        rw [if_pos rfl] at hcm
        subst hcm
        rw [blk _ _ _ _ _ _ _ _ _ _ _ _ _ _ 1 (by rw [if_pos hc]), uv7 _ ha]
        by_cases k1 : 7 < a <;> simp [L_law_b161, L_law_b189, L_law_b209, L_law_b222, L_law_b247, L_law_b266, L_law_b328, k1, h]
    · rw [if_neg hc] at hn
      subst hn
      refine rd _ a b c _ 0 0 (-1) (-1) 0 c e1 e2 e5 ?_ ?_ ?_ ?_
      · unfold X_tokenAt; rw [e1, if_neg (by decide), if_neg (by decide)]
      · unfold X_tokenAt; rw [e1, if_neg (by decide), if_neg (by decide)]
      · unfold X_usedVars
        rw [uvE 20 19 _ _ _ (by rw [e1]; decide)]
      · intro cm hcm
        rw [if_neg (by decide)] at hcm
        subst hcm
        rw [blk _ _ _ _ _ _ _ _ _ _ _ _ _ _ 0 (by rw [if_neg hc])]
        simp [L_law_b161, L_law_b189, L_law_b209, L_law_b222, L_law_b247, L_law_b266, L_law_b328, h]
theorem owed : ∀ i0 i1 i2 : Int32, ∃ NF : Nat, L_law NF i0 i1 i2 = some 1 := by
  intro i0 a b
  refine ⟨20, ?_⟩
  obtain ⟨r, e, e1, e2, l0, l1, e5, e6, e7, hz⟩ := init_e i0
  have hl : gI r 1 < gI r 0 := by rw [e1, lt_i, t0]; omega
  unfold L_law
  rw [e, Option.bind_some]
  have h10 : (10 : Int32).toInt = 10 := rfl
  by_cases h : cd a 0 = 0
  · obtain ⟨c1, c2, c3⟩ := cd0 h
    have ara := ar0 c3
    have c4 : a < 10 := by
      unfold ar at ara
      by_cases c : 9 < a
      · exfalso; rw [if_pos c] at ara; revert ara; split <;> decide
      · rw [lt_i, t9] at c; rw [lt_i, h10]; omega
    rw [push_yes r a hl (by rw [e1]; decide) (by rw [e2]; exact h), bind2_some]
    simp only [if_neg c1, if_neg c2, if_pos c4]
    refine two (pushed r a) a b 0 1 ?_ ?_ ?_ rfl rfl (fun _ => ⟨c1, ?_⟩)
    · show gI r 1 + 1 < gI r 0; rw [e1, lt_i]; have : (0 + 1 : Int32).toInt = 1 := rfl; omega
    · show gI r 1 + 1 = 1; rw [e1]; rfl
    · show gI r 2 + 1 - ar a = 1; rw [e2, ara]; rfl
    · unfold pushed; simp only [gA_sI, gA_sA, e1]; rw [if_pos (by decide)]
  · have hc : (if a < 0 then (-1 : Int32) else if 15 < a then -1 else if a < 10 then 0 else -3) = cd a 0 := by
      unfold cd at h ⊢
      by_cases c1 : a < 0
      · rw [if_pos c1, if_pos c1]
      · by_cases c2 : 15 < a
        · rw [if_neg c1, if_neg c1, if_pos c2, if_pos c2]
        · by_cases c3 : (0 : Int32) < ar a
          · rw [if_neg c1, if_neg c1, if_neg c2, if_neg c2, if_pos c3, if_neg]
            intro c4
            unfold ar at c3
            rw [if_neg (by rw [lt_i, t9]; rw [lt_i, h10] at c4; omega)] at c3
            exact absurd c3 (by decide)
          · rw [if_neg c1, if_neg c2, if_neg c3] at h; exact absurd rfl h
    rw [push_no r a hl (by rw [e2]; exact h), bind2_some, e2]
    have := two r a b (cd a 0) 0 hl e1 e2 e5 (by rw [if_neg h]) (fun g => absurd g h)
    by_cases c1 : a < 0
    · simp only [if_pos c1] at hc ⊢; rw [← hc] at this ⊢; exact this
    · by_cases c2 : 15 < a
      · simp only [if_neg c1, if_pos c2] at hc ⊢; rw [← hc] at this ⊢; exact this
      · by_cases c4 : a < 10
        · simp only [if_neg c1, if_neg c2, if_pos c4] at hc ⊢; rw [← hc] at this ⊢; exact this
        · simp only [if_neg c1, if_neg c2, if_neg c4] at hc ⊢; rw [← hc] at this ⊢; exact this
-- owed : ∀ i0 i1 i2 : Int32, ∃ NF : Nat, L_law NF i0 i1 i2 = some 1
--COMES--
set_option maxRecDepth 65536 in
set_option maxHeartbeats 4000000 in
theorem comes_1 {Post : Tables → Env → Array Value → State → Outcome → State → Prop} (hpost : ∀ tb e args s v u, (limb_1_1.after args s (.returned v) u = true ∧ limb_1_2.after args s (.returned v) u = true ∧ True) → FrameEnd s (.returned v) u (Jvm.fieldLocs frame_1_writes args s ++ Jvm.arrayLocs frame_1_arrays args s ++ Jvm.staticLocs frame_1_statics s) 24 512 → Post tb e args s (.returned v) u) :
    ArmFor flags0 classFile x code maxLocals ret World_1 tables_1 room_1 Calls_1 rest_1 Pre_1 Post := by
  intro l hfl _ _ p e ha hc hk s m args below hf hA hF happ hP
  obtain ⟨hcalls, hrest, hpre⟩ := hP
  obtain ⟨-, -, -, hnamed, -, -, -, hat⟩ := (Spec.applies_iff hf).mp happ
  obtain ⟨hg, hn⟩ := and_e (Cond.before_iff.mp (show (Jvm.Cond.and given_1 narrow_1).before args s = true from hpre))
  obtain ⟨hcnt, hg⟩ := and_e hg
  obtain ⟨w0, w1, w2, rfl⟩ : ∃ w0 w1 w2 : Value, args = #[w0, w1, w2] := by
    have hs : args.size = 3 := by simpa [Cond.value, given_1] using hcnt
    obtain ⟨L⟩ := args
    match L, hs with
    | [w0, w1, w2], _ => exact ⟨w0, w1, w2, rfl⟩
  have hw := fun d (hd : d ∈ tables_1) => atoms_spec (ws := Jvm.Cond.code x code maxLocals ret :: tables_1) hat d (List.mem_cons_of_mem _ hd)
  have hfit : Fit s := fun {y c} hc i hi => by
    obtain ⟨ha, rfl⟩ := Array.getElem?_eq_some_iff.mp hc
    have q := List.all_eq_true.mp ((Array.all_eq_true_iff_forall_mem.mp hF) _ (Array.getElem_mem ha)) i (List.mem_range.mpr hi)
    simpa [Array.getElem?_eq_getElem hi] using q
  obtain ⟨h0, hg⟩ := and_e hg
  obtain ⟨i0, e0⟩ := is_v h0
  obtain rfl : w0 = (.int i0) := Option.some.inj e0
  obtain ⟨h1, hg⟩ := and_e hg
  obtain ⟨i1, e1⟩ := is_v h1
  obtain rfl : w1 = (.int i1) := Option.some.inj e1
  have h2 := hg
  obtain ⟨i2, e2⟩ := is_v h2
  obtain rfl : w2 = (.int i2) := Option.some.inj e2
  obtain ⟨NF, hlaw⟩ := owed i0 i1 i2
  have hp := L_law_pay (C := (l, s, s.heap.size, #[.int i0, .int i1, .int i2])) hlaw hw s.heap (Rep.start s) tables_1
  obtain ⟨n, o, h1, h2, h3, v, L, rfl, ⟨N, G', -, rfl⟩, hq⟩ := hp p e ha hc hk s m _ below hf ((Spec.applies_iff_loose hf).mp happ).1 ⟨rfl, State.Warmed39.refl s, rfl⟩ trivial
  refine ⟨n, _, h1, h2, h3, hpost _ _ _ _ _ _ ⟨Cond.after_iff.mpr rfl, Cond.after_iff.mpr (eq_i res_at (Term.int_eval (1)) rfl), trivial⟩ ⟨hq.1, hq.2.1, (hq.2.2.sift fun y hy => Or.inr (N y hy)).mono (by decide) (by decide)⟩⟩
theorem main_1_1 : Claimed_1_1 := comes_1 fun _ _ _ _ _ _ h hF => ⟨h.1, hF⟩
theorem main_1_2 : Claimed_1_2 := comes_1 fun _ _ _ _ _ _ h hF => ⟨h.2.1, hF⟩
end Jvm.Pilot.@@N@@
namespace Jvm.Pilot.@@N@@
open Jvm Jvm.ClassFile Sem Op Lib Jvm.Free Jvm.Stand Jvm.Pilot.@@N@@.Jvm.D
/-! MADE BY PROGRAM (witnessworld.py) out of the Statement's table words and the real class files: 11 classes; the members and pool entries that the words name. The judged class is class 1, her method 1. -/
namespace start1
open Jvm.ClassFile
def u (s : String) : CpInfo := .utf8 (stringToUtf16 s)
/-- a pool by its gaps: so many unusable entries, then the entry; so many at the end -/
def gap : Nat → List CpInfo → List CpInfo
  | 0, r => r
  | n + 1, r => .unusable :: gap n r
def poolList (es : List (Nat × CpInfo)) (last : Nat) : List CpInfo := es.foldr (fun e r => gap e.1 (e.2 :: r)) (gap last [])
def pool (es : List (Nat × CpInfo)) (last : Nat) : Array CpInfo := ⟨poolList es last⟩
def fileOf (pool : Array CpInfo) (this : Nat) (attrs : Array Attribute := #[]) (ms : Array MethodInfo := #[]) (fl : Nat := 33) (sup : Nat := 0) (ifs : Array Nat := #[]) (fds : Array FieldInfo := #[]) : ClassFile where
  minorVersion := 0
  majorVersion := 65
  constantPool := pool
  accessFlags := fl
  thisClass := this
  superClass := sup
  interfaces := ifs
  fields := fds
  methods := ms
  attributes := attrs
def plain (name : String) (sup : Option ClassId) : Class where
  name := name
  kind := .ordinary
  loader := none
  accessFlags := 33
  super := sup
  interfaces := #[]
  cf := none
  fields := #[]
  methods := #[]
  instanceTypes := #[]
  staticTypes := #[]
  resolved := #[]
  callSites := []
  init := .initialized
  statics := none
  mirror := none

def pool0 : Array CpInfo := pool [(5, u "<init>"), (0, u "()V"), (1, .class_ 10), (1, u "java/lang/Object")] 113

def k0c0 : Code := { maxStack := 0, maxLocals := 1, code := object_method_1_code, exceptionTable := #[], attributes := #[] }
def k0m0 : Method := { name := "<init>", desc := "()V", sig := { parameters := [], returnType := none }, accessFlags := 1, code := some k0c0 }
/-- java/lang/Object -/
def k0 : Class := { plain "java/lang/Object" none with
  accessFlags := 33
  interfaces := #[]
  cf := some (fileOf pool0 8 #[] #[{ accessFlags := 1, nameIndex := 5, descriptorIndex := 6, attributes := #[] }] 33 0 #[] #[])
  fields := #[]
  methods := #[k0m0]
  instanceTypes := #[]
  staticTypes := #[]
  resolved := Array.replicate 124 none
  statics := none }

def pool1 : Array CpInfo := pool [(2, .class_ 4), (1, u "java/lang/Object"), (0, u "<init>"), (0, u "()V"), (0, .class_ 8), (0, u "SaturProver"), (0, .methodref 7 10), (0, .nameAndType 5 11), (0, u "(I)V"), (0, .methodref 7 13), (0, .nameAndType 14 15), (0, u "pushToken"), (0, u "(I)I"), (0, .methodref 7 17), (0, .nameAndType 18 19), (0, u "length"), (0, u "()I"), (0, .methodref 7 21), (0, .nameAndType 22 19), (0, u "depth"), (0, .methodref 7 24), (0, .nameAndType 25 15), (0, u "tokenAt"), (0, .methodref 7 27), (0, .nameAndType 28 19), (0, u "usedVars"), (0, .methodref 7 30), (0, .nameAndType 31 32), (0, u "isComplete"), (0, u "()Z"), (0, .methodref 7 34), (0, .nameAndType 35 19), (0, u "lastResult"), (0, .class_ 37), (0, u "SaturProverL2"), (2, u "law"), (0, u "(III)Z")] 3

def k1m0 : Method := { name := "<init>", desc := "()V", sig := { parameters := [], returnType := none }, accessFlags := 1, code := none }
def k1c1 : Code := { maxStack := 3, maxLocals := 22, code := code, exceptionTable := #[], attributes := #[] }
def k1m1 : Method := { name := "law", desc := "(III)Z", sig := { parameters := [.int, .int, .int], returnType := some .boolean }, accessFlags := 9, code := some k1c1 }
/-- SaturProverL2 -/
def k1 : Class := { plain "SaturProverL2" (some 0) with
  accessFlags := 49
  interfaces := #[]
  cf := some (fileOf pool1 36 #[] #[{ accessFlags := 1, nameIndex := 5, descriptorIndex := 6, attributes := #[] }, { accessFlags := 9, nameIndex := 40, descriptorIndex := 41, attributes := #[] }] 49 2 #[] #[])
  fields := #[]
  methods := #[k1m0, k1m1]
  instanceTypes := #[]
  staticTypes := #[]
  resolved := Array.replicate 45 none
  statics := none }

def pool2 : Array CpInfo := pool [(1, .methodref 2 3), (0, .class_ 4), (0, .nameAndType 5 6), (0, u "java/lang/Object"), (0, u "<init>"), (0, u "()V"), (0, .fieldref 8 9), (0, .class_ 10), (0, .nameAndType 11 12), (0, u "SaturProver"), (0, u "toks"), (0, u "[I"), (0, .fieldref 8 14), (0, .nameAndType 15 12), (0, u "saved"), (0, .fieldref 8 17), (0, .nameAndType 18 19), (0, u "stk"), (0, u "[J"), (0, .fieldref 8 21), (0, .nameAndType 22 19), (0, u "tabF"), (0, .fieldref 8 24), (0, .nameAndType 25 19), (0, u "tabS"), (0, .fieldref 8 27), (0, .nameAndType 28 19), (0, u "work"), (0, .fieldref 8 30), (0, .nameAndType 31 32), (0, u "cap"), (0, u "I"), (0, .fieldref 8 34), (0, .nameAndType 35 32), (0, u "n"), (0, .fieldref 8 37), (0, .nameAndType 38 32), (0, u "dep"), (0, .fieldref 8 40), (0, .nameAndType 41 32), (0, u "sn"), (0, .fieldref 8 43), (0, .nameAndType 44 45), (0, u "hasSaved"), (0, u "Z"), (0, .fieldref 8 47), (0, .nameAndType 48 45), (0, u "fValid"), (0, .methodref 8 50), (0, .nameAndType 51 6), (0, u "resetResult"), (0, .methodref 8 53), (0, .nameAndType 54 55), (0, u "arity"), (0, u "(I)I"), (0, .methodref 8 57), (0, .nameAndType 58 59), (0, u "completeF"), (0, u "()Z"), (18, u "()I"), (10, .fieldref 8 90), (0, .nameAndType 91 32), (0, u "res"), (0, .fieldref 8 93), (0, .nameAndType 94 32), (0, u "wit"), (7, u "(I)V"), (38, u "OK"), (2, u "ERR_ARG"), (1, u "ERR_FULL"), (1, u "ERR_UNDERFLOW"), (1, u "ERR_EMPTY"), (1, u "ERR_INCOMPLETE"), (1, u "ERR_NOSAVED"), (1, u "NONE"), (0, u "TAUTOLOGY"), (1, u "FALSIFIABLE"), (1, u "SATISFIABLE"), (1, u "UNSATISFIABLE"), (1, u "EQUIVALENT"), (1, u "DIFFERENT"), (1, u "T_FALSE"), (1, u "T_TRUE"), (1, u "T_NOT"), (1, u "T_AND"), (1, u "T_OR"), (1, u "T_IMP"), (1, u "T_EQV"), (1, u "T_XOR"), (1, u "NUM_VARS"), (0, u "NUM_MASKS"), (4, u "pushToken"), (3, u "length"), (1, u "depth"), (0, u "isComplete"), (0, u "tokenAt"), (0, u "usedVars"), (4, u "lastResult")] 3

def k2c0 : Code := { maxStack := 2, maxLocals := 3, code := prog_1_method_1_code, exceptionTable := #[], attributes := #[] }
def k2m0 : Method := { name := "<init>", desc := "(I)V", sig := { parameters := [.int], returnType := none }, accessFlags := 1, code := some k2c0 }
def k2c1 : Code := { maxStack := 3, maxLocals := 3, code := prog_1_method_2_code, exceptionTable := #[], attributes := #[] }
def k2m1 : Method := { name := "pushToken", desc := "(I)I", sig := { parameters := [.int], returnType := some .int }, accessFlags := 1, code := some k2c1 }
def k2c2 : Code := { maxStack := 1, maxLocals := 1, code := prog_1_method_6_code, exceptionTable := #[], attributes := #[] }
def k2m2 : Method := { name := "length", desc := "()I", sig := { parameters := [], returnType := some .int }, accessFlags := 1, code := some k2c2 }
def k2c3 : Code := { maxStack := 1, maxLocals := 1, code := prog_1_method_8_code, exceptionTable := #[], attributes := #[] }
def k2m3 : Method := { name := "depth", desc := "()I", sig := { parameters := [], returnType := some .int }, accessFlags := 1, code := some k2c3 }
def k2c4 : Code := { maxStack := 1, maxLocals := 1, code := prog_1_method_9_code, exceptionTable := #[], attributes := #[] }
def k2m4 : Method := { name := "isComplete", desc := "()Z", sig := { parameters := [], returnType := some .boolean }, accessFlags := 1, code := some k2c4 }
def k2c5 : Code := { maxStack := 2, maxLocals := 2, code := prog_1_method_10_code, exceptionTable := #[], attributes := #[] }
def k2m5 : Method := { name := "tokenAt", desc := "(I)I", sig := { parameters := [.int], returnType := some .int }, accessFlags := 1, code := some k2c5 }
def k2c6 : Code := { maxStack := 3, maxLocals := 4, code := prog_1_method_11_code, exceptionTable := #[], attributes := #[] }
def k2m6 : Method := { name := "usedVars", desc := "()I", sig := { parameters := [], returnType := some .int }, accessFlags := 1, code := some k2c6 }
def k2c7 : Code := { maxStack := 1, maxLocals := 1, code := prog_1_method_16_code, exceptionTable := #[], attributes := #[] }
def k2m7 : Method := { name := "lastResult", desc := "()I", sig := { parameters := [], returnType := some .int }, accessFlags := 1, code := some k2c7 }
def k2c8 : Code := { maxStack := 2, maxLocals := 1, code := prog_1_method_18_code, exceptionTable := #[], attributes := #[] }
def k2m8 : Method := { name := "completeF", desc := "()Z", sig := { parameters := [], returnType := some .boolean }, accessFlags := 2, code := some k2c8 }
def k2c9 : Code := { maxStack := 2, maxLocals := 1, code := prog_1_method_19_code, exceptionTable := #[], attributes := #[] }
def k2m9 : Method := { name := "resetResult", desc := "()V", sig := { parameters := [], returnType := none }, accessFlags := 2, code := some k2c9 }
def k2c10 : Code := { maxStack := 2, maxLocals := 2, code := prog_1_method_21_code, exceptionTable := #[], attributes := #[] }
def k2m10 : Method := { name := "arity", desc := "(I)I", sig := { parameters := [.int], returnType := some .int }, accessFlags := 2, code := some k2c10 }
/-- SaturProver -/
def k2 : Class := { plain "SaturProver" (some 0) with
  accessFlags := 49
  interfaces := #[]
  cf := some (fileOf pool2 8 #[] #[{ accessFlags := 1, nameIndex := 5, descriptorIndex := 102, attributes := #[] }, { accessFlags := 1, nameIndex := 191, descriptorIndex := 55, attributes := #[] }, { accessFlags := 1, nameIndex := 195, descriptorIndex := 78, attributes := #[] }, { accessFlags := 1, nameIndex := 197, descriptorIndex := 78, attributes := #[] }, { accessFlags := 1, nameIndex := 198, descriptorIndex := 59, attributes := #[] }, { accessFlags := 1, nameIndex := 199, descriptorIndex := 55, attributes := #[] }, { accessFlags := 1, nameIndex := 200, descriptorIndex := 78, attributes := #[] }, { accessFlags := 1, nameIndex := 205, descriptorIndex := 78, attributes := #[] }, { accessFlags := 2, nameIndex := 58, descriptorIndex := 59, attributes := #[] }, { accessFlags := 2, nameIndex := 51, descriptorIndex := 6, attributes := #[] }, { accessFlags := 2, nameIndex := 54, descriptorIndex := 55, attributes := #[] }] 49 2 #[] #[{ accessFlags := 25, nameIndex := 141, descriptorIndex := 32, attributes := #[] }, { accessFlags := 25, nameIndex := 144, descriptorIndex := 32, attributes := #[] }, { accessFlags := 25, nameIndex := 146, descriptorIndex := 32, attributes := #[] }, { accessFlags := 25, nameIndex := 148, descriptorIndex := 32, attributes := #[] }, { accessFlags := 25, nameIndex := 150, descriptorIndex := 32, attributes := #[] }, { accessFlags := 25, nameIndex := 152, descriptorIndex := 32, attributes := #[] }, { accessFlags := 25, nameIndex := 154, descriptorIndex := 32, attributes := #[] }, { accessFlags := 25, nameIndex := 156, descriptorIndex := 32, attributes := #[] }, { accessFlags := 25, nameIndex := 157, descriptorIndex := 32, attributes := #[] }, { accessFlags := 25, nameIndex := 159, descriptorIndex := 32, attributes := #[] }, { accessFlags := 25, nameIndex := 161, descriptorIndex := 32, attributes := #[] }, { accessFlags := 25, nameIndex := 163, descriptorIndex := 32, attributes := #[] }, { accessFlags := 25, nameIndex := 165, descriptorIndex := 32, attributes := #[] }, { accessFlags := 25, nameIndex := 167, descriptorIndex := 32, attributes := #[] }, { accessFlags := 25, nameIndex := 169, descriptorIndex := 32, attributes := #[] }, { accessFlags := 25, nameIndex := 171, descriptorIndex := 32, attributes := #[] }, { accessFlags := 25, nameIndex := 173, descriptorIndex := 32, attributes := #[] }, { accessFlags := 25, nameIndex := 175, descriptorIndex := 32, attributes := #[] }, { accessFlags := 25, nameIndex := 177, descriptorIndex := 32, attributes := #[] }, { accessFlags := 25, nameIndex := 179, descriptorIndex := 32, attributes := #[] }, { accessFlags := 25, nameIndex := 181, descriptorIndex := 32, attributes := #[] }, { accessFlags := 25, nameIndex := 183, descriptorIndex := 32, attributes := #[] }, { accessFlags := 25, nameIndex := 185, descriptorIndex := 32, attributes := #[] }, { accessFlags := 25, nameIndex := 186, descriptorIndex := 32, attributes := #[] }, { accessFlags := 2, nameIndex := 31, descriptorIndex := 32, attributes := #[] }, { accessFlags := 18, nameIndex := 11, descriptorIndex := 12, attributes := #[] }, { accessFlags := 2, nameIndex := 35, descriptorIndex := 32, attributes := #[] }, { accessFlags := 2, nameIndex := 38, descriptorIndex := 32, attributes := #[] }, { accessFlags := 18, nameIndex := 15, descriptorIndex := 12, attributes := #[] }, { accessFlags := 2, nameIndex := 41, descriptorIndex := 32, attributes := #[] }, { accessFlags := 2, nameIndex := 44, descriptorIndex := 45, attributes := #[] }, { accessFlags := 2, nameIndex := 91, descriptorIndex := 32, attributes := #[] }, { accessFlags := 2, nameIndex := 94, descriptorIndex := 32, attributes := #[] }, { accessFlags := 18, nameIndex := 18, descriptorIndex := 19, attributes := #[] }, { accessFlags := 18, nameIndex := 22, descriptorIndex := 19, attributes := #[] }, { accessFlags := 18, nameIndex := 25, descriptorIndex := 19, attributes := #[] }, { accessFlags := 2, nameIndex := 48, descriptorIndex := 45, attributes := #[] }, { accessFlags := 18, nameIndex := 28, descriptorIndex := 19, attributes := #[] }])
  fields := #[{ name := "OK", type := .int, accessFlags := 25, slot := 0, constantValue := 0 }, { name := "ERR_ARG", type := .int, accessFlags := 25, slot := 1, constantValue := 0 }, { name := "ERR_FULL", type := .int, accessFlags := 25, slot := 2, constantValue := 0 }, { name := "ERR_UNDERFLOW", type := .int, accessFlags := 25, slot := 3, constantValue := 0 }, { name := "ERR_EMPTY", type := .int, accessFlags := 25, slot := 4, constantValue := 0 }, { name := "ERR_INCOMPLETE", type := .int, accessFlags := 25, slot := 5, constantValue := 0 }, { name := "ERR_NOSAVED", type := .int, accessFlags := 25, slot := 6, constantValue := 0 }, { name := "NONE", type := .int, accessFlags := 25, slot := 7, constantValue := 0 }, { name := "TAUTOLOGY", type := .int, accessFlags := 25, slot := 8, constantValue := 0 }, { name := "FALSIFIABLE", type := .int, accessFlags := 25, slot := 9, constantValue := 0 }, { name := "SATISFIABLE", type := .int, accessFlags := 25, slot := 10, constantValue := 0 }, { name := "UNSATISFIABLE", type := .int, accessFlags := 25, slot := 11, constantValue := 0 }, { name := "EQUIVALENT", type := .int, accessFlags := 25, slot := 12, constantValue := 0 }, { name := "DIFFERENT", type := .int, accessFlags := 25, slot := 13, constantValue := 0 }, { name := "T_FALSE", type := .int, accessFlags := 25, slot := 14, constantValue := 0 }, { name := "T_TRUE", type := .int, accessFlags := 25, slot := 15, constantValue := 0 }, { name := "T_NOT", type := .int, accessFlags := 25, slot := 16, constantValue := 0 }, { name := "T_AND", type := .int, accessFlags := 25, slot := 17, constantValue := 0 }, { name := "T_OR", type := .int, accessFlags := 25, slot := 18, constantValue := 0 }, { name := "T_IMP", type := .int, accessFlags := 25, slot := 19, constantValue := 0 }, { name := "T_EQV", type := .int, accessFlags := 25, slot := 20, constantValue := 0 }, { name := "T_XOR", type := .int, accessFlags := 25, slot := 21, constantValue := 0 }, { name := "NUM_VARS", type := .int, accessFlags := 25, slot := 22, constantValue := 0 }, { name := "NUM_MASKS", type := .int, accessFlags := 25, slot := 23, constantValue := 0 }, { name := "cap", type := .int, accessFlags := 2, slot := 0, constantValue := 0 }, { name := "toks", type := (.array .int), accessFlags := 18, slot := 1, constantValue := 0 }, { name := "n", type := .int, accessFlags := 2, slot := 2, constantValue := 0 }, { name := "dep", type := .int, accessFlags := 2, slot := 3, constantValue := 0 }, { name := "saved", type := (.array .int), accessFlags := 18, slot := 4, constantValue := 0 }, { name := "sn", type := .int, accessFlags := 2, slot := 5, constantValue := 0 }, { name := "hasSaved", type := .boolean, accessFlags := 2, slot := 6, constantValue := 0 }, { name := "res", type := .int, accessFlags := 2, slot := 7, constantValue := 0 }, { name := "wit", type := .int, accessFlags := 2, slot := 8, constantValue := 0 }, { name := "stk", type := (.array .long), accessFlags := 18, slot := 9, constantValue := 0 }, { name := "tabF", type := (.array .long), accessFlags := 18, slot := 10, constantValue := 0 }, { name := "tabS", type := (.array .long), accessFlags := 18, slot := 11, constantValue := 0 }, { name := "fValid", type := .boolean, accessFlags := 2, slot := 12, constantValue := 0 }, { name := "work", type := (.array .long), accessFlags := 18, slot := 13, constantValue := 0 }]
  methods := #[k2m0, k2m1, k2m2, k2m3, k2m4, k2m5, k2m6, k2m7, k2m8, k2m9, k2m10]
  instanceTypes := #[.int, (.array .int), .int, .int, (.array .int), .int, .boolean, .int, .int, (.array .long), (.array .long), (.array .long), .boolean, (.array .long)]
  staticTypes := #[.int, .int, .int, .int, .int, .int, .int, .int, .int, .int, .int, .int, .int, .int, .int, .int, .int, .int, .int, .int, .int, .int, .int, .int]
  resolved := Array.replicate 209 none
  statics := none }

def pool3 : Array CpInfo := pool [(1, u "java/lang/Cloneable"), (0, .class_ 1), (0, u "java/lang/Object"), (0, .class_ 3)] 3

/-- java/lang/Cloneable -/
def k3 : Class := { plain "java/lang/Cloneable" (some 0) with
  accessFlags := 1537
  interfaces := #[]
  cf := some (fileOf pool3 2 #[] #[] 1537 4 #[] #[])
  fields := #[]
  methods := #[]
  instanceTypes := #[]
  staticTypes := #[]
  resolved := Array.replicate 8 none
  statics := none }

def pool4 : Array CpInfo := pool [(1, u "java/io/Serializable"), (0, .class_ 1), (0, u "java/lang/Object"), (0, .class_ 3)] 3

/-- java/io/Serializable -/
def k4 : Class := { plain "java/io/Serializable" (some 0) with
  accessFlags := 1537
  interfaces := #[]
  cf := some (fileOf pool4 2 #[] #[] 1537 4 #[] #[])
  fields := #[]
  methods := #[]
  instanceTypes := #[]
  staticTypes := #[]
  resolved := Array.replicate 8 none
  statics := none }

/-- the primitive byte -/
def k5 : Class := { plain "byte" none with kind := .primitive 'B', accessFlags := 0x411 }
/-- [B -/
def k6 : Class := { plain "[B" (some 0) with kind := .array 5 .byte, interfaces := #[3, 4], accessFlags := 1041 }

/-- the primitive int -/
def k7 : Class := { plain "int" none with kind := .primitive 'I', accessFlags := 0x411 }
/-- [I -/
def k8 : Class := { plain "[I" (some 0) with kind := .array 7 .int, interfaces := #[3, 4], accessFlags := 1041 }

/-- the primitive long -/
def k9 : Class := { plain "long" none with kind := .primitive 'J', accessFlags := 0x411 }
/-- [J -/
def k10 : Class := { plain "[J" (some 0) with kind := .array 9 .long, interfaces := #[3, 4], accessFlags := 1041 }

def heap : Heap := #[]
def classes : Array Class := #[k0, k1, k2, k3, k4, k5, k6, k7, k8, k9, k10]
def interned : List (Array UInt16 × Addr) := []
def slotsUsed : Nat := 0
def theMethod : MethodId := ⟨1, 1⟩
def args0 : Array Value := #[.int 9, .int 3, .int 10]
def aboutOver (below : List Frame) : State where
  vm := { classes := classes, interned := interned.toArray }
  heap := heap
  slotsUsed := slotsUsed
  threads := #[{ frames := .invoking theMethod args0 :: below }]
def below0 : List Frame := [.native { method := ⟨0, 0⟩, args := #[] }]
def about1 : State := aboutOver below0
def p0 : Program := .bare "" "" ""
def e0 : Env := launch0.env 0 0 0
theorem w_frames : about1.frames = Frame.invoking theMethod args0 :: below0 := rfl
set_option maxRecDepth 65536 in
theorem w_args : argsFit about1.vm theMethod args0 = true := by decide +kernel
set_option maxRecDepth 65536 in
theorem w_heap : heapFits about1 = true := by decide +kernel
set_option maxRecDepth 65536 in
theorem w_runnable : about1.curStatus? = some .runnable := by decide +kernel
set_option maxRecDepth 65536 in
theorem w_alone : about1.alone = true := by decide +kernel
set_option maxRecDepth 65536 in
theorem w_named : about1.methodNamed? x = some theMethod := by decide +kernel
set_option maxRecDepth 65536 in
theorem w_hears : about1.hears theMethod below0 = true := by decide +kernel
set_option maxRecDepth 65536 in
theorem w_ripe : about1.ripe theMethod args0 below0 = true := by decide +kernel
theorem w_running : about1.status = .running := rfl
set_option maxRecDepth 65536 in
theorem w_room : about1.hasRoom e0.platform room_1 = true :=
  launch0.hasRoom_least _ room_1 (by decide +kernel) (by decide +kernel) (by decide +kernel) (by decide +kernel) (by decide +kernel) (by decide +kernel)
theorem allAtoms_all (ts : List Jvm.Cond) (a : Array Jvm.Value) (st : Jvm.State) : (allAtoms ts).before a st = ts.all (fun c => c.before a st) := by
  induction ts with
  | nil => rfl
  | cons c t ih =>
    show (Jvm.Cond.and c (allAtoms t)).before a st = _
    rw [Jvm.Cond.before_and, ih, List.all_cons]
def words1 : List Jvm.Cond := Jvm.Cond.code x code maxLocals ret :: tables_1
/-- a 'code' word, met by the world's own term for the bytes: nothing is compared byte by byte -/
theorem code_word {y : MethodName} {bytes : ByteArray} {mx : Nat} {rt : Option FieldType} {a : Array Value} {s : State} {m : MethodId} {meth : Method} {c : Code} (h1 : s.methodNamed? y = some m) (h2 : s.vm.method? m = some meth) (h3 : meth.code = some c) (h4 : c.code = bytes)
    (h5 : (c.maxLocals == mx && c.exceptionTable.isEmpty && decide (c.maxStack ≤ mostOperands) && decide (meth.sig.returnType = rt) && !meth.locks && decide (parseMethodDescriptor y.desc = some meth.sig)) = true) : (Jvm.Cond.code y bytes mx rt).before a s = true := by
  simp only [Bool.and_eq_true, beq_iff_eq, Bool.not_eq_true', decide_eq_true_eq] at h5
  obtain ⟨⟨⟨⟨⟨g1, g2⟩, g3⟩, g4⟩, g5⟩, g6⟩ := h5
  simp [Cond.before, Cond.holds, Cond.value, h1, h2, h3, h4, g1, g2, g3, g4, g5, g6]
def isCode : Jvm.Cond → Bool
  | .code _ _ _ _ => true
  | _ => false
theorem all_split {L : List Jvm.Cond} {P : Jvm.Cond → Bool} (h1 : L.all (fun c => isCode c || P c) = true) (h2 : ∀ c ∈ L.filter isCode, P c = true) : L.all P = true := by
  refine List.all_eq_true.mpr fun c hc => ?_
  have h := List.all_eq_true.mp h1 c hc
  rcases Bool.eq_false_or_eq_true (isCode c) with hi | hi
  · exact h2 c (List.mem_filter.mpr ⟨hc, hi⟩)
  · simpa [hi] using h
set_option maxRecDepth 65536 in
theorem w_c0 : (Jvm.Cond.code x code maxLocals ret).before args0 about1 = true := code_word (m := ⟨1, 1⟩) (meth := k1m1) (c := k1c1) (by decide +kernel) rfl rfl rfl (by decide +kernel)
set_option maxRecDepth 65536 in
theorem w_c1 : (Jvm.Cond.code ({ cls := "SaturProver", name := "<init>", desc := "(I)V" } : Jvm.MethodName) prog_1_method_1_code (3 : Nat) (Option.none : Option Jvm.ClassFile.FieldType)).before args0 about1 = true := code_word (m := ⟨2, 0⟩) (meth := k2m0) (c := k2c0) (by decide +kernel) rfl rfl rfl (by decide +kernel)
set_option maxRecDepth 65536 in
theorem w_c2 : (Jvm.Cond.code ({ cls := "java/lang/Object", name := "<init>", desc := "()V" } : Jvm.MethodName) object_method_1_code (1 : Nat) (Option.none : Option Jvm.ClassFile.FieldType)).before args0 about1 = true := code_word (m := ⟨0, 0⟩) (meth := k0m0) (c := k0c0) (by decide +kernel) rfl rfl rfl (by decide +kernel)
set_option maxRecDepth 65536 in
theorem w_c3 : (Jvm.Cond.code ({ cls := "SaturProver", name := "resetResult", desc := "()V" } : Jvm.MethodName) prog_1_method_19_code (1 : Nat) (Option.none : Option Jvm.ClassFile.FieldType)).before args0 about1 = true := code_word (m := ⟨2, 9⟩) (meth := k2m9) (c := k2c9) (by decide +kernel) rfl rfl rfl (by decide +kernel)
set_option maxRecDepth 65536 in
theorem w_c4 : (Jvm.Cond.code ({ cls := "SaturProver", name := "pushToken", desc := "(I)I" } : Jvm.MethodName) prog_1_method_2_code (3 : Nat) (Option.some Jvm.ClassFile.FieldType.int)).before args0 about1 = true := code_word (m := ⟨2, 1⟩) (meth := k2m1) (c := k2c1) (by decide +kernel) rfl rfl rfl (by decide +kernel)
set_option maxRecDepth 65536 in
theorem w_c5 : (Jvm.Cond.code ({ cls := "SaturProver", name := "arity", desc := "(I)I" } : Jvm.MethodName) prog_1_method_21_code (2 : Nat) (Option.some Jvm.ClassFile.FieldType.int)).before args0 about1 = true := code_word (m := ⟨2, 10⟩) (meth := k2m10) (c := k2c10) (by decide +kernel) rfl rfl rfl (by decide +kernel)
set_option maxRecDepth 65536 in
theorem w_c6 : (Jvm.Cond.code ({ cls := "SaturProver", name := "length", desc := "()I" } : Jvm.MethodName) prog_1_method_6_code (1 : Nat) (Option.some Jvm.ClassFile.FieldType.int)).before args0 about1 = true := code_word (m := ⟨2, 2⟩) (meth := k2m2) (c := k2c2) (by decide +kernel) rfl rfl rfl (by decide +kernel)
set_option maxRecDepth 65536 in
theorem w_c7 : (Jvm.Cond.code ({ cls := "SaturProver", name := "depth", desc := "()I" } : Jvm.MethodName) prog_1_method_8_code (1 : Nat) (Option.some Jvm.ClassFile.FieldType.int)).before args0 about1 = true := code_word (m := ⟨2, 3⟩) (meth := k2m3) (c := k2c3) (by decide +kernel) rfl rfl rfl (by decide +kernel)
set_option maxRecDepth 65536 in
theorem w_c8 : (Jvm.Cond.code ({ cls := "SaturProver", name := "tokenAt", desc := "(I)I" } : Jvm.MethodName) prog_1_method_10_code (2 : Nat) (Option.some Jvm.ClassFile.FieldType.int)).before args0 about1 = true := code_word (m := ⟨2, 5⟩) (meth := k2m5) (c := k2c5) (by decide +kernel) rfl rfl rfl (by decide +kernel)
set_option maxRecDepth 65536 in
theorem w_c9 : (Jvm.Cond.code ({ cls := "SaturProver", name := "usedVars", desc := "()I" } : Jvm.MethodName) prog_1_method_11_code (4 : Nat) (Option.some Jvm.ClassFile.FieldType.int)).before args0 about1 = true := code_word (m := ⟨2, 6⟩) (meth := k2m6) (c := k2c6) (by decide +kernel) rfl rfl rfl (by decide +kernel)
set_option maxRecDepth 65536 in
theorem w_c10 : (Jvm.Cond.code ({ cls := "SaturProver", name := "isComplete", desc := "()Z" } : Jvm.MethodName) prog_1_method_9_code (1 : Nat) (Option.some Jvm.ClassFile.FieldType.boolean)).before args0 about1 = true := code_word (m := ⟨2, 4⟩) (meth := k2m4) (c := k2c4) (by decide +kernel) rfl rfl rfl (by decide +kernel)
set_option maxRecDepth 65536 in
theorem w_c11 : (Jvm.Cond.code ({ cls := "SaturProver", name := "completeF", desc := "()Z" } : Jvm.MethodName) prog_1_method_18_code (1 : Nat) (Option.some Jvm.ClassFile.FieldType.boolean)).before args0 about1 = true := code_word (m := ⟨2, 8⟩) (meth := k2m8) (c := k2c8) (by decide +kernel) rfl rfl rfl (by decide +kernel)
set_option maxRecDepth 65536 in
theorem w_c12 : (Jvm.Cond.code ({ cls := "SaturProver", name := "lastResult", desc := "()I" } : Jvm.MethodName) prog_1_method_16_code (1 : Nat) (Option.some Jvm.ClassFile.FieldType.int)).before args0 about1 = true := code_word (m := ⟨2, 7⟩) (meth := k2m7) (c := k2c7) (by decide +kernel) rfl rfl rfl (by decide +kernel)
def codes1 : List Jvm.Cond := [Jvm.Cond.code x code maxLocals ret, Jvm.Cond.code ({ cls := "SaturProver", name := "<init>", desc := "(I)V" } : Jvm.MethodName) prog_1_method_1_code (3 : Nat) (Option.none : Option Jvm.ClassFile.FieldType), Jvm.Cond.code ({ cls := "java/lang/Object", name := "<init>", desc := "()V" } : Jvm.MethodName) object_method_1_code (1 : Nat) (Option.none : Option Jvm.ClassFile.FieldType), Jvm.Cond.code ({ cls := "SaturProver", name := "resetResult", desc := "()V" } : Jvm.MethodName) prog_1_method_19_code (1 : Nat) (Option.none : Option Jvm.ClassFile.FieldType), Jvm.Cond.code ({ cls := "SaturProver", name := "pushToken", desc := "(I)I" } : Jvm.MethodName) prog_1_method_2_code (3 : Nat) (Option.some Jvm.ClassFile.FieldType.int), Jvm.Cond.code ({ cls := "SaturProver", name := "arity", desc := "(I)I" } : Jvm.MethodName) prog_1_method_21_code (2 : Nat) (Option.some Jvm.ClassFile.FieldType.int), Jvm.Cond.code ({ cls := "SaturProver", name := "length", desc := "()I" } : Jvm.MethodName) prog_1_method_6_code (1 : Nat) (Option.some Jvm.ClassFile.FieldType.int), Jvm.Cond.code ({ cls := "SaturProver", name := "depth", desc := "()I" } : Jvm.MethodName) prog_1_method_8_code (1 : Nat) (Option.some Jvm.ClassFile.FieldType.int), Jvm.Cond.code ({ cls := "SaturProver", name := "tokenAt", desc := "(I)I" } : Jvm.MethodName) prog_1_method_10_code (2 : Nat) (Option.some Jvm.ClassFile.FieldType.int), Jvm.Cond.code ({ cls := "SaturProver", name := "usedVars", desc := "()I" } : Jvm.MethodName) prog_1_method_11_code (4 : Nat) (Option.some Jvm.ClassFile.FieldType.int), Jvm.Cond.code ({ cls := "SaturProver", name := "isComplete", desc := "()Z" } : Jvm.MethodName) prog_1_method_9_code (1 : Nat) (Option.some Jvm.ClassFile.FieldType.boolean), Jvm.Cond.code ({ cls := "SaturProver", name := "completeF", desc := "()Z" } : Jvm.MethodName) prog_1_method_18_code (1 : Nat) (Option.some Jvm.ClassFile.FieldType.boolean), Jvm.Cond.code ({ cls := "SaturProver", name := "lastResult", desc := "()I" } : Jvm.MethodName) prog_1_method_16_code (1 : Nat) (Option.some Jvm.ClassFile.FieldType.int)]
set_option maxRecDepth 65536 in
theorem codes_eq : words1.filter isCode = codes1 := rfl
theorem w_codes : ∀ c ∈ words1.filter isCode, c.before args0 about1 = true := by
  rw [codes_eq]
  intro c hc
  simp only [codes1, List.mem_cons, List.not_mem_nil, or_false] at hc
  rcases hc with rfl | rfl | rfl | rfl | rfl | rfl | rfl | rfl | rfl | rfl | rfl | rfl | rfl
  · exact w_c0
  · exact w_c1
  · exact w_c2
  · exact w_c3
  · exact w_c4
  · exact w_c5
  · exact w_c6
  · exact w_c7
  · exact w_c8
  · exact w_c9
  · exact w_c10
  · exact w_c11
  · exact w_c12
set_option maxRecDepth 65536 in
theorem w_t1 : (words1.take 24).all (fun c => isCode c || c.before args0 about1) = true := by decide +kernel
set_option maxRecDepth 65536 in
theorem w_t2 : ((words1.drop 24).take 24).all (fun c => isCode c || c.before args0 about1) = true := by decide +kernel
set_option maxRecDepth 65536 in
theorem w_t3 : (((words1.drop 24).drop 24).take 24).all (fun c => isCode c || c.before args0 about1) = true := by decide +kernel
set_option maxRecDepth 65536 in
theorem w_t4 : (((words1.drop 24).drop 24).drop 24).all (fun c => isCode c || c.before args0 about1) = true := by decide +kernel
theorem w_tables : (allAtoms (Jvm.Cond.code x code maxLocals ret :: tables_1)).before args0 about1 = true := by
  rw [allAtoms_all]
  show words1.all (fun c => c.before args0 about1) = true
  refine all_split ?_ w_codes
  rw [← List.take_append_drop 24 words1, List.all_append, w_t1, ← List.take_append_drop 24 (words1.drop 24), List.all_append, w_t2, ← List.take_append_drop 24 ((words1.drop 24).drop 24), List.all_append, w_t3, w_t4]
  rfl
set_option maxRecDepth 65536 in
theorem w_case : (Jvm.Cond.and given_1 narrow_1).before args0 about1 = true := by decide +kernel
theorem w_applies : (headSpec (Jvm.Cond.code x code maxLocals ret :: tables_1) room_1).applies x e0.platform about1 = true :=
  (Spec.applies_iff w_frames).mpr ⟨w_running, w_runnable, w_alone, w_named, w_hears, w_ripe, w_room, w_tables⟩
theorem atStart : AtStart classFile x code maxLocals ret World_1 tables_1 room_1 Calls_1 rest_1 Pre_1 launch0 p0 e0 about1 theMethod args0 below0 :=
  ⟨lists_1, trivial, launch0.admits_env _ _ _, launch0.least_env, fairChoices_fair.cas, fairChoices_fair.clock, w_frames, w_args, w_heap, w_applies, trivial, trivial, w_case⟩
end start1
theorem witness_1 : WitnessClaimed_1 := ⟨start1.p0, start1.e0, start1.about1, start1.theMethod, start1.args0, start1.below0, start1.atStart⟩
end Jvm.Pilot.@@N@@
