import JvmDerived
import JvmDerived.Pilot.@@N@@Statement
import JvmDerived.Pilot.@@N@@Code
set_option linter.unusedVariables false
set_option linter.unusedSimpArgs false
namespace Jvm.RoadKit
open Sem ClassFile Op Lib Jvm.Stand Jvm.Free Jvm.LawKit
section New
variable {p : Program} {l : Launch} {e : Env} {R : Room} {s : State} {m : MethodId} {args : Array Value} {below : List Frame} {meth : Method} {c : Code} {T : State} {locs : List Loc} {cells slots : Nat}
theorem retI (X : Stand p l e R s m args below meth c T locs cells slots) (hx : p.tables.exec = Jvm.exec) {pc : Nat} {Ls : Array Slot} {z : Int32} {rest : List Value} (hret : meth.sig.returnType = some .int) (hd : decode c.code pc = .ok (.ireturn, 1)) {fs : List Frame}
    (hl : ∀ (f : JFrame) (acts : List Action), f.method = m → f.locked = none → f.entered = [] → (doReturn e (T.setTop f) acts (some (.int z))).1 = T.setFrames fs) : Steps p.tables e below (T.setTop (mkF m pc Ls (.int z :: rest))) (T.setFrames fs) := by
  have hm' : T.vm.method? m = some meth := X.method'
  have hn : narrow .int (.int z) = .int z := rfl
  show Steps p.tables e below (T.setTop { method := m, pc := pc, locals := Ls, stack := _ :: rest, locked := none }) _
  jvm_step X.here [X.here.top, hx, hd, hm', hret, hn]
  first | (intro acts; rw [hl _ acts rfl rfl rfl]) | rw [hl _ _ rfl rfl rfl]
  exact Steps.refl _
end New
end Jvm.RoadKit
namespace Jvm.Pilot.@@N@@
open Jvm Jvm.ClassFile Sem Op Lib Jvm.Free Jvm.Stand Jvm.LawKit Jvm.RoadKit Bundle Jvm.Pilot.@@N@@.Jvm.D
/- records: scalars, int-like arrays, long arrays -/
abbrev Rec : Type := (Nat → Int32) × (Nat → Int32 → Int32) × (Nat → Int32 → Int64)
def zrec : Rec := (fun _ => 0, fun _ _ => 0, fun _ _ => 0)
def gI (ob : Rec) (k : Nat) : Int32 := ob.1 k
def gA (ob : Rec) (k : Nat) (i : Int32) : Int32 := ob.2.1 k i
def gJ (ob : Rec) (k : Nat) (i : Int32) : Int64 := ob.2.2 k i
def sI (ob : Rec) (k : Nat) (v : Int32) : Rec := (fun j => if j = k then v else ob.1 j, ob.2)
def sA (ob : Rec) (k : Nat) (i v : Int32) : Rec := (ob.1, fun j x => if j = k ∧ x = i then v else ob.2.1 j x, ob.2.2)
def sJ (ob : Rec) (k : Nat) (i : Int32) (v : Int64) : Rec := (ob.1, ob.2.1, fun j x => if j = k ∧ x = i then v else ob.2.2 j x)
def chk {γ : Type} (n i : Int32) (A : Option γ) : Option γ := if i < 0 then none else if i < n then A else none
def dvz {γ : Type} (y : Int32) (A : Option γ) : Option γ := if y = 0 then none else A
def bind2 {α β γ : Type} (o : Option (α × β)) (f : α → β → Option γ) : Option γ := o.bind fun q => f q.1 q.2
def bind3 {α β γ δ : Type} (o : Option (α × β × δ)) (f : α → β → δ → Option γ) : Option γ := o.bind fun q => f q.1 q.2.1 q.2.2
theorem ite_el {c : Prop} [Decidable c] {γ : Type} {A B : Option γ} {r : γ} {Q : Prop} (h : (if c then A else B) = some r) (t : c → A = some r → Q) (e : ¬ c → B = some r → Q) : Q := by
  by_cases hc : c
  · rw [if_pos hc] at h; exact t hc h
  · rw [if_neg hc] at h; exact e hc h
theorem bind_el {α γ : Type} {o : Option α} {f : α → Option γ} {r : γ} {Q : Prop} (h : o.bind f = some r) (k : ∀ x, o = some x → f x = some r → Q) : Q := by
  cases o with
  | none => cases h
  | some x => exact k x rfl h
theorem bind2_el {α β γ : Type} {o : Option (α × β)} {f : α → β → Option γ} {r : γ} {Q : Prop} (h : bind2 o f = some r) (k : ∀ x y, o = some (x, y) → f x y = some r → Q) : Q := by
  rcases o with _ | ⟨x, y⟩
  · cases h
  · exact k x y rfl h
theorem bind3_el {α β γ δ : Type} {o : Option (α × β × δ)} {f : α → β → δ → Option γ} {r : γ} {Q : Prop} (h : bind3 o f = some r) (k : ∀ x y z, o = some (x, y, z) → f x y z = some r → Q) : Q := by
  rcases o with _ | ⟨x, y, z⟩
  · cases h
  · exact k x y z rfl h
theorem chk_el {γ : Type} {n i : Int32} {A : Option γ} {r : γ} {Q : Prop} (h : chk n i A = some r) (k : (¬ i < 0 ∧ i < n) → A = some r → Q) : Q := by
  unfold chk at h
  by_cases h0 : i < 0
  · rw [if_pos h0] at h; cases h
  · rw [if_neg h0] at h
    by_cases h1 : i < n
    · rw [if_pos h1] at h; exact k ⟨h0, h1⟩ h
    · rw [if_neg h1] at h; cases h
theorem dvz_el {γ : Type} {y : Int32} {A : Option γ} {r : γ} {Q : Prop} (h : dvz y A = some r) (k : y ≠ 0 → A = some r → Q) : Q := by
  unfold dvz at h
  by_cases h0 : y = 0
  · rw [if_pos h0] at h; cases h
  · rw [if_neg h0] at h; exact k h0 h
def All {α : Type} (p : α → Prop) : List α → Prop
  | [] => True
  | x :: l => p x ∧ All p l
theorem All.mem {α : Type} {p : α → Prop} : ∀ {l : List α}, All p l → ∀ {x : α}, x ∈ l → p x
  | [], _, _, h => nomatch h
  | _ :: _, H, _, h => (List.mem_cons.mp h).elim (fun e => e ▸ H.1) (fun e => All.mem H.2 e)
def el (ty : FieldType) (ob : Rec) (k : Nat) (j : Int32) : Value := match ty with
  | .long => .long (ob.2.2 k j)
  | _ => .int (ob.2.1 k j)
def aD (ty : FieldType) : String := match ty with
  | .int => "[I"
  | .boolean => "[Z"
  | _ => "[J"
abbrev Cls : Type := String × List (String × String) × List (String × FieldType × Int32)
abbrev mem1 (k : Nat) {d : Jvm.Cond} (h : tables_1[k]? = some d) : d ∈ tables_1 := List.mem_of_getElem? h
abbrev sOk (C : String) (nd : String × String) : Prop := (Jvm.Cond.lays C C nd.1 nd.2 ∈ tables_1 ∨ Jvm.Cond.laysFinal C C nd.1 nd.2 ∈ tables_1) ∧ (nd.2 = "I" ∨ nd.2 = "Z")
abbrev aOk (C : String) (t : String × FieldType × Int32) : Prop := (Jvm.Cond.lays C C t.1 (aD t.2.1) ∈ tables_1 ∨ Jvm.Cond.laysFinal C C t.1 (aD t.2.1) ∈ tables_1) ∧ (t.2.1 = .int ∨ t.2.1 = .boolean ∨ t.2.1 = .long) ∧ ¬ t.2.2 < 0
def K : Cls := ("SaturProver", [("cap", "I"), ("n", "I"), ("dep", "I"), ("sn", "I"), ("hasSaved", "Z"), ("res", "I"), ("wit", "I"), ("fValid", "Z")], [("toks", .int, 32), ("saved", .int, 32), ("stk", .long, 128), ("tabF", .long, 4), ("tabS", .long, 4), ("work", .long, 4)])
theorem kS : All (sOk K.1) K.2.1 := ⟨⟨Or.inl (mem1 31 rfl), Or.inl rfl⟩, ⟨Or.inl (mem1 33 rfl), Or.inl rfl⟩, ⟨Or.inl (mem1 35 rfl), Or.inl rfl⟩, ⟨Or.inl (mem1 37 rfl), Or.inl rfl⟩, ⟨Or.inl (mem1 39 rfl), Or.inr rfl⟩, ⟨Or.inl (mem1 47 rfl), Or.inl rfl⟩, ⟨Or.inl (mem1 49 rfl), Or.inl rfl⟩, ⟨Or.inl (mem1 41 rfl), Or.inr rfl⟩, trivial⟩
theorem kA : All (aOk K.1) K.2.2 := ⟨⟨Or.inr (mem1 18 rfl), Or.inl rfl, by decide⟩, ⟨Or.inr (mem1 20 rfl), Or.inl rfl, by decide⟩, ⟨Or.inr (mem1 23 rfl), Or.inr (Or.inr rfl), by decide⟩, ⟨Or.inr (mem1 25 rfl), Or.inr (Or.inr rfl), by decide⟩, ⟨Or.inr (mem1 27 rfl), Or.inr (Or.inr rfl), by decide⟩, ⟨Or.inr (mem1 29 rfl), Or.inr (Or.inr rfl), by decide⟩, trivial⟩
abbrev kN : Nat := 14
theorem kI : Jvm.Cond.instantiable K.1 kN ∈ tables_1 := mem1 8 rfl
theorem kZ : Jvm.Cond.initialized K.1 ∈ tables_1 := mem1 9 rfl
theorem kNm : (K.2.1.map (·.1) ++ K.2.2.map (·.1)).Nodup := by decide +kernel
theorem nm_ss {k k' : Nat} {nd nd' : String × String} (h : K.2.1[k]? = some nd) (h' : K.2.1[k']? = some nd') (ne : k ≠ k') : nd.1 ≠ nd'.1 := fun e => by
  have l := (List.getElem?_eq_some_iff.mp h).1
  have l' := (List.getElem?_eq_some_iff.mp h').1
  refine ne ((List.getElem?_inj (l := K.2.1.map (·.1) ++ K.2.2.map (·.1)) (i := k) (j := k') (by simp; omega) kNm).mp ?_)
  rw [List.getElem?_append_left (by simpa using l), List.getElem?_append_left (by simpa using l'), List.getElem?_map, List.getElem?_map, h, h']
  simp [e]
theorem nm_aa {k k' : Nat} {t t' : String × FieldType × Int32} (h : K.2.2[k]? = some t) (h' : K.2.2[k']? = some t') (ne : k ≠ k') : t.1 ≠ t'.1 := fun e => by
  have l := (List.getElem?_eq_some_iff.mp h).1
  have l' := (List.getElem?_eq_some_iff.mp h').1
  have q := (List.getElem?_inj (l := K.2.1.map (·.1) ++ K.2.2.map (·.1)) (i := K.2.1.length + k) (j := K.2.1.length + k') (by simp; omega) kNm).mp (by
    rw [List.getElem?_append_right (by simp), List.getElem?_append_right (by simp)]
    simp [h, h', e])
  omega
theorem nm_sa {k k' : Nat} {nd : String × String} {t : String × FieldType × Int32} (h : K.2.1[k]? = some nd) (h' : K.2.2[k']? = some t) : nd.1 ≠ t.1 := fun e => by
  have l := (List.getElem?_eq_some_iff.mp h).1
  have l' := (List.getElem?_eq_some_iff.mp h').1
  have q := (List.getElem?_inj (l := K.2.1.map (·.1) ++ K.2.2.map (·.1)) (i := k) (j := K.2.1.length + k') (by simp; omega) kNm).mp (by
    rw [List.getElem?_append_left (by simpa using l), List.getElem?_append_right (by simp)]
    simp [h, h', e])
  omega
abbrev Ctx : Type := Launch × State × Nat × Array Value
def Ok (C : Ctx) : Prop := ∀ d ∈ tables_1, d.before C.2.2.2 C.2.1 = true
def ArrAt (Z : State) (h : Heap) (b : Nat) (ty : FieldType) (len : Int32) (v : Int32 → Value) : Prop := ∃ cl : Cell, Arr Z h b cl ty ∧ cl.slots.size = len.toNatClampNeg ∧ ∀ j : Int32, ¬ j < 0 → j < len → cl.slots[j.toNatClampNeg]? = some (v j)
def ObjAt (Z : State) (h : Heap) (a : Nat) (q : Nat) (ob : Rec) : Prop :=
  Exa Z h a K.1 ∧ (∀ k nd, K.2.1[k]? = some nd → Fld Z h a K.1 nd.1 nd.2 (.int (ob.1 k))) ∧
  (∀ k t, K.2.2[k]? = some t → k < q → Fld Z h a K.1 t.1 (aD t.2.1) (.ref (a + 1 + k)) ∧ ArrAt Z h (a + 1 + k) t.2.1 t.2.2 (el t.2.1 ob k)) ∧
  (∀ k t, K.2.2[k]? = some t → q ≤ k → Fld Z h a K.1 t.1 (aD t.2.1) .null)
abbrev AH : Type := Nat × List (Nat × Nat × Rec)
def Rep (Z : State) (n0 : Nat) (h : Heap) (G : AH) : Prop :=
  h.size = G.1 ∧ Old Z n0 h ∧ (∀ x ∈ G.2, n0 ≤ x.1 ∧ x.1 + x.2.1 < G.1 ∧ ObjAt Z h x.1 x.2.1 x.2.2) ∧ G.2.Pairwise (fun x y => x.1 + x.2.1 < y.1 ∨ y.1 + y.2.1 < x.1)
section Facts
variable {Z : State} {h h' : Heap} {a b : Nat} {q k n0 top : Nat} {ob ob' : Rec} {nd : String × String} {t : String × FieldType × Int32} {a0 : Array Value} {sl : Nat} {v : Value} {H : List (Nat × Nat × Rec)} {G : AH}
theorem fld_fr {C n d : String} (e : h'[a]? = h[a]?) (F : Fld Z h a C n d v) : Fld Z h' a C n d v := by
  obtain ⟨cell, cf, k, i, f, h1, r⟩ := F; exact ⟨cell, cf, k, i, f, e.trans h1, r⟩
theorem exa_fr {C : String} (e : h'[a]? = h[a]?) (F : Exa Z h a C) : Exa Z h' a C := by
  obtain ⟨cell, k, h1, r⟩ := F; exact ⟨cell, k, e.trans h1, r⟩
theorem arrAt_fr {ty : FieldType} {len : Int32} {w : Int32 → Value} (e : h'[a]? = h[a]?) (F : ArrAt Z h a ty len w) : ArrAt Z h' a ty len w := by
  obtain ⟨cl, A, r⟩ := F; exact ⟨cl, ⟨e.trans A.1, A.2⟩, r⟩
theorem ObjAt.frame (e : ∀ b, a ≤ b → b ≤ a + q → h'[b]? = h[b]?) (F : ObjAt Z h a q ob) : ObjAt Z h' a q ob := by
  have e0 := e a (Nat.le_refl _) (Nat.le_add_right _ _)
  refine ⟨exa_fr e0 F.1, fun k nd hk => fld_fr e0 (F.2.1 k nd hk), fun k t hk hq => ⟨fld_fr e0 (F.2.2.1 k t hk hq).1, arrAt_fr (e _ (by omega) (by omega)) (F.2.2.1 k t hk hq).2⟩, fun k t hk hq => fld_fr e0 (F.2.2.2 k t hk hq)⟩
theorem ObjAt.ext (E : Ext h h') (F : ObjAt Z h a q ob) : ObjAt Z h' a q ob := by
  refine ⟨F.1.ext E, fun k nd hk => (F.2.1 k nd hk).ext E, fun k t hk hq => ⟨(F.2.2.1 k t hk hq).1.ext E, ?_⟩, fun k t hk hq => (F.2.2.2 k t hk hq).ext E⟩
  obtain ⟨cl, A, r⟩ := (F.2.2.1 k t hk hq).2; exact ⟨cl, A.ext E, r⟩
theorem wr_ne (W : Wr h h' a sl v) (ne : b ≠ a) : h'[b]? = h[b]? := by
  obtain ⟨cell, -, -, -, rfl⟩ := W; exact Array.getElem?_setIfInBounds_ne (Ne.symm ne)
theorem laidS (hw : ∀ d ∈ tables_1, d.before a0 Z = true) (hk : K.2.1[k]? = some nd) : Laid Z a0 K.1 K.1 nd.1 nd.2 := ((All.mem kS (List.mem_of_getElem? hk)).1).imp (hw _) (hw _)
theorem laidA (hw : ∀ d ∈ tables_1, d.before a0 Z = true) (hk : K.2.2[k]? = some t) : Laid Z a0 K.1 K.1 t.1 (aD t.2.1) := ((All.mem kA (List.mem_of_getElem? hk)).1).imp (hw _) (hw _)
theorem pfS (hk : K.2.1[k]? = some nd) : ∃ ty, parseFieldDescriptor nd.2 = some ty := by
  rcases (All.mem kS (List.mem_of_getElem? hk)).2 with e | e <;> rw [e]
  · exact ⟨.int, by decide⟩
  · exact ⟨.boolean, by decide⟩
theorem pfA (hk : K.2.2[k]? = some t) : parseFieldDescriptor (aD t.2.1) = some (.array t.2.1) := by
  rcases (All.mem kA (List.mem_of_getElem? hk)).2.1 with e | e | e <;> rw [e] <;> decide
theorem ObjAt.putI {x : Int32} (hw : ∀ d ∈ tables_1, d.before a0 Z = true) (F : ObjAt Z h a q ob) (hk : K.2.1[k]? = some nd) (W : Wr h h' a (Jvm.RoadKit.slotOf Z K.1 nd.1 nd.2) (.int x)) : ObjAt Z h' a q (sI ob k x) := by
  obtain ⟨ty, hty⟩ := pfS hk
  refine ⟨F.1.wr W, fun k' nd' hk' => ?_, fun k' t hk' hq => ⟨(F.2.2.1 k' t hk' hq).1.other W (Or.inr (Jvm.RoadKit.slot_ne (laidA hw hk') (laidS hw hk) (Ne.symm (nm_sa hk hk')) (pfA hk') hty)), ?_⟩, fun k' t hk' hq => (F.2.2.2 k' t hk' hq).other W (Or.inr (Jvm.RoadKit.slot_ne (laidA hw hk') (laidS hw hk) (Ne.symm (nm_sa hk hk')) (pfA hk') hty))⟩
  · by_cases e : k' = k
    · subst e; cases hk.symm.trans hk'
      have := (F.2.1 k' nd hk).same W
      simpa [sI] using this
    · obtain ⟨ty', hty'⟩ := pfS hk'
      have := (F.2.1 k' nd' hk').other W (Or.inr (Jvm.RoadKit.slot_ne (laidS hw hk') (laidS hw hk) (nm_ss hk' hk e) hty' hty))
      simpa [sI, e] using this
  · have := arrAt_fr (wr_ne W (by omega)) (F.2.2.1 k' t hk' hq).2
    have e : el t.2.1 (sI ob k x) k' = el t.2.1 ob k' := by funext j; unfold el; split <;> rfl
    rw [e]; exact this
theorem ObjAt.putA (F : ObjAt Z h a q ob) (hk : K.2.2[k]? = some t) (hq : k < q) {x : Value} {j : Int32} (hj : ¬ j < 0 ∧ j < t.2.2) (W : Wr h h' (a + 1 + k) j.toNatClampNeg x)
    (e1 : el t.2.1 ob' k = fun i => if i = j then x else el t.2.1 ob k i) (e2 : ∀ k' t', k' ≠ k → el t' ob' k' = el t' ob k') (e3 : ob'.1 = ob.1) : ObjAt Z h' a q ob' := by
  have u : h'[a]? = h[a]? := wr_ne W (by omega)
  refine ⟨exa_fr u F.1, fun k' nd hk' => by rw [e3]; exact fld_fr u (F.2.1 k' nd hk'), fun k' t' hk' hq' => ⟨fld_fr u (F.2.2.1 k' t' hk' hq').1, ?_⟩, fun k' t' hk' hq' => fld_fr u (F.2.2.2 k' t' hk' hq')⟩
  by_cases e : k' = k
  · subst e; cases hk.symm.trans hk'
    obtain ⟨cl, A, S, V⟩ := (F.2.2.1 k' t hk hq).2
    have inb : ¬ (j < 0 ∨ cl.slots.size ≤ j.toNatClampNeg) := inb_of S hj
    refine ⟨_, A.same W, by rw [sz_set]; exact S, fun i h0 h1 => ?_⟩
    rw [e1]
    by_cases ei : i = j
    · simp only [ei, if_true]; exact get_hit inb rfl
    · simp only [ei, if_false]; rw [get_miss hj.1 h0 ei]; exact V i h0 h1
  · rw [e2 k' _ e]; exact arrAt_fr (wr_ne W (by omega)) (F.2.2.1 k' t' hk' hq').2
theorem el_sA {ty : FieldType} (ht : ty ≠ .long) (j x : Int32) : el ty (sA ob k j x) k = fun i => if i = j then .int x else el ty ob k i := by
  funext i; cases ty <;> first | exact absurd rfl ht | (simp only [el, sA, true_and]; split <;> rfl)
theorem el_sJ (j : Int32) (x : Int64) : el .long (sJ ob k j x) k = fun i => if i = j then .long x else el .long ob k i := by
  funext i; simp only [el, sJ, true_and]; split <;> rfl
theorem el_sA' (j x : Int32) (k' : Nat) (t' : FieldType) (ne : k' ≠ k) : el t' (sA ob k j x) k' = el t' ob k' := by
  funext i; cases t' <;> simp [el, sA, ne]
theorem el_sJ' (j : Int32) (x : Int64) (k' : Nat) (t' : FieldType) (ne : k' ≠ k) : el t' (sJ ob k j x) k' = el t' ob k' := by
  funext i; cases t' <;> simp [el, sJ, ne]
theorem Rep.upd (R : Rep Z n0 h (top, (a, q, ob) :: H)) (hs : h'.size = h.size) (hO : Old Z n0 h') (e : ∀ b, (b < a ∨ a + q < b) → h'[b]? = h[b]?) (F : ObjAt Z h' a q ob') : Rep Z n0 h' (top, (a, q, ob') :: H) := by
  obtain ⟨r1, r2, r3, r4⟩ := R
  refine ⟨hs.trans r1, hO, fun x hx => ?_, ?_⟩
  · rcases List.mem_cons.mp hx with rfl | hx
    · exact ⟨(r3 _ (List.mem_cons_self ..)).1, (r3 _ (List.mem_cons_self ..)).2.1, F⟩
    · obtain ⟨p1, p2, p3⟩ := r3 x (List.mem_cons_of_mem _ hx)
      refine ⟨p1, p2, p3.frame fun b h1 h2 => e b ?_⟩
      have := (List.pairwise_cons.mp r4).1 x hx
      simp only at this
      omega
  · have := List.pairwise_cons.mp r4
    exact List.pairwise_cons.mpr ⟨fun y hy => this.1 y hy, this.2⟩
theorem Rep.objs (R : Rep Z n0 h (top, (a, q, ob) :: H)) : n0 ≤ a ∧ a + q < top ∧ ObjAt Z h a q ob := R.2.2.1 _ (List.mem_cons_self ..)
theorem Rep.putI {x : Int32} (hw : ∀ d ∈ tables_1, d.before a0 Z = true) (R : Rep Z n0 h (top, (a, q, ob) :: H)) (hk : K.2.1[k]? = some nd) (W : Wr h h' a (Jvm.RoadKit.slotOf Z K.1 nd.1 nd.2) (.int x)) : Rep Z n0 h' (top, (a, q, sI ob k x) :: H) :=
  R.upd W.size (R.2.1.wr W R.objs.1) (fun b hb => wr_ne W (by omega)) (R.objs.2.2.putI hw hk W)
theorem Rep.putA {x j : Int32} (R : Rep Z n0 h (top, (a, q, ob) :: H)) (hk : K.2.2[k]? = some t) (hq : k < q) (ht : t.2.1 ≠ .long) (hj : ¬ j < 0 ∧ j < t.2.2) (W : Wr h h' (a + 1 + k) j.toNatClampNeg (.int x)) : Rep Z n0 h' (top, (a, q, sA ob k j x) :: H) :=
  R.upd W.size (R.2.1.wr W (by have := R.objs.1; omega)) (fun b hb => wr_ne W (by omega)) (R.objs.2.2.putA hk hq hj W (el_sA ht j x) (fun k' t' ne => el_sA' j x k' t' ne) rfl)
theorem Rep.putJ {j : Int32} {x : Int64} (R : Rep Z n0 h (top, (a, q, ob) :: H)) (hk : K.2.2[k]? = some t) (hq : k < q) (ht : t.2.1 = .long) (hj : ¬ j < 0 ∧ j < t.2.2) (W : Wr h h' (a + 1 + k) j.toNatClampNeg (.long x)) : Rep Z n0 h' (top, (a, q, sJ ob k j x) :: H) :=
  R.upd W.size (R.2.1.wr W (by have := R.objs.1; omega)) (fun b hb => wr_ne W (by omega)) (R.objs.2.2.putA hk hq hj W (by rw [ht]; exact el_sJ j x) (fun k' t' ne => el_sJ' j x k' t' ne) rfl)
theorem Rep.swap {x y : Nat × Nat × Rec} (R : Rep Z n0 h (top, x :: y :: H)) : Rep Z n0 h (top, y :: x :: H) := by
  obtain ⟨r1, r2, r3, r4⟩ := R
  refine ⟨r1, r2, fun z hz => r3 z ?_, ?_⟩
  · simp only [List.mem_cons] at hz ⊢
    rcases hz with e | e | e
    · exact Or.inr (Or.inl e)
    · exact Or.inl e
    · exact Or.inr (Or.inr e)
  · simp only [List.pairwise_cons, List.mem_cons] at r4 ⊢
    obtain ⟨p1, p2, p3⟩ := r4
    refine ⟨fun z hz => ?_, fun z hz => p1 z (Or.inr hz), p3⟩
    rcases hz with rfl | hz
    · exact (p1 _ (Or.inl rfl)).symm
    · exact p2 z hz
theorem ObjAt.addA (hw : ∀ d ∈ tables_1, d.before a0 Z = true) (F : ObjAt Z h a k ob) (hk : K.2.2[k]? = some t) (A : ArrAt Z h (a + 1 + k) t.2.1 t.2.2 (el t.2.1 ob k)) (W : Wr h h' a (Jvm.RoadKit.slotOf Z K.1 t.1 (aD t.2.1)) (.ref (a + 1 + k))) : ObjAt Z h' a (k + 1) ob := by
  refine ⟨F.1.wr W, fun k' nd hk' => ?_, fun k' t' hk' hq => ?_, fun k' t' hk' hq => ?_⟩
  · obtain ⟨ty', hty'⟩ := pfS hk'
    exact (F.2.1 k' nd hk').other W (Or.inr (Jvm.RoadKit.slot_ne (laidS hw hk') (laidA hw hk) (nm_sa hk' hk) hty' (pfA hk)))
  · by_cases e : k' = k
    · subst e
      have et : t = t' := Option.some.inj (hk.symm.trans hk')
      subst et
      exact ⟨(F.2.2.2 k' t hk (Nat.le_refl _)).same W, arrAt_fr (wr_ne W (by omega)) A⟩
    · obtain ⟨f1, f2⟩ := F.2.2.1 k' t' hk' (by omega)
      exact ⟨f1.other W (Or.inr (Jvm.RoadKit.slot_ne (laidA hw hk') (laidA hw hk) (nm_aa hk' hk e) (pfA hk') (pfA hk))), arrAt_fr (wr_ne W (by omega)) f2⟩
  · exact (F.2.2.2 k' t' hk' (by omega)).other W (Or.inr (Jvm.RoadKit.slot_ne (laidA hw hk') (laidA hw hk) (nm_aa hk' hk (by omega)) (pfA hk') (pfA hk)))
theorem Rep.addA {h1 h2 : Heap} (hw : ∀ d ∈ tables_1, d.before a0 Z = true) (R : Rep Z n0 h (top, (a, k, ob) :: H)) (E : Ext h h1) (s1 : h1.size = top + 1) (htop : top = a + 1 + k) (hk : K.2.2[k]? = some t) (A : ArrAt Z h1 top t.2.1 t.2.2 (el t.2.1 ob k)) (W : Wr h1 h2 a (Jvm.RoadKit.slotOf Z K.1 t.1 (aD t.2.1)) (.ref top)) : Rep Z n0 h2 (top + 1, (a, k + 1, ob) :: H) := by
  obtain ⟨q1, q2, q3⟩ := R.objs
  have hp := List.pairwise_cons.mp R.2.2.2
  have hO : ObjAt Z h2 a (k + 1) ob := by
    subst htop
    exact (q3.ext E).addA hw hk A W
  refine ⟨W.size.trans s1, (R.2.1.ext E).wr W q1, List.forall_mem_cons.mpr ⟨⟨q1, ?_, hO⟩, fun x hx => ?_⟩, List.pairwise_cons.mpr ⟨fun y hy => ?_, hp.2⟩⟩
  · show a + (k + 1) < top + 1; omega
  · obtain ⟨p1, p2, p3⟩ := R.2.2.1 x (List.mem_cons_of_mem _ hx)
    have u1 : a + k < x.1 ∨ x.1 + x.2.1 < a := hp.1 x hx
    have u2 : x.1 + x.2.1 < top := p2
    exact ⟨p1, Nat.lt_succ_of_lt u2, (p3.ext E).frame fun b h1 h2 => wr_ne W (by omega)⟩
  · have u1 : a + k < y.1 ∨ y.1 + y.2.1 < a := hp.1 y hy
    have u2 : y.1 + y.2.1 < top := (R.2.2.1 y (List.mem_cons_of_mem _ hy)).2.1
    show a + (k + 1) < y.1 ∨ y.1 + y.2.1 < a
    omega
theorem arr_new {cA : ClassId} {ty : FieldType} {len : Int32} (A : Arr Z h b (newA cA ty len) ty) (hts : ty = .int ∨ ty = .boolean ∨ ty = .long) (hz : (∀ i, ob.2.1 k i = 0) ∧ (∀ i, ob.2.2 k i = 0)) : ArrAt Z h b ty len (el ty ob k) := by
  refine ⟨_, A, sz_new _ _ _, fun i h0 h1 => ?_⟩
  have hi : ¬ (i < 0 ∨ len.toNatClampNeg ≤ i.toNatClampNeg) := by
    have e0 : (0 : Int32).toInt = 0 := rfl
    simp only [Int32.lt_iff_toInt_lt, Int32.toNatClampNeg] at *
    omega
  rw [get_new hi]
  rcases hts with rfl | rfl | rfl
  · show some (Value.int 0) = some (Value.int (ob.2.1 k i)); rw [hz.1]
  · show some (Value.int 0) = some (Value.int (ob.2.1 k i)); rw [hz.1]
  · show some (Value.long 0) = some (Value.long (ob.2.2 k i)); rw [hz.2]
theorem Rep.start (s : State) : Rep s s.heap.size s.heap (s.heap.size, []) := ⟨rfl, Old.start s, fun x hx => (by cases hx), List.Pairwise.nil⟩
end Facts
/- bodies, decode facts, patterns of local variables -/
abbrev Bdy : Type := MethodName × ByteArray × Nat × Option FieldType × Room
def DAt (M : Bdy) (pc : Nat) (i : Instr) (n q : Nat) : Prop := decode M.2.1 pc = .ok (i, n) ∧ q = pc + n
abbrev Pat : Type := List (Option Slot)
abbrev vi (x : Int32) : Option Slot := some (.val (.int x))
abbrev vl (x : Int64) : Option Slot := some (.val (.long x))
abbrev vr (a : Nat) : Option Slot := some (.val (.ref a))
abbrev v2 : Option Slot := some .second
abbrev vn : Option Slot := none
def pget : Pat → Nat → Option Slot
  | [], _ => none
  | x :: _, 0 => x
  | _ :: l, n + 1 => pget l n
theorem pget_eq : ∀ (P : Pat) (i : Nat), pget P i = (P[i]?).join
  | [], _ => by simp [pget]
  | x :: l, 0 => by simp [pget]
  | x :: l, n + 1 => by simp [pget, pget_eq l n]
def pput : Pat → Nat → Option Slot → Pat
  | [], _, _ => []
  | _ :: l, 0, y => y :: l
  | x :: l, n + 1, y => x :: pput l n y
theorem pget_pput : ∀ (P : Pat) (i j : Nat) (y : Option Slot) (s : Slot), pget (pput P i y) j = some s → (j = i ∧ y = some s) ∨ (j ≠ i ∧ pget P j = some s)
  | [], _, _, _, _, h => by simp [pput, pget] at h
  | x :: l, 0, 0, y, s, h => Or.inl ⟨rfl, h⟩
  | x :: l, 0, j + 1, y, s, h => Or.inr ⟨by omega, h⟩
  | x :: l, i + 1, 0, y, s, h => Or.inr ⟨by omega, h⟩
  | x :: l, i + 1, j + 1, y, s, h => by
    rcases pget_pput l i j y s h with ⟨e, r⟩ | ⟨e, r⟩
    · exact Or.inl ⟨by omega, r⟩
    · exact Or.inr ⟨by omega, r⟩
/-- a two-word value whose first word is at i is forgotten -/
def pk1 (P : Pat) (i : Nat) : Pat := match pget P i with
  | some (.val (.long _)) => pput P i none
  | some (.val (.double _)) => pput P i none
  | _ => P
def pk2 (P : Pat) (i : Nat) : Pat := match pget P i with
  | some .second => pput P i none
  | _ => P
def pkp (P : Pat) : Nat → Pat
  | 0 => P
  | i + 1 => pk1 P i
def ps1 (P : Pat) (i : Nat) (v : Value) : Pat := pput (pk2 (pkp P i) (i + 1)) i (some (.val v))
def ps2 (P : Pat) (i : Nat) (v : Value) : Pat := pput (pput (pk2 (pkp P i) (i + 2)) i (some (.val v))) (i + 1) (some .second)
def WFl (L : Array Slot) : Prop := (∀ i : Nat, L[i]? = some .second → ∃ (j : Nat) (v : Value), i = j + 1 ∧ L[j]? = some (.val v) ∧ v.category = 2) ∧ (∀ (i : Nat) (v : Value), L[i]? = some (.val v) → v.category = 2 → L[i + 1]? = some .second)
def Fits (P : Pat) (L : Array Slot) : Prop := (∀ i s, pget P i = some s → L[i]? = some s) ∧ WFl L
theorem pk1_sub {P : Pat} {i j : Nat} {s : Slot} (h : pget (pk1 P i) j = some s) : pget P j = some s ∧ (j = i → ∀ w : Value, s = .val w → w.category = 1) := by
  unfold pk1 at h
  split at h
  · rcases pget_pput _ _ _ _ _ h with ⟨-, e⟩ | ⟨e, r⟩
    · cases e
    · exact ⟨r, fun q => absurd q e⟩
  · rcases pget_pput _ _ _ _ _ h with ⟨-, e⟩ | ⟨e, r⟩
    · cases e
    · exact ⟨r, fun q => absurd q e⟩
  · rename_i h1 h2
    refine ⟨h, fun q w e => ?_⟩
    subst q e
    cases w <;> first | rfl | exact absurd h (h1 _) | exact absurd h (h2 _)
theorem pk2_sub {P : Pat} {i j : Nat} {s : Slot} (h : pget (pk2 P i) j = some s) : pget P j = some s ∧ (j = i → s ≠ .second) := by
  unfold pk2 at h
  split at h
  · rcases pget_pput _ _ _ _ _ h with ⟨-, e⟩ | ⟨e, r⟩
    · cases e
    · exact ⟨r, fun q => absurd q e⟩
  · rename_i h1
    refine ⟨h, fun q e => ?_⟩
    subst q e; exact h1 h
theorem pkp_sub {P : Pat} {i j : Nat} {s : Slot} (h : pget (pkp P i) j = some s) : pget P j = some s ∧ (j + 1 = i → ∀ w : Value, s = .val w → w.category = 1) := by
  cases i with
  | zero => exact ⟨h, fun q => by omega⟩
  | succ i => obtain ⟨h1, h2⟩ := pk1_sub (show pget (pk1 P i) j = some s from h); exact ⟨h1, fun q => h2 (by omega)⟩
theorem setAt_eq {L : Array Slot} {i : Nat} {x : Slot} (hi : i < L.size) : Jvm.setAt L i x = some (L.setIfInBounds i x) := by simp [Jvm.setAt, hi]
theorem sl_second {L : Array Slot} {i : Nat} {v : Value} (ho : L[i]? = some .second) : storeLocals L i v = (Jvm.setAt L (i - 1) .unset).bind fun l => storeSelf l i v := by
  unfold storeLocals; rw [ho]; rfl
theorem sl_unset {L : Array Slot} {i : Nat} {v : Value} (ho : L[i]? = some .unset) : storeLocals L i v = storeSelf L i v := by
  unfold storeLocals; rw [ho]; rfl
theorem sl_val {L : Array Slot} {i : Nat} {v o : Value} (ho : L[i]? = some (.val o)) : storeLocals L i v = if o.category = 2 then (Jvm.setAt L (i + 1) .unset).bind fun l => storeSelf l i v else storeSelf L i v := by
  unfold storeLocals; rw [ho]; rfl
theorem ss_one {L : Array Slot} {i : Nat} {v : Value} (hi : i < L.size) (hv : ¬ v.category = 2) : storeSelf L i v = some (L.setIfInBounds i (.val v)) := by
  unfold storeSelf; rw [setAt_eq hi]; simp [hv]
theorem ss_two {L : Array Slot} {i : Nat} {v : Value} {o : Slot} (hi : i < L.size) (hv : v.category = 2) (ho : L[i + 1]? = some o) : storeSelf L i v = (match o with
    | .val old => if old.category = 2 then (Jvm.setAt (L.setIfInBounds i (.val v)) (i + 2) .unset).bind fun l => Jvm.setAt l (i + 1) .second else Jvm.setAt (L.setIfInBounds i (.val v)) (i + 1) .second
    | _ => Jvm.setAt (L.setIfInBounds i (.val v)) (i + 1) .second) := by
  have e : (L.setIfInBounds i (.val v))[i + 1]? = some o := by rw [Array.getElem?_setIfInBounds_ne (by omega)]; exact ho
  unfold storeSelf; rw [setAt_eq hi]
  show (if v.category = 2 then _ else _) = _
  rw [if_pos hv, e]
  cases o <;> rfl
theorem cat12 (v : Value) : v.category = 1 ∨ v.category = 2 := by cases v <;> first | exact Or.inl rfl | exact Or.inr rfl
/-- a one-word store: what stands elsewhere stays, but for the halves of a two-word value that it breaks -/
theorem store_one {L : Array Slot} {i : Nat} {v : Value} (hW : WFl L) (hi : i < L.size) (hv : v.category = 1) :
    ∃ L', storeLocals L i v = some L' ∧ L'.size = L.size ∧ WFl L' ∧ L'[i]? = some (.val v) ∧ ∀ j, j ≠ i → L'[j]? = L[j]? ∨ (j + 1 = i ∧ L[i]? = some .second) ∨ (j = i + 1 ∧ L[j]? = some .second) := by
  have hv2 : ¬ v.category = 2 := by omega
  cases ho : L[i]? with
  | none => rw [Array.getElem?_eq_none_iff] at ho; omega
  | some o =>
    cases o with
    | unset =>
      refine ⟨L.setIfInBounds i (.val v), ?_, by simp, ?_, by simp [hi], fun j hj => Or.inl (Array.getElem?_setIfInBounds_ne (Ne.symm hj))⟩
      · rw [sl_unset ho, ss_one hi hv2]
      · refine ⟨fun j hj => ?_, fun j w hj hw => ?_⟩
        · by_cases e : j = i
          · subst e; simp [hi] at hj
          · rw [Array.getElem?_setIfInBounds_ne (Ne.symm e)] at hj
            obtain ⟨j', w, e1, e2, e3⟩ := hW.1 j hj
            refine ⟨j', w, e1, ?_, e3⟩
            rw [Array.getElem?_setIfInBounds_ne]; exact e2
            intro q; subst q; rw [ho] at e2; cases e2
        · by_cases e : j = i
          · subst e; simp [hi] at hj; subst hj; omega
          · rw [Array.getElem?_setIfInBounds_ne (Ne.symm e)] at hj
            have := hW.2 j w hj hw
            rw [Array.getElem?_setIfInBounds_ne]; exact this
            intro q; subst q; rw [ho] at this; cases this
    | second =>
      obtain ⟨j0, w0, rfl, f2, f3⟩ := hW.1 i ho
      have hj0 : j0 < L.size := by omega
      refine ⟨(L.setIfInBounds j0 .unset).setIfInBounds (j0 + 1) (.val v), ?_, by simp, ?_, by simp [hi], fun j hj => ?_⟩
      · rw [sl_second ho, show j0 + 1 - 1 = j0 from rfl, setAt_eq hj0]; exact ss_one (by simpa using hi) hv2
      · refine ⟨fun j hj => ?_, fun j w hj hw => ?_⟩
        · by_cases e : j = j0 + 1
          · subst e; simp [hi] at hj
          · rw [Array.getElem?_setIfInBounds_ne (Ne.symm e)] at hj
            by_cases e' : j = j0
            · subst e'; simp [hj0] at hj
            · rw [Array.getElem?_setIfInBounds_ne (Ne.symm e')] at hj
              obtain ⟨j', w, e1, e2, e3⟩ := hW.1 j hj
              refine ⟨j', w, e1, ?_, e3⟩
              rw [Array.getElem?_setIfInBounds_ne, Array.getElem?_setIfInBounds_ne]
              · exact e2
              · intro q; subst q; omega
              · intro q; subst q; rw [ho] at e2; cases e2
        · by_cases e : j = j0 + 1
          · subst e; simp [hi] at hj; subst hj; omega
          · rw [Array.getElem?_setIfInBounds_ne (Ne.symm e)] at hj
            by_cases e' : j = j0
            · subst e'; simp [hj0] at hj
            · rw [Array.getElem?_setIfInBounds_ne (Ne.symm e')] at hj
              have := hW.2 j w hj hw
              rw [Array.getElem?_setIfInBounds_ne, Array.getElem?_setIfInBounds_ne]
              · exact this
              · intro q; subst q; rw [f2] at this; cases this
              · omega
      · by_cases e' : j = j0
        · exact Or.inr (Or.inl ⟨by omega, rfl⟩)
        · left; rw [Array.getElem?_setIfInBounds_ne (Ne.symm hj), Array.getElem?_setIfInBounds_ne (Ne.symm e')]
    | val old =>
      by_cases hc : old.category = 2
      · have f2 := hW.2 i old ho hc
        have hi1 : i + 1 < L.size := (Array.getElem?_eq_some_iff.mp f2).1
        refine ⟨(L.setIfInBounds (i + 1) .unset).setIfInBounds i (.val v), ?_, by simp, ?_, by simp [hi], fun j hj => ?_⟩
        · rw [sl_val ho, if_pos hc, setAt_eq hi1]; exact ss_one (by simpa using hi) hv2
        · refine ⟨fun j hj => ?_, fun j w hj hw => ?_⟩
          · by_cases e : j = i
            · subst e; simp [hi] at hj
            · rw [Array.getElem?_setIfInBounds_ne (Ne.symm e)] at hj
              by_cases e' : j = i + 1
              · subst e'; simp [hi1] at hj
              · rw [Array.getElem?_setIfInBounds_ne (Ne.symm e')] at hj
                obtain ⟨j', w, e1, e2, e3⟩ := hW.1 j hj
                refine ⟨j', w, e1, ?_, e3⟩
                rw [Array.getElem?_setIfInBounds_ne, Array.getElem?_setIfInBounds_ne]
                · exact e2
                · intro q; subst q; rw [f2] at e2; cases e2
                · omega
          · by_cases e : j = i
            · subst e; simp [hi] at hj; subst hj; omega
            · rw [Array.getElem?_setIfInBounds_ne (Ne.symm e)] at hj
              by_cases e' : j = i + 1
              · subst e'; simp [hi1] at hj
              · rw [Array.getElem?_setIfInBounds_ne (Ne.symm e')] at hj
                have := hW.2 j w hj hw
                rw [Array.getElem?_setIfInBounds_ne, Array.getElem?_setIfInBounds_ne]
                · exact this
                · omega
                · intro q; subst q; rw [ho] at this; cases this
        · by_cases e' : j = i + 1
          · subst e'; exact Or.inr (Or.inr ⟨rfl, f2⟩)
          · left; rw [Array.getElem?_setIfInBounds_ne (Ne.symm hj), Array.getElem?_setIfInBounds_ne (Ne.symm e')]
      · refine ⟨L.setIfInBounds i (.val v), ?_, by simp, ?_, by simp [hi], fun j hj => Or.inl (Array.getElem?_setIfInBounds_ne (Ne.symm hj))⟩
        · rw [sl_val ho, if_neg hc, ss_one hi hv2]
        · refine ⟨fun j hj => ?_, fun j w hj hw => ?_⟩
          · by_cases e : j = i
            · subst e; simp [hi] at hj
            · rw [Array.getElem?_setIfInBounds_ne (Ne.symm e)] at hj
              obtain ⟨j', w, e1, e2, e3⟩ := hW.1 j hj
              refine ⟨j', w, e1, ?_, e3⟩
              rw [Array.getElem?_setIfInBounds_ne]; exact e2
              intro q; subst q; rw [ho] at e2; cases e2; omega
          · by_cases e : j = i
            · subst e; simp [hi] at hj; subst hj; omega
            · rw [Array.getElem?_setIfInBounds_ne (Ne.symm e)] at hj
              have := hW.2 j w hj hw
              rw [Array.getElem?_setIfInBounds_ne]; exact this
              intro q; subst q; rw [ho] at this; cases this
theorem Fits.store1 {P : Pat} {L : Array Slot} {i : Nat} {v : Value} (h : Fits P L) (hi : i < L.size) (hv : v.category = 1) :
    ∃ L', storeLocals L i v = some L' ∧ L'.size = L.size ∧ Fits (ps1 P i v) L' := by
  obtain ⟨L', e1, e2, e3, e4, e5⟩ := store_one h.2 hi hv
  refine ⟨L', e1, e2, fun j s hj => ?_, e3⟩
  rcases pget_pput _ _ _ _ _ hj with ⟨rfl, q⟩ | ⟨ne, q⟩
  · rw [e4]; exact q
  · obtain ⟨q1, q2⟩ := pk2_sub q
    obtain ⟨q3, q4⟩ := pkp_sub q1
    have hL := h.1 j s q3
    rcases e5 j ne with r | ⟨r1, r2⟩ | ⟨r1, r2⟩
    · rw [r]; exact hL
    · obtain ⟨j', w, z1, z2, z3⟩ := h.2.1 i r2
      have : j' = j := by omega
      subst this
      rw [hL] at z2; cases z2
      have := q4 r1 w rfl; omega
    · rw [hL] at r2; cases r2
      exact absurd rfl (q2 r1)
theorem st_ph1 {L : Array Slot} {i : Nat} {v : Value} (hW : WFl L) (hi : i + 1 < L.size) :
    ∃ A : Array Slot, storeLocals L i v = storeSelf A i v ∧ A.size = L.size ∧ (∀ j, j ≠ i → j ≠ i + 1 → A[j]? = L[j]? ∨ (j + 1 = i ∧ L[i]? = some .second ∧ A[j]? = some .unset)) ∧ (A[i + 1]? = L[i + 1]? ∨ (A[i + 1]? = some .unset ∧ L[i + 1]? = some .second)) ∧ (L[i]? = some .second → ∀ j, j + 1 = i → A[j]? = some .unset) := by
  have hi0 : i < L.size := by omega
  cases ho : L[i]? with
  | none => rw [Array.getElem?_eq_none_iff] at ho; omega
  | some o =>
    cases o with
    | unset => exact ⟨L, sl_unset ho, rfl, fun j _ _ => Or.inl rfl, Or.inl rfl, fun q => by cases q⟩
    | second =>
      obtain ⟨j0, w0, rfl, f2, f3⟩ := hW.1 i ho
      have hj0 : j0 < L.size := by omega
      refine ⟨L.setIfInBounds j0 .unset, by rw [sl_second ho, show j0 + 1 - 1 = j0 from rfl, setAt_eq hj0]; rfl, by simp, fun j h1 h2 => ?_, Or.inl (Array.getElem?_setIfInBounds_ne (by omega)), fun _ j hj => ?_⟩
      · by_cases e : j = j0
        · subst e; exact Or.inr ⟨rfl, rfl, by simp [hj0]⟩
        · exact Or.inl (Array.getElem?_setIfInBounds_ne (Ne.symm e))
      · have : j = j0 := by omega
        subst this; simp [hj0]
    | val old =>
      by_cases hc : old.category = 2
      · refine ⟨L.setIfInBounds (i + 1) .unset, by rw [sl_val ho, if_pos hc, setAt_eq hi]; rfl, by simp, fun j h1 h2 => Or.inl (Array.getElem?_setIfInBounds_ne (Ne.symm h2)), Or.inr ⟨by simp [hi], hW.2 i old ho hc⟩, fun q => by cases q⟩
      · exact ⟨L, by rw [sl_val ho, if_neg hc], rfl, fun j _ _ => Or.inl rfl, Or.inl rfl, fun q => by cases q⟩
theorem st_ph2 {A : Array Slot} {i : Nat} {v : Value} (hi : i + 1 < A.size) (hv : v.category = 2) (hn : ∀ w : Value, A[i + 1]? = some (.val w) → w.category = 2 → i + 2 < A.size) :
    ∃ L', storeSelf A i v = some L' ∧ L'.size = A.size ∧ L'[i]? = some (.val v) ∧ L'[i + 1]? = some .second ∧ (∀ j, j ≠ i → j ≠ i + 1 → L'[j]? = A[j]? ∨ (j = i + 2 ∧ L'[j]? = some .unset ∧ ∃ w : Value, A[i + 1]? = some (.val w) ∧ w.category = 2)) ∧ ((∃ w : Value, A[i + 1]? = some (.val w) ∧ w.category = 2) → L'[i + 2]? = some .unset) := by
  have hi0 : i < A.size := by omega
  have eB : (A.setIfInBounds i (.val v))[i + 1]? = A[i + 1]? := Array.getElem?_setIfInBounds_ne (by omega)
  have plain : (∀ w : Value, A[i + 1]? = some (.val w) → w.category ≠ 2) → storeSelf A i v = some ((A.setIfInBounds i (.val v)).setIfInBounds (i + 1) .second) := fun hq => by
    cases ho : A[i + 1]? with
    | none => rw [Array.getElem?_eq_none_iff] at ho; omega
    | some o => cases o with
      | unset => rw [ss_two hi0 hv ho]; exact setAt_eq (by simpa using hi)
      | second => rw [ss_two hi0 hv ho]; exact setAt_eq (by simpa using hi)
      | val w => have := hq w ho; rw [ss_two hi0 hv ho]; simp only [if_neg this]; exact setAt_eq (by simpa using hi)
  by_cases hw : ∃ w : Value, A[i + 1]? = some (.val w) ∧ w.category = 2
  · obtain ⟨w, h1, h2⟩ := hw
    have h3 := hn w h1 h2
    refine ⟨((A.setIfInBounds i (.val v)).setIfInBounds (i + 2) .unset).setIfInBounds (i + 1) .second, by rw [ss_two hi0 hv h1]; simp only [if_pos h2]; rw [setAt_eq (by simpa using h3)]; exact setAt_eq (by simpa using hi), by simp, ?_, by simp [hi], fun j a b => ?_, fun _ => ?_⟩
    · rw [Array.getElem?_setIfInBounds_ne (by omega), Array.getElem?_setIfInBounds_ne (by omega)]; simp [hi0]
    · rw [Array.getElem?_setIfInBounds_ne (by omega)]
      by_cases e : j = i + 2
      · subst e; exact Or.inr ⟨rfl, by simp [h3], w, h1, h2⟩
      · left; rw [Array.getElem?_setIfInBounds_ne (by omega), Array.getElem?_setIfInBounds_ne (by omega)]
    · rw [Array.getElem?_setIfInBounds_ne (by omega)]; simp [h3]
  · refine ⟨_, plain fun w h1 h2 => hw ⟨w, h1, h2⟩, by simp, ?_, by simp [hi], fun j a b => Or.inl ?_, fun q => absurd q hw⟩
    · rw [Array.getElem?_setIfInBounds_ne (by omega)]; simp [hi0]
    · rw [Array.getElem?_setIfInBounds_ne (by omega), Array.getElem?_setIfInBounds_ne (by omega)]
theorem store_two {L : Array Slot} {i : Nat} {v : Value} (hW : WFl L) (hi : i + 1 < L.size) (hv : v.category = 2) :
    ∃ L', storeLocals L i v = some L' ∧ L'.size = L.size ∧ WFl L' ∧ L'[i]? = some (.val v) ∧ L'[i + 1]? = some .second ∧ ∀ j, j ≠ i → j ≠ i + 1 → L'[j]? = L[j]? ∨ (j + 1 = i ∧ L[i]? = some .second) ∨ (j = i + 2 ∧ L[j]? = some .second) := by
  obtain ⟨A, a1, a2, a3, a4, a5⟩ := st_ph1 (v := v) hW hi
  have a6 : ∀ w : Value, A[i + 1]? = some (.val w) → w.category = 2 → L[i + 2]? = some .second := fun w h1 h2 => by
    rcases a4 with e | ⟨e, -⟩
    · rw [e] at h1; exact hW.2 _ _ h1 h2
    · rw [e] at h1; cases h1
  obtain ⟨L', b1, b2, b3, b4, b5, b6⟩ := st_ph2 (A := A) (i := i) (v := v) (by omega) hv (fun w h1 h2 => by have := (Array.getElem?_eq_some_iff.mp (a6 w h1 h2)).1; omega)
  have c : ∀ j, j ≠ i → j ≠ i + 1 → L'[j]? = L[j]? ∨ (j + 1 = i ∧ L[i]? = some .second ∧ L'[j]? = some .unset) ∨ (j = i + 2 ∧ L[j]? = some .second ∧ L'[j]? = some .unset) := fun j h1 h2 => by
    rcases b5 j h1 h2 with e | ⟨e1, e2, w, e3, e4⟩
    · rcases a3 j h1 h2 with r | ⟨r1, r2, r3⟩
      · exact Or.inl (e.trans r)
      · exact Or.inr (Or.inl ⟨r1, r2, e.trans r3⟩)
    · subst e1; exact Or.inr (Or.inr ⟨rfl, a6 w e3 e4, e2⟩)
  have cs : L[i]? = some .second → ∀ j, j + 1 = i → L'[j]? = some .unset := fun q j hj => by
    rcases b5 j (by omega) (by omega) with e | ⟨e1, -⟩
    · exact e.trans (a5 q j hj)
    · omega
  have c2 : L[i + 2]? = some .second → L'[i + 2]? = some .unset := fun q => by
    obtain ⟨j', w, z1, z2, z3⟩ := hW.1 _ q
    have : j' = i + 1 := by omega
    subst this
    rcases a4 with e | ⟨-, e⟩
    · exact b6 ⟨w, e.trans z2, z3⟩
    · rw [e] at z2; cases z2
  refine ⟨L', a1.trans b1, b2.trans a2, ⟨fun j hj => ?_, fun j w hj hw => ?_⟩, b3, b4, fun j h1 h2 => ?_⟩
  · by_cases e0 : j = i
    · subst e0; rw [b3] at hj; cases hj
    by_cases e1 : j = i + 1
    · exact ⟨i, v, e1, b3, hv⟩
    rcases c j e0 e1 with r | ⟨-, -, r⟩ | ⟨-, -, r⟩
    · rw [r] at hj
      obtain ⟨j', w, z1, z2, z3⟩ := hW.1 j hj
      refine ⟨j', w, z1, ?_, z3⟩
      have n0 : j' ≠ i := by omega
      by_cases n1 : j' = i + 1
      · have : j = i + 2 := by omega
        subst this
        rw [c2 hj] at r; rw [hj] at r; cases r
      rcases c j' n0 n1 with u | ⟨u, -, -⟩ | ⟨-, u, -⟩
      · exact u.trans z2
      · omega
      · rw [z2] at u; cases u
    · rw [r] at hj; cases hj
    · rw [r] at hj; cases hj
  · by_cases e0 : j = i
    · subst e0; exact b4
    by_cases e1 : j = i + 1
    · subst e1; rw [b4] at hj; cases hj
    rcases c j e0 e1 with r | ⟨-, -, r⟩ | ⟨-, -, r⟩
    · have hj' := hj
      rw [r] at hj
      have z := hW.2 j w hj hw
      by_cases n0 : j + 1 = i
      · subst n0; rw [cs z j rfl] at hj'; cases hj'
      by_cases n1 : j + 1 = i + 1
      · omega
      rcases c (j + 1) n0 n1 with u | ⟨u1, u2, -⟩ | ⟨u, -, -⟩
      · exact u.trans z
      · obtain ⟨j', w', y1, y2, y3⟩ := hW.1 i u2
        have : j' = j + 1 := by omega
        subst this; rw [z] at y2; cases y2
      · omega
    · rw [r] at hj; cases hj
    · rw [r] at hj; cases hj
  · rcases c j h1 h2 with r | ⟨r1, r2, -⟩ | ⟨r1, r2, -⟩
    · exact Or.inl r
    · exact Or.inr (Or.inl ⟨r1, r2⟩)
    · exact Or.inr (Or.inr ⟨r1, r2⟩)
theorem Fits.store2 {P : Pat} {L : Array Slot} {i : Nat} {v : Value} (h : Fits P L) (hi : i + 1 < L.size) (hv : v.category = 2) :
    ∃ L', storeLocals L i v = some L' ∧ L'.size = L.size ∧ Fits (ps2 P i v) L' := by
  obtain ⟨L', e1, e2, e3, e4, e4', e5⟩ := store_two h.2 hi hv
  refine ⟨L', e1, e2, fun j s hj => ?_, e3⟩
  rcases pget_pput _ _ _ _ _ hj with ⟨rfl, q⟩ | ⟨ne, q⟩
  · rw [e4']; exact q
  rcases pget_pput _ _ _ _ _ q with ⟨rfl, q'⟩ | ⟨ne', q'⟩
  · rw [e4]; exact q'
  obtain ⟨q1, q2⟩ := pk2_sub q'
  obtain ⟨q3, q4⟩ := pkp_sub q1
  have hL := h.1 j s q3
  rcases e5 j ne' ne with r | ⟨r1, r2⟩ | ⟨r1, r2⟩
  · rw [r]; exact hL
  · obtain ⟨j', w, z1, z2, z3⟩ := h.2.1 i r2
    have : j' = j := by omega
    subst this
    rw [hL] at z2; cases z2
    have := q4 r1 w rfl; omega
  · rw [hL] at r2; cases r2
    exact absurd rfl (q2 r1)
/- what a body does from a place on -/
def Runs (C : Ctx) (M : Bdy) (k n pc : Nat) (P : Pat) (S : List Value) (G : AH) (Q : Option Value → AH → Prop) : Prop :=
  Ok C → ∀ (p : Program) (e : Env) (s : State) (m : MethodId) (args : Array Value) (below : List Frame) (meth : Method) (c : Code) (T : State) (locs : List Loc) (L : Array Slot),
    p.tables.exec = Jvm.exec → c.code = M.2.1 → c.maxLocals = M.2.2.1 → meth.sig.returnType = M.2.2.2.1 → meth.name = M.1.name → s.vm.findClass M.1.cls = some m.cls → C.2.1.Warmed39 s.vm →
    Fits P L → L.size = M.2.2.1 → Stand p C.1 e M.2.2.2.2 s m args below meth c T locs k n → Rep C.2.1 C.2.2.1 T.heap G → Fr C.2.2.1 locs →
    ∃ (T' : State) (locs' : List Loc) (k' n' : Nat) (r : Option Value) (G' : AH), Stand p C.1 e M.2.2.2.2 s m args below meth c T' locs' k' n' ∧ k' ≤ M.2.2.2.2.cells ∧ n' ≤ M.2.2.2.2.slots ∧ Rep C.2.1 C.2.2.1 T'.heap G' ∧ Fr C.2.2.1 locs' ∧ Q r G' ∧
      (M.2.2.2.1 = none → r = none) ∧
      ∀ fs : List Frame, (∀ (f : JFrame) (acts : List Action), f.method = m → f.locked = none → f.entered = [] → (doReturn e (T'.setTop f) acts r).1 = T'.setFrames fs) → Steps p.tables e below (T.setTop (mkF m pc L S)) (T'.setFrames fs)
section Rules
variable {C : Ctx} {M : Bdy} {k n pc q : Nat} {P P' : Pat} {S S' : List Value} {G : AH} {Q : Option Value → AH → Prop}
/-- a step that leaves the heap alone -/
theorem Runs.pure {i : Instr} {len : Nat} (d : DAt M pc i len q) {pc' : Nat}
    (st : ∀ (p : Program) (e : Env) (s : State) (m : MethodId) (args : Array Value) (below : List Frame) (meth : Method) (c : Code) (T : State) (locs : List Loc) (L : Array Slot), Ok C → p.tables.exec = Jvm.exec → s.vm.findClass M.1.cls = some m.cls → C.2.1.Warmed39 s.vm → decode c.code pc = .ok (i, len) → Fits P L → L.size = M.2.2.1 → Rep C.2.1 C.2.2.1 T.heap G →
      Stand p C.1 e M.2.2.2.2 s m args below meth c T locs k n → ∃ L', Fits P' L' ∧ L'.size = M.2.2.1 ∧ ∀ t, Steps p.tables e below (T.setTop (mkF m pc' L' S')) t → Steps p.tables e below (T.setTop (mkF m pc L S)) t)
    (h : Runs C M k n pc' P' S' G Q) : Runs C M k n pc P S G Q := by
  intro hw p e s m args below meth c T locs L hx hby hml hret hnm hown hZ hP hsz X hR hF
  obtain ⟨L', f1, f2, f3⟩ := st p e s m args below meth c T locs L hw hx hown hZ (hb hby d.1) hP hsz hR X
  obtain ⟨T', locs', k', n', r, G', g1, g2, g3, g4, g5, g6, g7, g8⟩ := h hw p e s m args below meth c T locs L' hx hby hml hret hnm hown hZ f1 f2 X hR hF
  exact ⟨T', locs', k', n', r, G', g1, g2, g3, g4, g5, g6, g7, fun fs hr => f3 _ (g8 fs hr)⟩
/-- a step that keeps the locals and what the heap says -/
theorem Runs.stk {i : Instr} {len : Nat} (d : DAt M pc i len q)
    (st : ∀ (p : Program) (e : Env) (s : State) (m : MethodId) (args : Array Value) (below : List Frame) (meth : Method) (c : Code) (T : State) (locs : List Loc) (L : Array Slot), p.tables.exec = Jvm.exec → decode c.code pc = .ok (i, len) → Fits P L →
      Stand p C.1 e M.2.2.2.2 s m args below meth c T locs k n → ∀ t, Steps p.tables e below (T.setTop (mkF m (pc + len) L S')) t → Steps p.tables e below (T.setTop (mkF m pc L S)) t)
    (h : Runs C M k n q P S' G Q) : Runs C M k n pc P S G Q := by
  have hq := d.2
  subst hq
  exact Runs.pure d (fun p e s m args below meth c T locs L _ hx _ _ hd hP hsz _ X => ⟨L, hP, hsz, st p e s m args below meth c T locs L hx hd hP X⟩) h
theorem Runs.iloadN {j : Fin 4} {v : Int32} (d : DAt M pc (.iload_n j) 1 q) (hl : pget P j.val = vi v) (h : Runs C M k n q P (.int v :: S) G Q) : Runs C M k n pc P S G Q :=
  Runs.stk d (fun p e s m args below meth c T locs L hx hd hP X t r => XS.iloadN (g := mkF m pc L S) X.here hx rfl hd (hP.1 _ _ hl) r) h
theorem Runs.iload {j : Nat} {v : Int32} (d : DAt M pc (.iload j) 2 q) (hl : pget P j = vi v) (h : Runs C M k n q P (.int v :: S) G Q) : Runs C M k n pc P S G Q :=
  Runs.stk d (fun p e s m args below meth c T locs L hx hd hP X t r => XS.iload (g := mkF m pc L S) X.here hx rfl hd (hP.1 _ _ hl) r) h
theorem Runs.lloadN {j : Fin 4} {v : Int64} (d : DAt M pc (.lload_n j) 1 q) (hl : pget P j.val = vl v) (h : Runs C M k n q P (.long v :: S) G Q) : Runs C M k n pc P S G Q :=
  Runs.stk d (fun p e s m args below meth c T locs L hx hd hP X t r => XS.lloadN (g := mkF m pc L S) X.here hx rfl hd (hP.1 _ _ hl) r) h
theorem Runs.lload {j : Nat} {v : Int64} (d : DAt M pc (.lload j) 2 q) (hl : pget P j = vl v) (h : Runs C M k n q P (.long v :: S) G Q) : Runs C M k n pc P S G Q :=
  Runs.stk d (fun p e s m args below meth c T locs L hx hd hP X t r => XS.lload (g := mkF m pc L S) X.here hx rfl hd (hP.1 _ _ hl) r) h
theorem Runs.aloadN {j : Fin 4} {v : Nat} (d : DAt M pc (.aload_n j) 1 q) (hl : pget P j.val = vr v) (h : Runs C M k n q P (.ref v :: S) G Q) : Runs C M k n pc P S G Q :=
  Runs.stk d (fun p e s m args below meth c T locs L hx hd hP X t r => XS.aloadN (g := mkF m pc L S) X.here hx rfl hd (hP.1 _ _ hl) rfl r) h
theorem Runs.aload {j : Nat} {v : Nat} (d : DAt M pc (.aload j) 2 q) (hl : pget P j = vr v) (h : Runs C M k n q P (.ref v :: S) G Q) : Runs C M k n pc P S G Q :=
  Runs.stk d (fun p e s m args below meth c T locs L hx hd hP X t r => XS.aload (g := mkF m pc L S) X.here hx rfl hd (hP.1 _ _ hl) rfl r) h
theorem Runs.iconst {i : Int} {v : Int32} (d : DAt M pc (.iconst i) 1 q) (hv : Int32.ofInt i = v) (h : Runs C M k n q P (.int v :: S) G Q) : Runs C M k n pc P S G Q :=
  Runs.stk d (fun p e s m args below meth c T locs L hx hd hP X t r => XS.iconst (g := mkF m pc L S) X.here hx rfl hd (by rw [hv]; exact r)) h
theorem Runs.bipush {i : Int} {v : Int32} (d : DAt M pc (.bipush i) 2 q) (hv : (Int8.ofInt i).toInt32 = v) (h : Runs C M k n q P (.int v :: S) G Q) : Runs C M k n pc P S G Q :=
  Runs.stk d (fun p e s m args below meth c T locs L hx hd hP X t r => XS.bipush (g := mkF m pc L S) X.here hx rfl hd (by rw [hv]; exact r)) h
theorem Runs.sipush {i : Int} {v : Int32} (d : DAt M pc (.sipush i) 3 q) (hv : (Int16.ofInt i).toInt32 = v) (h : Runs C M k n q P (.int v :: S) G Q) : Runs C M k n pc P S G Q :=
  Runs.stk d (fun p e s m args below meth c T locs L hx hd hP X t r => XS.sipush (g := mkF m pc L S) X.here hx rfl hd (by rw [hv]; exact r)) h
theorem Runs.lconst {i : Fin 2} {v : Int64} (d : DAt M pc (.lconst i) 1 q) (hv : Int64.ofNat i = v) (h : Runs C M k n q P (.long v :: S) G Q) : Runs C M k n pc P S G Q :=
  Runs.stk d (fun p e s m args below meth c T locs L hx hd hP X t r => Jvm.Free.XT.lconstV (g := mkF m pc L S) X.here hx rfl v hd hv r) h
theorem Runs.ldc {i : Nat} {v : Int32} (d : DAt M pc (.ldc i) 2 q) (w : Jvm.Cond.constant M.1.cls i v ∈ tables_1) (h : Runs C M k n q P (.int v :: S) G Q) : Runs C M k n pc P S G Q := by
  have hq := d.2
  subst hq
  exact Runs.pure d (fun p e s m args below meth c T locs L hw hx hown hZ hd hP hsz _ X => ⟨L, hP, hsz, fun t r => X.ldcInt hx hown (mvT hZ (hw _ w)) (g := mkF m pc L S) rfl hd t r⟩) h
theorem Runs.ldc2 {i : Nat} {v : Int64} (d : DAt M pc (.ldc2_w i) 3 q) (w : Jvm.Cond.constantLong M.1.cls i v ∈ tables_1) (h : Runs C M k n q P (.long v :: S) G Q) : Runs C M k n pc P S G Q := by
  have hq := d.2
  subst hq
  exact Runs.pure d (fun p e s m args below meth c T locs L hw hx hown hZ hd hP hsz _ X => ⟨L, hP, hsz, fun t r => X.ldc2Long hx hown (mvT hZ (hw _ w)) (g := mkF m pc L S) rfl hd t r⟩) h
theorem Runs.iadd {x y : Int32} (d : DAt M pc .iadd 1 q) (h : Runs C M k n q P (.int (x + y) :: S) G Q) : Runs C M k n pc P (.int y :: .int x :: S) G Q :=
  Runs.stk d (fun p e s m args below meth c T locs L hx hd hP X t r => XS.iadd (g := mkF m pc L (.int y :: .int x :: S)) X.here hx rfl hd rfl r) h
theorem Runs.isub {x y : Int32} (d : DAt M pc .isub 1 q) (h : Runs C M k n q P (.int (x - y) :: S) G Q) : Runs C M k n pc P (.int y :: .int x :: S) G Q :=
  Runs.stk d (fun p e s m args below meth c T locs L hx hd hP X t r => XS.isub (g := mkF m pc L (.int y :: .int x :: S)) X.here hx rfl hd rfl r) h
theorem Runs.imul {x y : Int32} (d : DAt M pc .imul 1 q) (h : Runs C M k n q P (.int (x * y) :: S) G Q) : Runs C M k n pc P (.int y :: .int x :: S) G Q :=
  Runs.stk d (fun p e s m args below meth c T locs L hx hd hP X t r => XS.imul (g := mkF m pc L (.int y :: .int x :: S)) X.here hx rfl hd rfl r) h
theorem Runs.iand {x y : Int32} (d : DAt M pc .iand 1 q) (h : Runs C M k n q P (.int (x &&& y) :: S) G Q) : Runs C M k n pc P (.int y :: .int x :: S) G Q :=
  Runs.stk d (fun p e s m args below meth c T locs L hx hd hP X t r => XS.iand (g := mkF m pc L (.int y :: .int x :: S)) X.here hx rfl hd rfl r) h
theorem Runs.ior {x y : Int32} (d : DAt M pc .ior 1 q) (h : Runs C M k n q P (.int (x ||| y) :: S) G Q) : Runs C M k n pc P (.int y :: .int x :: S) G Q :=
  Runs.stk d (fun p e s m args below meth c T locs L hx hd hP X t r => XS.ior (g := mkF m pc L (.int y :: .int x :: S)) X.here hx rfl hd rfl r) h
theorem Runs.ixor {x y : Int32} (d : DAt M pc .ixor 1 q) (h : Runs C M k n q P (.int (x ^^^ y) :: S) G Q) : Runs C M k n pc P (.int y :: .int x :: S) G Q :=
  Runs.stk d (fun p e s m args below meth c T locs L hx hd hP X t r => XS.ixor (g := mkF m pc L (.int y :: .int x :: S)) X.here hx rfl hd rfl r) h
theorem Runs.ladd {x y : Int64} (d : DAt M pc .ladd 1 q) (h : Runs C M k n q P (.long (x + y) :: S) G Q) : Runs C M k n pc P (.long y :: .long x :: S) G Q :=
  Runs.stk d (fun p e s m args below meth c T locs L hx hd hP X t r => XS.ladd (g := mkF m pc L (.long y :: .long x :: S)) X.here hx rfl hd rfl r) h
theorem Runs.lsub {x y : Int64} (d : DAt M pc .lsub 1 q) (h : Runs C M k n q P (.long (x - y) :: S) G Q) : Runs C M k n pc P (.long y :: .long x :: S) G Q :=
  Runs.stk d (fun p e s m args below meth c T locs L hx hd hP X t r => XS.lsub (g := mkF m pc L (.long y :: .long x :: S)) X.here hx rfl hd rfl r) h
theorem Runs.lmul {x y : Int64} (d : DAt M pc .lmul 1 q) (h : Runs C M k n q P (.long (x * y) :: S) G Q) : Runs C M k n pc P (.long y :: .long x :: S) G Q :=
  Runs.stk d (fun p e s m args below meth c T locs L hx hd hP X t r => XS.lmul (g := mkF m pc L (.long y :: .long x :: S)) X.here hx rfl hd rfl r) h
theorem Runs.land {x y : Int64} (d : DAt M pc .land 1 q) (h : Runs C M k n q P (.long (x &&& y) :: S) G Q) : Runs C M k n pc P (.long y :: .long x :: S) G Q :=
  Runs.stk d (fun p e s m args below meth c T locs L hx hd hP X t r => XS.land (g := mkF m pc L (.long y :: .long x :: S)) X.here hx rfl hd rfl r) h
theorem Runs.lor {x y : Int64} (d : DAt M pc .lor 1 q) (h : Runs C M k n q P (.long (x ||| y) :: S) G Q) : Runs C M k n pc P (.long y :: .long x :: S) G Q :=
  Runs.stk d (fun p e s m args below meth c T locs L hx hd hP X t r => XS.lor (g := mkF m pc L (.long y :: .long x :: S)) X.here hx rfl hd rfl r) h
theorem Runs.lxor {x y : Int64} (d : DAt M pc .lxor 1 q) (h : Runs C M k n q P (.long (x ^^^ y) :: S) G Q) : Runs C M k n pc P (.long y :: .long x :: S) G Q :=
  Runs.stk d (fun p e s m args below meth c T locs L hx hd hP X t r => XS.lxor (g := mkF m pc L (.long y :: .long x :: S)) X.here hx rfl hd rfl r) h
theorem Runs.ishl {x : Int32} {y : Int32} (d : DAt M pc .ishl 1 q) (h : Runs C M k n q P (.int (x <<< (y &&& 31)) :: S) G Q) : Runs C M k n pc P (.int y :: .int x :: S) G Q :=
  Runs.stk d (fun p e s m args below meth c T locs L hx hd hP X t r => XS.ishl (g := mkF m pc L (.int y :: .int x :: S)) X.here hx rfl hd rfl r) h
theorem Runs.ishr {x : Int32} {y : Int32} (d : DAt M pc .ishr 1 q) (h : Runs C M k n q P (.int (x >>> (y &&& 31)) :: S) G Q) : Runs C M k n pc P (.int y :: .int x :: S) G Q :=
  Runs.stk d (fun p e s m args below meth c T locs L hx hd hP X t r => XS.ishr (g := mkF m pc L (.int y :: .int x :: S)) X.here hx rfl hd rfl r) h
theorem Runs.iushr {x : Int32} {y : Int32} (d : DAt M pc .iushr 1 q) (h : Runs C M k n q P (.int ((x.toUInt32 >>> (y &&& 31).toUInt32).toInt32) :: S) G Q) : Runs C M k n pc P (.int y :: .int x :: S) G Q :=
  Runs.stk d (fun p e s m args below meth c T locs L hx hd hP X t r => XS.iushr (g := mkF m pc L (.int y :: .int x :: S)) X.here hx rfl hd rfl r) h
theorem Runs.lshl {x : Int64} {y : Int32} (d : DAt M pc .lshl 1 q) (h : Runs C M k n q P (.long (x <<< (y &&& 0x3f).toInt64) :: S) G Q) : Runs C M k n pc P (.int y :: .long x :: S) G Q :=
  Runs.stk d (fun p e s m args below meth c T locs L hx hd hP X t r => XS.lshl (g := mkF m pc L (.int y :: .long x :: S)) X.here hx rfl hd rfl r) h
theorem Runs.lshr {x : Int64} {y : Int32} (d : DAt M pc .lshr 1 q) (h : Runs C M k n q P (.long (x >>> (y &&& 0x3f).toInt64) :: S) G Q) : Runs C M k n pc P (.int y :: .long x :: S) G Q :=
  Runs.stk d (fun p e s m args below meth c T locs L hx hd hP X t r => XS.lshr (g := mkF m pc L (.int y :: .long x :: S)) X.here hx rfl hd rfl r) h
theorem Runs.lushr {x : Int64} {y : Int32} (d : DAt M pc .lushr 1 q) (h : Runs C M k n q P (.long ((x.toUInt64 >>> (y &&& 0x3f).toInt64.toUInt64).toInt64) :: S) G Q) : Runs C M k n pc P (.int y :: .long x :: S) G Q :=
  Runs.stk d (fun p e s m args below meth c T locs L hx hd hP X t r => XS.lushr (g := mkF m pc L (.int y :: .long x :: S)) X.here hx rfl hd rfl r) h
theorem Runs.ineg {x : Int32} (d : DAt M pc .ineg 1 q) (h : Runs C M k n q P (.int (-x) :: S) G Q) : Runs C M k n pc P (.int x :: S) G Q :=
  Runs.stk d (fun p e s m args below meth c T locs L hx hd hP X t r => XS.ineg (g := mkF m pc L (.int x :: S)) X.here hx rfl hd rfl r) h
theorem Runs.lneg {x : Int64} (d : DAt M pc .lneg 1 q) (h : Runs C M k n q P (.long (-x) :: S) G Q) : Runs C M k n pc P (.long x :: S) G Q :=
  Runs.stk d (fun p e s m args below meth c T locs L hx hd hP X t r => XS.lneg (g := mkF m pc L (.long x :: S)) X.here hx rfl hd rfl r) h
theorem Runs.i2l {x : Int32} (d : DAt M pc .i2l 1 q) (h : Runs C M k n q P (.long x.toInt64 :: S) G Q) : Runs C M k n pc P (.int x :: S) G Q :=
  Runs.stk d (fun p e s m args below meth c T locs L hx hd hP X t r => XS.i2l (g := mkF m pc L (.int x :: S)) X.here hx rfl hd rfl r) h
theorem Runs.l2i {x : Int64} (d : DAt M pc .l2i 1 q) (h : Runs C M k n q P (.int x.toInt32 :: S) G Q) : Runs C M k n pc P (.long x :: S) G Q :=
  Runs.stk d (fun p e s m args below meth c T locs L hx hd hP X t r => XS.l2i (g := mkF m pc L (.long x :: S)) X.here hx rfl hd rfl r) h
theorem Runs.lcmp {x y : Int64} (d : DAt M pc .lcmp 1 q) (h : Runs C M k n q P (.int (lcmpW x y) :: S) G Q) : Runs C M k n pc P (.long y :: .long x :: S) G Q :=
  Runs.stk d (fun p e s m args below meth c T locs L hx hd hP X t r => XS.lcmp (g := mkF m pc L (.long y :: .long x :: S)) X.here hx rfl hd rfl r) h
theorem Runs.idiv {x y : Int32} (d : DAt M pc .idiv 1 q) (hy : y ≠ 0) (h : Runs C M k n q P (.int (x / y) :: S) G Q) : Runs C M k n pc P (.int y :: .int x :: S) G Q :=
  Runs.stk d (fun p e s m args below meth c T locs L hx hd hP X t r => XS.idiv (g := mkF m pc L (.int y :: .int x :: S)) X.here hx rfl hd rfl hy r) h
theorem Runs.irem {x y : Int32} (d : DAt M pc .irem 1 q) (hy : y ≠ 0) (h : Runs C M k n q P (.int (x % y) :: S) G Q) : Runs C M k n pc P (.int y :: .int x :: S) G Q :=
  Runs.stk d (fun p e s m args below meth c T locs L hx hd hP X t r => iremM (g := mkF m pc L (.int y :: .int x :: S)) X hx rfl hd rfl hy r) h
theorem Runs.dup {x : Value} (d : DAt M pc .dup 1 q) (hc : x.category = 1) (h : Runs C M k n q P (x :: x :: S) G Q) : Runs C M k n pc P (x :: S) G Q :=
  Runs.stk d (fun p e s m args below meth c T locs L hx hd hP X t r => XS.dup (g := mkF m pc L (x :: S)) X.here hx rfl hd rfl hc r) h
theorem Runs.dup2 {x y : Value} (d : DAt M pc .dup2 1 q) (hc : x.category = 1) (hc' : y.category = 1) (h : Runs C M k n q P (x :: y :: x :: y :: S) G Q) : Runs C M k n pc P (x :: y :: S) G Q :=
  Runs.stk d (fun p e s m args below meth c T locs L hx hd hP X t r => Jvm.Free.XT.dup2 (g := mkF m pc L (x :: y :: S)) X.here hx rfl hd rfl hc hc' r) h
theorem Runs.pop {x : Value} (d : DAt M pc .pop 1 q) (hc : x.category = 1) (h : Runs C M k n q P S G Q) : Runs C M k n pc P (x :: S) G Q :=
  Runs.stk d (fun p e s m args below meth c T locs L hx hd hP X t r => XS.pop (g := mkF m pc L (x :: S)) X.here hx rfl hd rfl hc r) h
theorem Runs.goto {o : Int} {pc' : Nat} (d : DAt M pc (.goto o) 3 q) (ho : 0 ≤ (pc : Int) + o ∧ ((pc : Int) + o).toNat = pc') (h : Runs C M k n pc' P S G Q) : Runs C M k n pc P S G Q :=
  Runs.pure d (fun p e s m args below meth c T locs L hw hx hown hZ hd hP hsz _ X => ⟨L, hP, hsz, fun t r => XS.goto (g := mkF m pc L S) X.here hx rfl (pc0 := pc) rfl hd ho.1 ho.2 r⟩) h
theorem Runs.ifY {cd : ClassFile.Cond} {x : Int32} {o : Int} {pc' : Nat} (d : DAt M pc (.ifCond cd o) 3 q) (hc : if_icmp.holds cd x 0 = true) (ho : 0 ≤ (pc : Int) + o ∧ ((pc : Int) + o).toNat = pc') (h : Runs C M k n pc' P S G Q) : Runs C M k n pc P (.int x :: S) G Q :=
  Runs.pure d (fun p e s m args below meth c T locs L hw hx hown hZ hd hP hsz _ X => ⟨L, hP, hsz, fun t r => XS.ifYes (g := mkF m pc L (.int x :: S)) X.here hx rfl (pc0 := pc) rfl hd rfl ((if0 _ _).trans hc) ho.1 ho.2 r⟩) h
theorem Runs.ifN {cd : ClassFile.Cond} {x : Int32} {o : Int} (d : DAt M pc (.ifCond cd o) 3 q) (hc : if_icmp.holds cd x 0 = false) (h : Runs C M k n q P S G Q) : Runs C M k n pc P (.int x :: S) G Q :=
  Runs.stk d (fun p e s m args below meth c T locs L hx hd hP X t r => XS.ifNo (g := mkF m pc L (.int x :: S)) X.here hx rfl hd rfl ((if0 _ _).trans hc) r) h
theorem Runs.icY {cd : ClassFile.Cond} {x y : Int32} {o : Int} {pc' : Nat} (d : DAt M pc (.if_icmp cd o) 3 q) (hc : if_icmp.holds cd x y = true) (ho : 0 ≤ (pc : Int) + o ∧ ((pc : Int) + o).toNat = pc') (h : Runs C M k n pc' P S G Q) : Runs C M k n pc P (.int y :: .int x :: S) G Q :=
  Runs.pure d (fun p e s m args below meth c T locs L hw hx hown hZ hd hP hsz _ X => ⟨L, hP, hsz, fun t r => XS.icmpYes (g := mkF m pc L (.int y :: .int x :: S)) X.here hx rfl (pc0 := pc) rfl hd rfl hc ho.1 ho.2 r⟩) h
theorem Runs.icN {cd : ClassFile.Cond} {x y : Int32} {o : Int} (d : DAt M pc (.if_icmp cd o) 3 q) (hc : if_icmp.holds cd x y = false) (h : Runs C M k n q P S G Q) : Runs C M k n pc P (.int y :: .int x :: S) G Q :=
  Runs.stk d (fun p e s m args below meth c T locs L hx hd hP X t r => XS.icmpNo (g := mkF m pc L (.int y :: .int x :: S)) X.here hx rfl hd rfl hc r) h
theorem Runs.tswI {dflt low high : Int} {offs : Array Int} {len : Nat} {o : Int} {pc' : Nat} {i : Int32} (d : DAt M pc (.tableswitch dflt low high offs) len q) (hin : ¬ (i.toInt < low ∨ i.toInt > high)) (hoff : offs[(i.toInt - low).toNat]? = some o) (ho : 0 ≤ (pc : Int) + o ∧ ((pc : Int) + o).toNat = pc') (h : Runs C M k n pc' P S G Q) : Runs C M k n pc P (.int i :: S) G Q :=
  Runs.pure d (fun p e s m args below meth c T locs L hw hx hown hZ hd hP hsz _ X => ⟨L, hP, hsz, fun t r => XS.tswIn (g := mkF m pc L (.int i :: S)) X.here hx rfl (pc0 := pc) rfl hd rfl hin hoff ho.1 ho.2 r⟩) h
theorem Runs.tswO {dflt low high : Int} {offs : Array Int} {len : Nat} {pc' : Nat} {i : Int32} (d : DAt M pc (.tableswitch dflt low high offs) len q) (hout : i.toInt < low ∨ i.toInt > high) (ho : 0 ≤ (pc : Int) + dflt ∧ ((pc : Int) + dflt).toNat = pc') (h : Runs C M k n pc' P S G Q) : Runs C M k n pc P (.int i :: S) G Q :=
  Runs.pure d (fun p e s m args below meth c T locs L hw hx hown hZ hd hP hsz _ X => ⟨L, hP, hsz, fun t r => XS.tswOut (g := mkF m pc L (.int i :: S)) X.here hx rfl (pc0 := pc) rfl hd rfl hout ho.1 ho.2 r⟩) h
theorem Runs.istoreN {j : Fin 4} {x : Int32} (d : DAt M pc (.istore_n j) 1 q) (hi : j.val < M.2.2.1) (hP' : ps1 P j.val (.int x) = P') (h : Runs C M k n q P' S G Q) : Runs C M k n pc P (.int x :: S) G Q := by
  have hq := d.2
  subst hq hP'
  refine Runs.pure d (fun p e s m args below meth c T locs L hw hx hown hZ hd hP hsz _ X => ?_) h
  obtain ⟨L', e1, e2, e3⟩ := hP.store1 (i := j.val) (v := .int x) (by omega) rfl
  exact ⟨L', e3, e2.trans hsz, fun t r => XS.istoreN (g := mkF m pc L (.int x :: S)) X.here hx rfl hd rfl e1 r⟩
theorem Runs.istore {j : Nat} {x : Int32} (d : DAt M pc (.istore j) 2 q) (hi : j < M.2.2.1) (hP' : ps1 P j (.int x) = P') (h : Runs C M k n q P' S G Q) : Runs C M k n pc P (.int x :: S) G Q := by
  have hq := d.2
  subst hq hP'
  refine Runs.pure d (fun p e s m args below meth c T locs L hw hx hown hZ hd hP hsz _ X => ?_) h
  obtain ⟨L', e1, e2, e3⟩ := hP.store1 (i := j) (v := .int x) (by omega) rfl
  exact ⟨L', e3, e2.trans hsz, fun t r => XS.istore (g := mkF m pc L (.int x :: S)) X.here hx rfl hd rfl e1 r⟩
theorem Runs.astoreN {j : Fin 4} {x : Nat} (d : DAt M pc (.astore_n j) 1 q) (hi : j.val < M.2.2.1) (hP' : ps1 P j.val (.ref x) = P') (h : Runs C M k n q P' S G Q) : Runs C M k n pc P (.ref x :: S) G Q := by
  have hq := d.2
  subst hq hP'
  refine Runs.pure d (fun p e s m args below meth c T locs L hw hx hown hZ hd hP hsz _ X => ?_) h
  obtain ⟨L', e1, e2, e3⟩ := hP.store1 (i := j.val) (v := .ref x) (by omega) rfl
  exact ⟨L', e3, e2.trans hsz, fun t r => XS.astoreN (g := mkF m pc L (.ref x :: S)) X.here hx rfl hd rfl rfl e1 r⟩
theorem Runs.astore {j : Nat} {x : Nat} (d : DAt M pc (.astore j) 2 q) (hi : j < M.2.2.1) (hP' : ps1 P j (.ref x) = P') (h : Runs C M k n q P' S G Q) : Runs C M k n pc P (.ref x :: S) G Q := by
  have hq := d.2
  subst hq hP'
  refine Runs.pure d (fun p e s m args below meth c T locs L hw hx hown hZ hd hP hsz _ X => ?_) h
  obtain ⟨L', e1, e2, e3⟩ := hP.store1 (i := j) (v := .ref x) (by omega) rfl
  exact ⟨L', e3, e2.trans hsz, fun t r => XS.astore (g := mkF m pc L (.ref x :: S)) X.here hx rfl hd rfl rfl e1 r⟩
theorem Runs.lstoreN {j : Fin 4} {x : Int64} (d : DAt M pc (.lstore_n j) 1 q) (hi : j.val + 1 < M.2.2.1) (hP' : ps2 P j.val (.long x) = P') (h : Runs C M k n q P' S G Q) : Runs C M k n pc P (.long x :: S) G Q := by
  have hq := d.2
  subst hq hP'
  refine Runs.pure d (fun p e s m args below meth c T locs L hw hx hown hZ hd hP hsz _ X => ?_) h
  obtain ⟨L', e1, e2, e3⟩ := hP.store2 (i := j.val) (v := .long x) (by omega) rfl
  exact ⟨L', e3, e2.trans hsz, fun t r => XS.lstoreN (g := mkF m pc L (.long x :: S)) X.here hx rfl hd rfl e1 r⟩
theorem Runs.lstore {j : Nat} {x : Int64} (d : DAt M pc (.lstore j) 2 q) (hi : j + 1 < M.2.2.1) (hP' : ps2 P j (.long x) = P') (h : Runs C M k n q P' S G Q) : Runs C M k n pc P (.long x :: S) G Q := by
  have hq := d.2
  subst hq hP'
  refine Runs.pure d (fun p e s m args below meth c T locs L hw hx hown hZ hd hP hsz _ X => ?_) h
  obtain ⟨L', e1, e2, e3⟩ := hP.store2 (i := j) (v := .long x) (by omega) rfl
  exact ⟨L', e3, e2.trans hsz, fun t r => XS.lstore (g := mkF m pc L (.long x :: S)) X.here hx rfl hd rfl e1 r⟩
theorem Runs.iinc {j : Nat} {cst : Int} {x v : Int32} (d : DAt M pc (.iinc j cst) 3 q) (hv : Int32.ofInt cst = v) (hl : pget P j = vi x) (hi : j < M.2.2.1) (hP' : ps1 P j (.int (x + v)) = P') (h : Runs C M k n q P' S G Q) : Runs C M k n pc P S G Q := by
  have hq := d.2
  subst hq hP' hv
  refine Runs.pure d (fun p e s m args below meth c T locs L hw hx hown hZ hd hP hsz _ X => ?_) h
  obtain ⟨L', e1, e2, e3⟩ := hP.store1 (i := j) (v := .int (x + Int32.ofInt cst)) (by omega) rfl
  exact ⟨L', e3, e2.trans hsz, fun t r => XS.iinc (g := mkF m pc L S) X.here hx rfl hd (hP.1 _ _ hl) e1 r⟩
/-- less is known of the locals -/
def psub : Pat → Pat → Prop
  | [], _ => True
  | none :: l, _ :: l' => psub l l'
  | some s :: l, y :: l' => y = some s ∧ psub l l'
  | none :: l, [] => psub l []
  | some _ :: _, [] => False
theorem psub_get : ∀ (P P' : Pat), psub P P' → ∀ i s, pget P i = some s → pget P' i = some s
  | [], _, _, i, s, h => by simp [pget] at h
  | none :: l, _ :: l', H, 0, s, h => by simp [pget] at h
  | none :: l, _ :: l', H, i + 1, s, h => psub_get l l' H i s h
  | some x :: l, y :: l', H, 0, s, h => by rw [show y = some x from H.1]; exact h
  | some x :: l, y :: l', H, i + 1, s, h => psub_get l l' H.2 i s h
  | none :: l, [], H, 0, s, h => by simp [pget] at h
  | none :: l, [], H, i + 1, s, h => by have := psub_get l [] H i s h; simp [pget] at this
  | some _ :: _, [], H, _, _, _ => H.elim
theorem Runs.weak (hP : psub P' P) (h : Runs C M k n pc P' S G Q) : Runs C M k n pc P S G Q := by
  intro hw p e s m args below meth c T locs L hx hby hml hret hnm hown hZ hf
  exact h hw p e s m args below meth c T locs L hx hby hml hret hnm hown hZ ⟨fun i s hi => hf.1 i s (psub_get _ _ hP i s hi), hf.2⟩
theorem Runs.swap {top : Nat} {x y : Nat × Nat × Rec} {H : List (Nat × Nat × Rec)} (h : Runs C M k n pc P S (top, y :: x :: H) Q) : Runs C M k n pc P S (top, x :: y :: H) Q := by
  intro hw p e s m args below meth c T locs L hx hby hml hret hnm hown hZ hf hsz X hR hF
  exact h hw p e s m args below meth c T locs L hx hby hml hret hnm hown hZ hf hsz X hR.swap hF
end Rules
/- the steps that touch the heap -/
section Made
variable {p : Program} {l : Launch} {e : Env} {R : Room} {s : State} {m : MethodId} {args : Array Value} {below : List Frame} {meth : Method} {c : Code} {T : State} {locs : List Loc} {cells slots : Nat} {Z : State} {a0 : Array Value}
theorem ext_push (h : Heap) (x : Cell) : Ext h (h.push x) := ⟨by simp, fun a c q => by rw [Array.getElem?_push_lt (Array.getElem?_eq_some_iff.mp q).1]; exact (Array.getElem?_eq_getElem _).symm.trans q⟩
/-- 'new', with the heap's size behind it -/
theorem new1 (X : Stand p l e R s m args below meth c T locs cells slots) (hx : p.tables.exec = Jvm.exec) (hZ : Z.Warmed39 s.vm) {own C : String} {index n : Nat} (hown : s.vm.findClass own = some m.cls) (w : (Jvm.Cond.classLink own index C).before a0 Z = true) (wi : (Jvm.Cond.instantiable C n).before a0 Z = true) (wz : (Jvm.Cond.initialized C).before a0 Z = true)
    {g : JFrame} (hg : g.method = m) (hd : decode c.code g.pc = .ok (.new index, 3)) (hc : cells + 1 ≤ R.cells) (hl : slots + n ≤ R.slots) :
    ∃ T', Stand p l e R s m args below meth c T' locs (cells + 1) (slots + n) ∧ T'.heap.size = T.heap.size + 1 ∧ Ext T.heap T'.heap ∧ Exa Z T'.heap T.heap.size C ∧ (∀ {O nm d : String} {ty : FieldType}, Laid Z a0 C O nm d → parseFieldDescriptor d = some ty → Fld Z T'.heap T.heap.size O nm d (defaultValue ty)) ∧
      ∀ target, Steps p.tables e below (T'.setTop { g with pc := g.pc + 3, stack := .ref T.heap.size :: g.stack }) target → Steps p.tables e below (T.setTop g) target := by
  obtain ⟨vm', cC, kC, h1, h2, h3, h4, X', st⟩ := X.newCold hx hown (mv hZ w) (mv hZ wi) (mv hZ wz) hg hd hc hl
  rw [hZ.alike.findClass] at h1
  obtain ⟨kZ, z1, -⟩ := Vm.findClass_spec h1
  obtain ⟨k', z2, z3⟩ := hZ.alike.2.2 _ _ z1
  have ek : kC.instanceTypes = kZ.instanceTypes := by rw [Option.some.inj (h2.symm.trans z2), z3]
  obtain ⟨cell, hcell⟩ : ∃ cell : Cell, cell = { cls := cC, slots := kC.instanceTypes.map defaultValue, vm := .none } := ⟨_, rfl⟩
  rw [← hcell] at X' st
  have hp : ((T.setVm vm').pushCell cell).heap = T.heap.push cell := rfl
  have at' : (T.heap.push cell)[T.heap.size]? = some cell := by simp
  refine ⟨_, X', by rw [hp]; simp, by rw [hp]; exact ext_push _ _, ?_, fun {O nm d ty} L ht => ?_, st⟩
  · rw [hp]; exact ⟨cell, kZ, at', by rw [hcell]; exact h1, by rw [hcell]; exact z1, by rw [hcell]; rfl, fun _ => by rw [hcell]; simp [ek]⟩
  · rw [hp]
    obtain ⟨c1, k1, cf, kf, i, f, a1, a2, a3, a4, a5, a6, -⟩ := L.spec
    cases h1.symm.trans a1
    cases z1.symm.trans a2
    refine ⟨cell, cf, kf, i, f, at', a3, a4, by rw [hcell]; simp, by rw [hcell]; rfl, by rw [hcell]; exact a5, ?_⟩
    rw [hcell]; simp [ek, a6, (State.fieldFound?_type a3 ht).2]
theorem newArr1 (X : Stand p l e R s m args below meth c T locs cells slots) (hx : p.tables.exec = Jvm.exec) (hZ : Z.Warmed39 s.vm) {aty : ArrayType} (w : (Jvm.Cond.arrayClass (newarray.typeOf aty)).before a0 Z = true) {g : JFrame} (hg : g.method = m) (hd : decode c.code g.pc = .ok (.newarray aty, 2)) {n : Int32} {rest : List Value} (hs : g.stack = .int n :: rest)
    (hn : ¬ n < 0) (hb : n.toNatClampNeg * 8 ≤ 536870912) (hc : cells + 1 ≤ R.cells) (hl : slots + n.toNatClampNeg ≤ R.slots) :
    ∃ T' cA, Stand p l e R s m args below meth c T' locs (cells + 1) (slots + n.toNatClampNeg) ∧ T'.heap.size = T.heap.size + 1 ∧ Ext T.heap T'.heap ∧ Arr Z T'.heap T.heap.size (newA cA (newarray.typeOf aty) n) (newarray.typeOf aty) ∧
      ∀ target, Steps p.tables e below (T'.setTop { g with pc := g.pc + 2, stack := .ref T.heap.size :: rest }) target → Steps p.tables e below (T.setTop g) target := by
  have hcb : componentBytes (newarray.typeOf aty) ≤ 8 := by cases aty <;> decide
  obtain ⟨cA, kA, comp, h1, h2, h3, X', st⟩ := X.newarrayPrim hx (mvA hZ w) hg hd hs hn (Nat.le_trans (Nat.mul_le_mul_left _ hcb) hb) hc hl
  rw [hZ.alike.findClass] at h1
  obtain ⟨kZ, z1, -⟩ := Vm.findClass_spec h1
  obtain ⟨k', z2, z3⟩ := hZ.alike.2.2 _ _ z1
  have ek : kA.kind = kZ.kind := by rw [Option.some.inj (h2.symm.trans z2), z3]
  have hp : (T.pushCell (newA cA (newarray.typeOf aty) n)).heap = T.heap.push (newA cA (newarray.typeOf aty) n) := rfl
  refine ⟨T.pushCell (newA cA (newarray.typeOf aty) n), cA, X', by rw [hp]; simp, by rw [hp]; exact ext_push _ _, ?_, st⟩
  rw [hp]
  exact ⟨by simp, ⟨by simp [newA], kZ, z1, comp, by rw [← ek]; exact h3⟩, by simp [newA]⟩
end Made
section Heap
variable {C : Ctx} {M : Bdy} {k n pc q : Nat} {P P' : Pat} {S S' : List Value} {G : AH} {Q : Option Value → AH → Prop} {top : Nat} {a : Nat} {qq j idx : Nat} {ob : Rec} {H : List (Nat × Nat × Rec)} {nm ds : String}
theorem Runs.getI (d : DAt M pc (.getfield idx) 3 q) (w : Jvm.Cond.fieldLink M.1.cls idx K.1 nm ds ∈ tables_1) (hk : K.2.1[j]? = some (nm, ds)) (h : Runs C M k n q P (.int (gI ob j) :: S) (top, (a, qq, ob) :: H) Q) : Runs C M k n pc P (.ref a :: S) (top, (a, qq, ob) :: H) Q := by
  intro hw p e s m args below meth c T locs L hx hby hml hret hnm hown hZ hf hsz X hR hF
  have hq := d.2
  subst hq
  obtain ⟨T1, X1, e1, st1⟩ := getF X hx hZ hown (host := "") (Or.inl (hw _ w)) Via.refl rfl (hR.objs.2.2.2.1 j _ hk) (g := mkF m pc L (.ref a :: S)) rfl rfl (hb hby d.1)
  obtain ⟨T', locs', k', n', r, G', g1, g2, g3, g4, g5, g6, g7, g8⟩ := h hw p e s m args below meth c T1 locs L hx hby hml hret hnm hown hZ hf hsz X1 (by rw [e1]; exact hR) hF
  exact ⟨T', locs', k', n', r, G', g1, g2, g3, g4, g5, g6, g7, fun fs hr => st1 _ (g8 fs hr)⟩
theorem Runs.getA {ty : FieldType} {len : Int32} (d : DAt M pc (.getfield idx) 3 q) (hk : K.2.2[j]? = some (nm, ty, len)) (w : Jvm.Cond.fieldLink M.1.cls idx K.1 nm (aD ty) ∈ tables_1) (hq : j < qq) (h : Runs C M k n q P (.ref (a + 1 + j) :: S) (top, (a, qq, ob) :: H) Q) : Runs C M k n pc P (.ref a :: S) (top, (a, qq, ob) :: H) Q := by
  intro hw p e s m args below meth c T locs L hx hby hml hret hnm hown hZ hf hsz X hR hF
  have hqq := d.2
  subst hqq
  obtain ⟨T1, X1, e1, st1⟩ := getF X hx hZ hown (host := "") (Or.inl (hw _ w)) Via.refl rfl (hR.objs.2.2.2.2.1 j _ hk hq).1 (g := mkF m pc L (.ref a :: S)) rfl rfl (hb hby d.1)
  obtain ⟨T', locs', k', n', r, G', g1, g2, g3, g4, g5, g6, g7, g8⟩ := h hw p e s m args below meth c T1 locs L hx hby hml hret hnm hown hZ hf hsz X1 (by rw [e1]; exact hR) hF
  exact ⟨T', locs', k', n', r, G', g1, g2, g3, g4, g5, g6, g7, fun fs hr => st1 _ (g8 fs hr)⟩
theorem lw_of {Z : State} {a0 : Array Value} {meth : Method} (hw : ∀ d ∈ tables_1, d.before a0 Z = true) {C O n d own : String} (h : Jvm.Cond.lays C O n d ∈ tables_1 ∨ Jvm.Cond.laysFinal C O n d ∈ tables_1) (hc : Jvm.Cond.lays C O n d ∈ tables_1 ∨ (own = O ∧ meth.name = "<init>")) : (Jvm.Cond.lays C O n d).before a0 Z = true ∨ ((Jvm.Cond.laysFinal C O n d).before a0 Z = true ∧ own = O ∧ meth.name = "<init>") := by
  rcases hc with hc | hc
  · exact Or.inl (hw _ hc)
  · exact h.imp (hw _) (fun u => ⟨hw _ u, hc⟩)
/-- a field that may be written here: not final, or in a constructor of its class -/
def Mine (M : Bdy) (nm ds : String) : Prop := Jvm.Cond.lays K.1 K.1 nm ds ∈ tables_1 ∨ (M.1.cls = K.1 ∧ M.1.name = "<init>")
theorem Runs.putI {x : Int32} (d : DAt M pc (.putfield idx) 3 q) (w : Jvm.Cond.fieldLink M.1.cls idx K.1 nm "I" ∈ tables_1) (hk : K.2.1[j]? = some (nm, "I")) (hm : Mine M nm "I") (h : Runs C M k n q P S (top, (a, qq, sI ob j x) :: H) Q) : Runs C M k n pc P (.int x :: .ref a :: S) (top, (a, qq, ob) :: H) Q := by
  intro hw p e s m args below meth c T locs L hx hby hml hret hnm hown hZ hf hsz X hR hF
  have hqq := d.2
  subst hqq
  obtain ⟨T1, h1, X1, e1, W1, st1⟩ := putF X hx hZ hown (host := "") (Or.inl (hw _ w)) Via.refl rfl (hR.objs.2.2.2.1 j _ hk) hR.objs.2.2.1 (lw_of hw ((All.mem kS (List.mem_of_getElem? hk)).1) (hm.imp id (fun u => ⟨u.1, hnm.trans u.2⟩))) (hw _ kI) (ty := .int) (by decide) rfl rfl (g := mkF m pc L (.int x :: .ref a :: S)) rfl rfl (hb hby d.1)
  obtain ⟨T', locs', k', n', r, G', g1, g2, g3, g4, g5, g6, g7, g8⟩ := h hw p e s m args below meth c T1 _ L hx hby hml hret hnm hown hZ hf hsz X1 (by rw [e1]; exact hR.putI hw hk W1) (Fr.snoc X1 hF hR.objs.1)
  exact ⟨T', locs', k', n', r, G', g1, g2, g3, g4, g5, g6, g7, fun fs hr => st1 _ (g8 fs hr)⟩
theorem Runs.putZ {x y : Int32} (d : DAt M pc (.putfield idx) 3 q) (w : Jvm.Cond.fieldLink M.1.cls idx K.1 nm "Z" ∈ tables_1) (hk : K.2.1[j]? = some (nm, "Z")) (hm : Mine M nm "Z") (hy : nar .boolean x = y) (h : Runs C M k n q P S (top, (a, qq, sI ob j y) :: H) Q) : Runs C M k n pc P (.int x :: .ref a :: S) (top, (a, qq, ob) :: H) Q := by
  subst hy
  intro hw p e s m args below meth c T locs L hx hby hml hret hnm hown hZ hf hsz X hR hF
  have hqq := d.2
  subst hqq
  obtain ⟨T1, h1, X1, e1, W1, st1⟩ := putFN X hx hZ hown (hw _ w) Via.refl rfl (hR.objs.2.2.2.1 j _ hk) hR.objs.2.2.1 (lw_of hw ((All.mem kS (List.mem_of_getElem? hk)).1) (hm.imp id (fun u => ⟨u.1, hnm.trans u.2⟩))) (hw _ kI) (ty := .boolean) (v' := .int (nar .boolean x)) (by decide) rfl (fits_nar_bool _) (g := mkF m pc L (.int x :: .ref a :: S)) rfl rfl (hb hby d.1)
  obtain ⟨T', locs', k', n', r, G', g1, g2, g3, g4, g5, g6, g7, g8⟩ := h hw p e s m args below meth c T1 _ L hx hby hml hret hnm hown hZ hf hsz X1 (by rw [e1]; exact hR.putI hw hk W1) (Fr.snoc X1 hF hR.objs.1)
  exact ⟨T', locs', k', n', r, G', g1, g2, g3, g4, g5, g6, g7, fun fs hr => st1 _ (g8 fs hr)⟩
theorem Runs.ialoadA {i len : Int32} (d : DAt M pc .iaload 1 q) (hk : K.2.2[j]? = some (nm, .int, len)) (hq : j < qq) (hi : ¬ i < 0 ∧ i < len) (h : Runs C M k n q P (.int (gA ob j i) :: S) (top, (a, qq, ob) :: H) Q) : Runs C M k n pc P (.int i :: .ref (a + 1 + j) :: S) (top, (a, qq, ob) :: H) Q := by
  have hqq := d.2
  subst hqq
  refine Runs.pure d (fun p e s m args below meth c T locs L hw hx hown hZ hd hP hsz hR X => ⟨L, hP, hsz, fun t r => ?_⟩) h
  obtain ⟨cl, A, Sz, V⟩ := (hR.objs.2.2.2.2.1 j _ hk hq).2
  exact X.iaload hx (j := i) (v := .int (gA ob j i)) A.1 (State.isArrayOf_alike hZ.alike A.2.1) A.2.2 (inb_of Sz hi) (V i hi.1 hi.2) (g := mkF m pc L (.int i :: .ref (a + 1 + j) :: S)) rfl rfl hd _ r
theorem Runs.baloadA {i len : Int32} (d : DAt M pc .baload 1 q) (hk : K.2.2[j]? = some (nm, .boolean, len)) (hq : j < qq) (hi : ¬ i < 0 ∧ i < len) (h : Runs C M k n q P (.int (gA ob j i) :: S) (top, (a, qq, ob) :: H) Q) : Runs C M k n pc P (.int i :: .ref (a + 1 + j) :: S) (top, (a, qq, ob) :: H) Q := by
  have hqq := d.2
  subst hqq
  refine Runs.pure d (fun p e s m args below meth c T locs L hw hx hown hZ hd hP hsz hR X => ⟨L, hP, hsz, fun t r => ?_⟩) h
  obtain ⟨cl, A, Sz, V⟩ := (hR.objs.2.2.2.2.1 j _ hk hq).2
  exact X.baloadBooleans hx (j := i) (v := .int (gA ob j i)) A.1 (State.isArrayOf_alike hZ.alike A.2.1) A.2.2 (inb_of Sz hi) (V i hi.1 hi.2) (g := mkF m pc L (.int i :: .ref (a + 1 + j) :: S)) rfl rfl hd _ r
theorem Runs.laloadA {i len : Int32} (d : DAt M pc .laload 1 q) (hk : K.2.2[j]? = some (nm, .long, len)) (hq : j < qq) (hi : ¬ i < 0 ∧ i < len) (h : Runs C M k n q P (.long (gJ ob j i) :: S) (top, (a, qq, ob) :: H) Q) : Runs C M k n pc P (.int i :: .ref (a + 1 + j) :: S) (top, (a, qq, ob) :: H) Q := by
  have hqq := d.2
  subst hqq
  refine Runs.pure d (fun p e s m args below meth c T locs L hw hx hown hZ hd hP hsz hR X => ⟨L, hP, hsz, fun t r => ?_⟩) h
  obtain ⟨cl, A, Sz, V⟩ := (hR.objs.2.2.2.2.1 j _ hk hq).2
  exact X.laload hx (j := i) (v := .long (gJ ob j i)) A.1 (State.isArrayOf_alike hZ.alike A.2.1) A.2.2 (inb_of Sz hi) (V i hi.1 hi.2) (g := mkF m pc L (.int i :: .ref (a + 1 + j) :: S)) rfl rfl hd _ r
theorem Runs.iastoreA {i x len : Int32} (d : DAt M pc .iastore 1 q) (hk : K.2.2[j]? = some (nm, .int, len)) (hq : j < qq) (hi : ¬ i < 0 ∧ i < len) (h : Runs C M k n q P S (top, (a, qq, sA ob j i x) :: H) Q) : Runs C M k n pc P (.int x :: .int i :: .ref (a + 1 + j) :: S) (top, (a, qq, ob) :: H) Q := by
  intro hw p e s m args below meth c T locs L hx hby hml hret hnm hown hZ hf hsz X hR hF
  have hqq := d.2
  subst hqq
  obtain ⟨cl, A, Sz, V⟩ := (hR.objs.2.2.2.2.1 j _ hk hq).2
  obtain ⟨T1, h1, X1, e1, W1, st1⟩ := stI X hx hZ rfl A (j := i) (x := x) (inb_of Sz hi) (g := mkF m pc L (.int x :: .int i :: .ref (a + 1 + j) :: S)) rfl rfl (hb hby d.1)
  obtain ⟨T', locs', k', n', r, G', g1, g2, g3, g4, g5, g6, g7, g8⟩ := h hw p e s m args below meth c T1 _ L hx hby hml hret hnm hown hZ hf hsz X1 (by rw [e1]; exact hR.putA hk hq (by simp) hi W1) (Fr.snoc X1 hF (by have := hR.objs.1; omega))
  exact ⟨T', locs', k', n', r, G', g1, g2, g3, g4, g5, g6, g7, fun fs hr => st1 _ (g8 fs hr)⟩
theorem Runs.bastoreA {i x len : Int32} (d : DAt M pc .bastore 1 q) (hk : K.2.2[j]? = some (nm, .boolean, len)) (hq : j < qq) (hi : ¬ i < 0 ∧ i < len) {y : Int32} (hy : nar .boolean x = y) (h : Runs C M k n q P S (top, (a, qq, sA ob j i y) :: H) Q) : Runs C M k n pc P (.int x :: .int i :: .ref (a + 1 + j) :: S) (top, (a, qq, ob) :: H) Q := by
  subst hy
  intro hw p e s m args below meth c T locs L hx hby hml hret hnm hown hZ hf hsz X hR hF
  have hqq := d.2
  subst hqq
  obtain ⟨cl, A, Sz, V⟩ := (hR.objs.2.2.2.2.1 j _ hk hq).2
  obtain ⟨T1, h1, X1, e1, W1, st1⟩ := stZ X hx hZ rfl A (j := i) (x := x) (inb_of Sz hi) (g := mkF m pc L (.int x :: .int i :: .ref (a + 1 + j) :: S)) rfl rfl (hb hby d.1)
  obtain ⟨T', locs', k', n', r, G', g1, g2, g3, g4, g5, g6, g7, g8⟩ := h hw p e s m args below meth c T1 _ L hx hby hml hret hnm hown hZ hf hsz X1 (by rw [e1]; exact hR.putA hk hq (by simp) hi W1) (Fr.snoc X1 hF (by have := hR.objs.1; omega))
  exact ⟨T', locs', k', n', r, G', g1, g2, g3, g4, g5, g6, g7, fun fs hr => st1 _ (g8 fs hr)⟩
theorem Runs.lastoreA {i len : Int32} {x : Int64} (d : DAt M pc .lastore 1 q) (hk : K.2.2[j]? = some (nm, .long, len)) (hq : j < qq) (hi : ¬ i < 0 ∧ i < len) (h : Runs C M k n q P S (top, (a, qq, sJ ob j i x) :: H) Q) : Runs C M k n pc P (.long x :: .int i :: .ref (a + 1 + j) :: S) (top, (a, qq, ob) :: H) Q := by
  intro hw p e s m args below meth c T locs L hx hby hml hret hnm hown hZ hf hsz X hR hF
  have hqq := d.2
  subst hqq
  obtain ⟨cl, A, Sz, V⟩ := (hR.objs.2.2.2.2.1 j _ hk hq).2
  obtain ⟨T1, h1, X1, e1, W1, st1⟩ := stJ X hx hZ rfl A (j := i) (x := x) (inb_of Sz hi) (g := mkF m pc L (.long x :: .int i :: .ref (a + 1 + j) :: S)) rfl rfl (hb hby d.1)
  obtain ⟨T', locs', k', n', r, G', g1, g2, g3, g4, g5, g6, g7, g8⟩ := h hw p e s m args below meth c T1 _ L hx hby hml hret hnm hown hZ hf hsz X1 (by rw [e1]; exact hR.putJ hk hq rfl hi W1) (Fr.snoc X1 hF (by have := hR.objs.1; omega))
  exact ⟨T', locs', k', n', r, G', g1, g2, g3, g4, g5, g6, g7, fun fs hr => st1 _ (g8 fs hr)⟩
/-- the script: an array that stood before the law began -/
def ScrF (C : Ctx) (sa : Nat) (z : Int32) (f : Int32 → Int32) : Prop := ∃ cl : Cell, Scr C.2.1 C.2.1.heap sa cl z ∧ f = atv cl
theorem Runs.lenS {sa : Nat} {z : Int32} {f : Int32 → Int32} (hs : ScrF C sa z f) (d : DAt M pc .arraylength 1 q) (h : Runs C M k n q P (.int z :: S) G Q) : Runs C M k n pc P (.ref sa :: S) G Q := by
  have hqq := d.2
  subst hqq
  refine Runs.pure d (fun p e s m args below meth c T locs L hw hx hown hZ hd hP hsz hR X => ⟨L, hP, hsz, fun t r => ?_⟩) h
  obtain ⟨cl, F, -⟩ := hs
  obtain ⟨A, Sz, N, V⟩ := F.ext hR.2.1.2
  exact X.arraylength hx A.1 (State.isArrayOf_alike hZ.alike A.2.1) (g := mkF m pc L (.ref sa :: S)) rfl rfl hd _ (by rw [len_of Sz N]; exact r)
theorem Runs.ialoadS {sa : Nat} {z i : Int32} {f : Int32 → Int32} (hs : ScrF C sa z f) (d : DAt M pc .iaload 1 q) (hi : ¬ i < 0 ∧ i < z) (h : Runs C M k n q P (.int (f i) :: S) G Q) : Runs C M k n pc P (.int i :: .ref sa :: S) G Q := by
  have hqq := d.2
  subst hqq
  refine Runs.pure d (fun p e s m args below meth c T locs L hw hx hown hZ hd hP hsz hR X => ⟨L, hP, hsz, fun t r => ?_⟩) h
  obtain ⟨cl, F, rfl⟩ := hs
  obtain ⟨A, Sz, N, V⟩ := F.ext hR.2.1.2
  exact X.iaload hx (j := i) (v := .int (atv cl i)) A.1 (State.isArrayOf_alike hZ.alike A.2.1) A.2.2 (inb_of Sz hi) (V i (inb_of Sz hi)) (g := mkF m pc L (.int i :: .ref sa :: S)) rfl rfl hd _ r
/- leaving -/
theorem Runs.retI {v : Int32} (d : DAt M pc .ireturn 1 q) (hret : M.2.2.2.1 = some .int) (hk : k ≤ M.2.2.2.2.cells ∧ n ≤ M.2.2.2.2.slots) (hQ : Q (some (.int v)) G) : Runs C M k n pc P (.int v :: S) G Q := by
  intro hw p e s m args below meth c T locs L hx hby hml hr0 hnm hown hZ hf hsz X hR hF
  exact ⟨T, locs, k, n, _, G, X, hk.1, hk.2, hR, hF, hQ, (fun u => by rw [hret] at u; cases u), fun fs hr => Jvm.RoadKit.retI X hx (hr0.trans hret) (hb hby d.1) hr⟩
theorem Runs.retZ {v : Int32} (d : DAt M pc .ireturn 1 q) (hret : M.2.2.2.1 = some .boolean) (hk : k ≤ M.2.2.2.2.cells ∧ n ≤ M.2.2.2.2.slots) {y : Int32} (hy : nar .boolean v = y) (hQ : Q (some (.int y)) G) : Runs C M k n pc P (.int v :: S) G Q := by
  subst hy
  intro hw p e s m args below meth c T locs L hx hby hml hr0 hnm hown hZ hf hsz X hR hF
  exact ⟨T, locs, k, n, _, G, X, hk.1, hk.2, hR, hF, hQ, (fun u => by rw [hret] at u; cases u), fun fs hr => retN X hx (t := .boolean) (hr0.trans hret) (by simp) (hb hby d.1) hr⟩
theorem Runs.retJ {v : Int64} (d : DAt M pc .lreturn 1 q) (hret : M.2.2.2.1 = some .long) (hk : k ≤ M.2.2.2.2.cells ∧ n ≤ M.2.2.2.2.slots) (hQ : Q (some (.long v)) G) : Runs C M k n pc P (.long v :: []) G Q := by
  intro hw p e s m args below meth c T locs L hx hby hml hr0 hnm hown hZ hf hsz X hR hF
  exact ⟨T, locs, k, n, _, G, X, hk.1, hk.2, hR, hF, hQ, (fun u => by rw [hret] at u; cases u), fun fs hr => X.lreturnOut hx (hr0.trans hret) (hb hby d.1) hr⟩
theorem Runs.retV (d : DAt M pc .return_ 1 q) (hret : M.2.2.2.1 = none) (hk : k ≤ M.2.2.2.2.cells ∧ n ≤ M.2.2.2.2.slots) (hQ : Q none G) : Runs C M k n pc P [] G Q := by
  intro hw p e s m args below meth c T locs L hx hby hml hr0 hnm hown hZ hf hsz X hR hF
  exact ⟨T, locs, k, n, _, G, X, hk.1, hk.2, hR, hF, hQ, (fun _ => rfl), fun fs hr => X.returnOut hx (hr0.trans hret) (hb hby d.1) hr⟩
/- a new object, and the arrays that its constructor makes -/
theorem Runs.newK (d : DAt M pc (.new idx) 3 q) (w : Jvm.Cond.classLink M.1.cls idx K.1 ∈ tables_1) (hc : k + 1 ≤ M.2.2.2.2.cells ∧ n + kN ≤ M.2.2.2.2.slots) {k' n' : Nat} (hk' : k + 1 = k') (hn' : n + kN = n') {H : List (Nat × Nat × Rec)} (hd : ∀ x ∈ H, x.1 + x.2.1 < top) (h : Runs C M k' n' q P (.ref top :: S) (top + 1, (top, 0, zrec) :: H) Q) : Runs C M k n pc P S (top, H) Q := by
  subst hk' hn'
  intro hw p e s m args below meth c T locs L hx hby hml hr0 hnm hown hZ hf hsz X hR hF
  have hqq := d.2
  subst hqq
  obtain ⟨T2, X2, s2, E2, A2, D2, st2⟩ := new1 X hx hZ hown (hw _ w) (hw _ kI) (hw _ kZ) (g := mkF m pc L S) rfl (hb hby d.1) hc.1 hc.2
  have hs : T.heap.size = top := hR.1
  rw [hs] at A2 D2 st2 s2
  have hR2 : Rep C.2.1 C.2.2.1 T2.heap (top + 1, (top, 0, zrec) :: H) := by
    refine ⟨s2, hR.2.1.ext E2, fun x hx' => ?_, ?_⟩
    · rcases List.mem_cons.mp hx' with rfl | hx'
      · refine ⟨?_, by simp, A2, fun k nd hk => ?_, fun k t hk hq => by simp at hq, fun k t hk hq => ?_⟩
        · have := hR.2.1.2.1; rw [hR.2.1.1] at this; simp only; omega
        · rcases (All.mem kS (List.mem_of_getElem? hk)).2 with e | e
          · have := D2 (laidS hw hk) (ty := .int) (by rw [e]; decide); exact this
          · have := D2 (laidS hw hk) (ty := .boolean) (by rw [e]; decide); exact this
        · have := D2 (laidA hw hk) (pfA hk); exact this
      · obtain ⟨p1, p2, p3⟩ := hR.2.2.1 x hx'
        exact ⟨p1, by simp only at p2 ⊢; omega, p3.ext E2⟩
    · exact List.pairwise_cons.mpr ⟨fun y hy => Or.inr (hd y hy), hR.2.2.2⟩
  obtain ⟨T', locs', k', n', r, G', g1, g2, g3, g4, g5, g6, g7, g8⟩ := h hw p e s m args below meth c T2 _ L hx hby hml hr0 hnm hown hZ hf hsz X2 hR2 hF
  exact ⟨T', locs', k', n', r, G', g1, g2, g3, g4, g5, g6, g7, fun fs hr => st2 _ (g8 fs hr)⟩
/-- newarray and the putfield behind it: the next array of an object that is being made -/
theorem Runs.newArr {aty : ArrayType} {ty : FieldType} {len : Int32} {q1 : Nat} (d : DAt M pc (.newarray aty) 2 q1) (d' : DAt M q1 (.putfield idx) 3 q) (hk : K.2.2[j]? = some (nm, ty, len)) (w : Jvm.Cond.fieldLink M.1.cls idx K.1 nm (aD ty) ∈ tables_1) (ht : newarray.typeOf aty = ty) (wa : Jvm.Cond.arrayClass ty ∈ tables_1) (hm : Mine M nm (aD ty))
    (htop : top = a + 1 + j) (hlen : ¬ len < 0 ∧ len.toNatClampNeg * 8 ≤ 536870912) (hc : k + 1 ≤ M.2.2.2.2.cells ∧ n + len.toNatClampNeg ≤ M.2.2.2.2.slots) (hz : (∀ i, ob.2.1 j i = 0) ∧ (∀ i, ob.2.2 j i = 0)) {j' top' k' n' : Nat} (hj' : j + 1 = j') (ht' : top + 1 = top') (hk' : k + 1 = k') (hn' : n + len.toNatClampNeg = n')
    (h : Runs C M k' n' q P S (top', (a, j', ob) :: H) Q) : Runs C M k n pc P (.int len :: .ref a :: S) (top, (a, j, ob) :: H) Q := by
  subst hj' ht' hk' hn'
  intro hw p e s m args below meth c T locs L hx hby hml hr0 hnm hown hZ hf hsz X hR hF
  have hqq := d.2
  have hqq' := d'.2
  subst hqq hqq' ht
  obtain ⟨T1, cA, X1, s1, E1, A1, st1⟩ := newArr1 X hx hZ (hw _ wa) (g := mkF m pc L (.int len :: .ref a :: S)) rfl (hb hby d.1) rfl hlen.1 hlen.2 hc.1 hc.2
  have hs : T.heap.size = top := hR.1
  rw [hs] at A1 st1 s1
  have O1 := hR.objs.2.2.ext E1
  obtain ⟨T2, h2, X2, e2, W2, st2⟩ := putF X1 hx hZ hown (host := "") (Or.inl (hw _ w)) Via.refl rfl (O1.2.2.2 j _ hk (Nat.le_refl _)) O1.1 (lw_of hw ((All.mem kA (List.mem_of_getElem? hk)).1) (hm.imp id (fun u => ⟨u.1, hnm.trans u.2⟩))) (hw _ kI) (ty := .array (newarray.typeOf aty)) (pfA hk) rfl rfl (g := mkF m (pc + 2) L (.ref top :: .ref a :: S)) rfl rfl (hb hby d'.1)
  have hts : (newarray.typeOf aty = .int ∨ newarray.typeOf aty = .boolean ∨ newarray.typeOf aty = .long) := (All.mem kA (List.mem_of_getElem? hk)).2.1
  have hA := arr_new A1 hts hz
  have hR2 : Rep C.2.1 C.2.2.1 T2.heap (top + 1, (a, j + 1, ob) :: H) := by rw [e2]; exact hR.addA hw E1 s1 htop hk hA W2
  obtain ⟨T', locs', k', n', r, G', g1, g2, g3, g4, g5, g6, g7, g8⟩ := h hw p e s m args below meth c T2 _ L hx hby hml hr0 hnm hown hZ hf hsz X2 hR2 (Fr.snoc X2 hF hR.objs.1)
  exact ⟨T', locs', k', n', r, G', g1, g2, g3, g4, g5, g6, g7, fun fs hr => st1 _ (st2 _ (g8 fs hr))⟩
theorem Runs.initO {W : Nat} (d : DAt M pc (.invokespecial idx) 3 q) (w1 : Jvm.Cond.methodLink M.1.cls idx Lib.objectInit ∈ tables_1) (w2 : Jvm.Cond.instanceMethod Lib.objectInit ∈ tables_1) (w3 : Jvm.Cond.code Lib.objectInit ⟨#[0xb1]⟩ 1 none ∈ tables_1) (hW : (S.map fun v => v.category).sum = W) (hc : 1 ≤ M.2.2.2.2.frames ∧ W + 12 ≤ M.2.2.2.2.locals) (h : Runs C M k n q P S G Q) : Runs C M k n pc P (.ref a :: S) G Q := by
  intro hw p e s m args below meth c T locs L hx hby hml hr0 hnm hown hZ hf hsz X hR hF
  have hqq := d.2
  subst hqq
  obtain ⟨T1, X1, e1, st1⟩ := Jvm.RoadKit.initO X hx hZ hown (hw _ w1) (hw _ w2) (hw _ w3) rfl (g := mkF m pc L (.ref a :: S)) rfl (by rw [hml]; exact hsz) rfl (hb hby d.1) hc.1 (W := W) (by show 2 * 0 + _ ≤ _; omega) hc.2
  obtain ⟨T', locs', k', n', r, G', g1, g2, g3, g4, g5, g6, g7, g8⟩ := h hw p e s m args below meth c T1 _ L hx hby hml hr0 hnm hown hZ hf hsz X1 (by rw [e1]; exact hR) hF
  exact ⟨T', locs', k', n', r, G', g1, g2, g3, g4, g5, g6, g7, fun fs hr => st1 _ (g8 fs hr)⟩
end Heap
/- a body's contract, and the calls that are paid by one -/
def Pays (C : Ctx) (N : Bdy) (as : List Value) (G : AH) (Q : Option Value → AH → Prop) : Prop :=
  Ok C → ∀ h0 : Heap, Rep C.2.1 C.2.2.1 h0 G → ∀ ws : List Jvm.Cond, MetFree C.1 N.1 (head1 (Jvm.Cond.code N.1 N.2.1 N.2.2.1 N.2.2.2.1 :: ws) N.2.2.2.2) (fun a U => a = as.toArray ∧ C.2.1.Warmed39 U.vm ∧ U.heap = h0) (fun _ _ _ _ _ => True)
    (fun _ U o U' => ∃ v L, o = .returned v ∧ (Fr C.2.2.1 L ∧ ∃ G', Rep C.2.1 C.2.2.1 U'.heap G' ∧ Q v G') ∧ FrameEnd U o U' L N.2.2.2.2.cells N.2.2.2.2.slots)
def lay : List Value → List Slot
  | [] => []
  | v :: l => if v.category = 2 then .val v :: .second :: lay l else .val v :: lay l
theorem lay_foldl (l : List Value) : ∀ acc : Array Slot, (l.foldl (fun acc v => if v.category = 2 then (acc.push (.val v)).push .second else acc.push (.val v)) acc).toList = acc.toList ++ lay l := by
  induction l with
  | nil => intro acc; simp [lay]
  | cons v l ih =>
    intro acc
    rw [List.foldl_cons, ih]
    by_cases h : v.category = 2 <;> simp [lay, h]
theorem args_lay (as : List Value) (ml : Nat) : argsToLocals as.toArray ml = (lay as ++ List.replicate (ml - (lay as).length) Slot.unset).toArray := by
  have h := lay_foldl as #[]
  apply Array.ext'
  simp only [argsToLocals, Array.toList_append, List.toList_toArray] at *
  rw [show (as.toArray.foldl (init := #[]) fun acc v => if v.category = 2 then (acc.push (Slot.val v)).push .second else acc.push (.val v)).toList = lay as by simpa using h]
  congr 1
  rw [← Array.length_toList, show (as.toArray.foldl (init := #[]) fun acc v => if v.category = 2 then (acc.push (Slot.val v)).push .second else acc.push (.val v)).toList = lay as by simpa using h]
  simp
def WFL (l : List Slot) : Prop := (∀ i : Nat, l[i]? = some .second → ∃ (j : Nat) (v : Value), i = j + 1 ∧ l[j]? = some (.val v) ∧ v.category = 2) ∧ (∀ (i : Nat) (v : Value), l[i]? = some (.val v) → v.category = 2 → l[i + 1]? = some .second)
theorem WFL.unset (n : Nat) : WFL (List.replicate n Slot.unset) := by
  refine ⟨fun i h => ?_, fun i v h => ?_⟩ <;> (rw [List.getElem?_replicate] at h; split at h <;> cases h)
theorem WFL.one {l : List Slot} {v : Value} (h : WFL l) (hv : v.category ≠ 2) : WFL (.val v :: l) := by
  refine ⟨fun i hi => ?_, fun i w hi hw => ?_⟩
  · cases i with
    | zero => simp at hi
    | succ i =>
      obtain ⟨j, w, e1, e2, e3⟩ := h.1 i (by simpa using hi)
      exact ⟨j + 1, w, by omega, by simpa using e2, e3⟩
  · cases i with
    | zero => simp at hi; subst hi; exact absurd hw hv
    | succ i => have := h.2 i w (by simpa using hi) hw; simpa using this
theorem WFL.two {l : List Slot} {v : Value} (h : WFL l) (hv : v.category = 2) : WFL (.val v :: .second :: l) := by
  refine ⟨fun i hi => ?_, fun i w hi hw => ?_⟩
  · match i, hi with
    | 0, hi => simp at hi
    | 1, hi => exact ⟨0, v, rfl, by simp, hv⟩
    | i + 2, hi =>
      obtain ⟨j, w, e1, e2, e3⟩ := h.1 i (by simpa using hi)
      exact ⟨j + 2, w, by omega, by simpa using e2, e3⟩
  · match i, hi with
    | 0, hi => simp
    | 1, hi => simp at hi
    | i + 2, hi => have := h.2 i w (by simpa using hi) hw; simpa using this
theorem WFL.lay (as : List Value) (n : Nat) : WFL (lay as ++ List.replicate n Slot.unset) := by
  induction as with
  | nil => exact WFL.unset n
  | cons v l ih =>
    by_cases h : v.category = 2
    · simpa [Jvm.Pilot.@@N@@.lay, h] using ih.two h
    · simpa [Jvm.Pilot.@@N@@.lay, h] using ih.one h
def pforget : List Bool → Pat → Pat
  | [], _ => []
  | _, [] => []
  | true :: ms, x :: l => x :: pforget ms l
  | false :: ms, _ :: l => none :: pforget ms l
theorem pforget_get : ∀ (ms : List Bool) (P : Pat) (i : Nat) (s : Slot), pget (pforget ms P) i = some s → pget P i = some s
  | [], _, i, s, h => by simp [pforget, pget] at h
  | _ :: _, [], i, s, h => by simp [pforget, pget] at h
  | true :: ms, x :: l, 0, s, h => h
  | true :: ms, x :: l, i + 1, s, h => pforget_get ms l i s h
  | false :: ms, x :: l, 0, s, h => by simp [pforget, pget] at h
  | false :: ms, x :: l, i + 1, s, h => pforget_get ms l i s h
section Calls
variable {C : Ctx} {M N : Bdy} {k n pc q : Nat} {P P' : Pat} {S S' : List Value} {G G1 : AH} {Q : Option Value → AH → Prop} {top : Nat} {a : Nat} {qq j idx W : Nat} {ob : Rec} {H : List (Nat × Nat × Rec)} {as : List Value}
theorem Runs.forget (ms : List Bool) (hP : pforget ms P = P') (h : Runs C M k n pc P' S G Q) : Runs C M k n pc P S G Q := by
  intro hw p e s m args below meth c T locs L hx hby hml hret hnm hown hZ hf
  subst hP
  exact h hw p e s m args below meth c T locs L hx hby hml hret hnm hown hZ ⟨fun i s hi => hf.1 i s (pforget_get _ _ i s hi), hf.2⟩
theorem Pays.of (hpl : plainName N.1.cls = true) (hml : (lay as).length ≤ N.2.2.1) (x : Nat) (hP : (lay as).map some ++ List.replicate x none = P) (h : Runs C N 0 0 0 P [] G Q) : Pays C N as G Q := by
  intro hw h0 hR ws
  refine MetFree.of_bodySF (plainFor_of_name hpl) hisR ?_
  intro p e s m args below meth c s₁ Bd hml0 hp hK
  obtain ⟨rfl, hZ, hh⟩ := hp
  have X0 : Stand p C.1 e N.2.2.2.2 s m as.toArray below meth c s₁ [] 0 0 := Stand.of_body Bd
  have e0 : s₁.heap = h0 := by rw [← hh, Bd.state]; rfl
  obtain ⟨L, hL⟩ : ∃ L : Array Slot, L = (lay as ++ List.replicate (N.2.2.1 - (lay as).length) Slot.unset).toArray := ⟨_, rfl⟩
  have hfit : Fits P L := by
    subst hP hL
    refine ⟨fun i s hi => ?_, ?_⟩
    · rw [pget_eq] at hi
      cases hq : (lay as)[i]? with
      | none =>
        rw [List.getElem?_append_right (by simpa using hq), List.getElem?_replicate] at hi
        split at hi <;> simp at hi
      | some y =>
        have hlt := (List.getElem?_eq_some_iff.mp hq).1
        rw [List.getElem?_append_left (by simpa using hlt), List.getElem?_map, hq] at hi
        have this : y = s := by simpa using hi
        simp only [List.getElem?_toArray]
        rw [List.getElem?_append_left hlt, hq, this]
    · have := WFL.lay as (N.2.2.1 - (lay as).length)
      refine ⟨fun i hi => ?_, fun i v hi hv => ?_⟩
      · rw [List.getElem?_toArray] at hi
        obtain ⟨j, v, e1, e2, e3⟩ := this.1 i hi
        exact ⟨j, v, e1, by rw [List.getElem?_toArray]; exact e2, e3⟩
      · rw [List.getElem?_toArray] at hi ⊢
        exact this.2 i v hi hv
  obtain ⟨T', locs', k', n', r, G', g1, g2, g3, g4, g5, g6, g7, g8⟩ := h hw p e s m as.toArray below meth c s₁ [] L Bd.exec Bd.bytes hml0 Bd.returns (name_of_methodNamed Bd.named Bd.method).1 (findClass_of_methodNamed Bd.named) hZ hfit (by rw [hL]; simp; omega) X0 (by rw [e0]; exact hR) (Fr.nil _)
  obtain ⟨fs, hr, hrun, hended, hW, hsame⟩ := g1.leave (v := r) (fun u => g7 (by rw [← Bd.returns]; exact u))
  refine ⟨_, _, ?_, hrun, hended, _, _, rfl, ⟨g5, G', ?_, g6⟩, ⟨_, rfl⟩, hW, hsame.mono g2 g3⟩
  · have ef : entryFrame m as.toArray N.2.2.1 = mkF m 0 L [] := by
      rw [hL, ← args_lay]; rfl
    rw [ef]; exact g8 fs hr
  · exact g4
abbrev room_al (M N : Bdy) (W k n : Nat) : Prop := N.2.2.2.2.frames + 1 ≤ M.2.2.2.2.frames ∧ W + (N.2.2.1 + 11) + N.2.2.2.2.locals ≤ M.2.2.2.2.locals ∧ k + N.2.2.2.2.cells ≤ M.2.2.2.2.cells ∧ n + N.2.2.2.2.slots ≤ M.2.2.2.2.slots
abbrev room_ok (M N : Bdy) (W : Nat) : Prop := N.2.2.2.2.frames + 1 ≤ M.2.2.2.2.frames ∧ W + (N.2.2.1 + 11) + N.2.2.2.2.locals ≤ M.2.2.2.2.locals ∧ N.2.2.2.2.cells = 0 ∧ N.2.2.2.2.slots = 0
abbrev full_ok (M : Bdy) (k n : Nat) : Prop := k ≤ M.2.2.2.2.cells ∧ n ≤ M.2.2.2.2.slots
theorem room_ok.al (h : room_ok M N W) (f : full_ok M k n) : room_al M N W k n := ⟨h.1, h.2.1, by rw [h.2.2.1]; exact f.1, by rw [h.2.2.2]; exact f.2⟩
abbrev code_w (N : Bdy) : Prop := Jvm.Cond.code N.1 N.2.1 N.2.2.1 N.2.2.2.1 ∈ tables_1 ∧ Jvm.Cond.initialized N.1.cls ∈ tables_1 ∧ (N.1.cls ≠ "java/lang/invoke/MethodHandle" ∧ N.1.cls ≠ "java/lang/invoke/VarHandle")
def arity (N : Bdy) (na : Nat) : Prop := ∃ ps r, parseMethodDescriptor N.1.desc = some ⟨ps, r⟩ ∧ na = ps.length
theorem arity.len {na : Nat} (h : arity N na) (e : as.length = na) : ∀ sig, parseMethodDescriptor N.1.desc = some sig → as.length = sig.parameters.length := by
  obtain ⟨ps, r, h1, h2⟩ := h
  exact lenOf h1 (e.trans h2)
theorem after_call {v : Option Value} {p : Program} {e : Env} {s : State} {m : MethodId} {args : Array Value} {below : List Frame} {meth : Method} {c : Code} {T T0 : State} {locs : List Loc} {L : Array Slot} {QN : Option Value → AH → Prop} {Lc : List Loc}
    (hw : Ok C) (hx : p.tables.exec = Jvm.exec) (hby : c.code = M.2.1) (hml : c.maxLocals = M.2.2.1) (hret : meth.sig.returnType = M.2.2.2.1) (hnm : meth.name = M.1.name) (hown : s.vm.findClass M.1.cls = some m.cls) (hZ : C.2.1.Warmed39 s.vm) (hf : Fits P L) (hsz : L.size = M.2.2.1) (hF : Fr C.2.2.1 locs)
    (X : Stand p C.1 e M.2.2.2.2 s m args below meth c T (locs ++ Lc) (k + N.2.2.2.2.cells) (n + N.2.2.2.2.slots)) (hQ : Fr C.2.2.1 Lc ∧ ∃ G', Rep C.2.1 C.2.2.1 T.heap G' ∧ QN v G')
    (h : ∀ v G', QN v G' → Runs C M (k + N.2.2.2.2.cells) (n + N.2.2.2.2.slots) (pc + 3) P (v.toList ++ S') G' Q)
    (st : ∀ t, Steps p.tables e below (T.setTop (mkF m (pc + 3) L (v.toList ++ S'))) t → Steps p.tables e below (T0.setTop (mkF m pc L S)) t) :
    ∃ (T' : State) (locs' : List Loc) (k' n' : Nat) (r : Option Value) (G' : AH), Stand p C.1 e M.2.2.2.2 s m args below meth c T' locs' k' n' ∧ k' ≤ M.2.2.2.2.cells ∧ n' ≤ M.2.2.2.2.slots ∧ Rep C.2.1 C.2.2.1 T'.heap G' ∧ Fr C.2.2.1 locs' ∧ Q r G' ∧
      (M.2.2.2.1 = none → r = none) ∧
      ∀ fs : List Frame, (∀ (f : JFrame) (acts : List Action), f.method = m → f.locked = none → f.entered = [] → (doReturn e (T'.setTop f) acts r).1 = T'.setFrames fs) → Steps p.tables e below (T0.setTop (mkF m pc L S)) (T'.setFrames fs) := by
  obtain ⟨f1, G', f2, f3⟩ := hQ
  obtain ⟨T', locs', k', n', r, G'', g1, g2, g3, g4, g5, g6, g7, g8⟩ := h v G' f3 hw p e s m args below meth c T _ L hx hby hml hret hnm hown hZ hf hsz X f2 (Fr.app hF f1)
  exact ⟨T', locs', k', n', r, G'', g1, g2, g3, g4, g5, g6, g7, fun fs hr => st _ (g8 fs hr)⟩
theorem Runs.callS {QN : Option Value → AH → Prop} (d : DAt M pc (.invokestatic idx) 3 q) (wl : Jvm.Cond.methodLink M.1.cls idx N.1 ∈ tables_1) (wt : Jvm.Cond.static N.1 ∈ tables_1) (wc : code_w N) (ar : arity N as.length) (hr0 : room_ok M N W) (hfull : full_ok M k n) (hS : S = as.reverse ++ S') (hW : (S'.map fun v => v.category).sum = W)
    (hN : Pays C N as G QN) (h : ∀ v G', QN v G' → Runs C M k n q P (v.toList ++ S') G' Q) : Runs C M k n pc P S G Q := by
  intro hw p e s m args below meth c T locs L hx hby hml hret hnm hown hZ hf hsz X hR hF
  have hq := d.2
  subst hq hS
  have hr := hr0.al hfull
  obtain ⟨_, _, ⟨T1, L1, k1, n1⟩, -, X1, ⟨Lc, hQ, l1, y1, z1⟩, st⟩ := Jvm.LawKit.callS X hx (y := N.1) hown (mvT hZ (hw _ wl)) (mvT hZ (hw _ wt)) (mvT hZ (hw _ wc.2.1)) (mvT hZ (hw _ wc.1)) wc.2.2 (backOf (W := W) (Q := fun v h L => Fr C.2.2.1 L ∧ ∃ G', Rep C.2.1 C.2.2.1 h G' ∧ QN v G') (hN hw T.heap hR []) hZ (hw _ wc.1) (hw _ wc.2.1) hr.1 hr.2.1) (g := mkF m pc L (as.reverse ++ S')) rfl (by rw [hml]; exact hsz) (argsL := as) (rest := S') (ar.len rfl) rfl (by show 2 * 0 + _ ≤ _; omega) (hb hby d.1) (fun _ _ => ⟨rfl, rfl, hr.2.2.1, hr.2.2.2⟩)
  dsimp only [Pt.U, Pt.locs, Pt.cells, Pt.slots] at X1 l1 y1 z1 st hQ
  subst l1 y1 z1
  exact after_call hw hx hby hml hret hnm hown hZ hf hsz hF X1 hQ (by rw [hr0.2.2.1, hr0.2.2.2]; exact h) (fun t u => st t u)
theorem Runs.callV {QN : Option Value → AH → Prop} (d : DAt M pc (.invokevirtual idx) 3 q) (wl : Jvm.Cond.methodLink M.1.cls idx N.1 ∈ tables_1) (wd : Jvm.Cond.declares N.1 ∈ tables_1) (wi : Jvm.Cond.instanceMethod N.1 ∈ tables_1) (ws : Jvm.Cond.selects K.1 N.1 N.1 ∈ tables_1) (wc : code_w N) (ar : arity N as.length) (hr0 : room_ok M N W) (hfull : full_ok M k n) (hS : S = as.reverse ++ .ref a :: S') (hW : (S'.map fun v => v.category).sum = W)
    (hN : Pays C N (.ref a :: as) (top, (a, qq, ob) :: H) QN) (h : ∀ v G', QN v G' → Runs C M k n q P (v.toList ++ S') G' Q) : Runs C M k n pc P S (top, (a, qq, ob) :: H) Q := by
  intro hw p e s m args below meth c T locs L hx hby hml hret hnm hown hZ hf hsz X hR hF
  have hq := d.2
  subst hq hS
  have hr := hr0.al hfull
  obtain ⟨cB, kB, u1, -, u3⟩ := isOf hZ rfl hR.objs.2.2.1
  obtain ⟨_, _, ⟨T1, L1, k1, n1⟩, -, X1, ⟨Lc, hQ, l1, y1, z1⟩, st⟩ := X.virtualBack hx (y := N.1) (z := N.1) hown (mvT hZ (hw _ wl)) (mvT hZ (hw _ wd)) (notFace_of_selects (args := #[]) (mvT hZ (hw _ ws))) (mvT hZ (hw _ ws)) (mvT hZ (hw _ wi)) wc.2.2 (backOf (W := W) (Q := fun v h L => Fr C.2.2.1 L ∧ ∃ G', Rep C.2.1 C.2.2.1 h G' ∧ QN v G') (hN hw T.heap hR []) hZ (hw _ wc.1) (hw _ wc.2.1) hr.1 hr.2.1) u1 u3 (g := mkF m pc L (as.reverse ++ .ref a :: S')) rfl (by rw [hml]; exact hsz) (Steps.refl _) (argsL := as) (rest := S') (ar.len rfl) rfl (by show 2 * 0 + _ ≤ _; omega) (hb hby d.1) (fun _ _ => ⟨rfl, rfl, hr.2.2.1, hr.2.2.2⟩)
  dsimp only [Pt.U, Pt.locs, Pt.cells, Pt.slots] at X1 l1 y1 z1 st hQ
  subst l1 y1 z1
  exact after_call hw hx hby hml hret hnm hown hZ hf hsz hF X1 hQ (by rw [hr0.2.2.1, hr0.2.2.2]; exact h) (fun t u => st.trans u)
theorem Runs.callP {QN : Option Value → AH → Prop} (d : DAt M pc (.invokevirtual idx) 3 q) (wl : Jvm.Cond.methodLink M.1.cls idx N.1 ∈ tables_1) (wi : Jvm.Cond.instanceMethod N.1 ∈ tables_1) (wp : Jvm.Cond.privateMethod N.1 ∈ tables_1) (wK : N.1.cls = K.1) (wc : code_w N) (ar : arity N as.length) (hr0 : room_ok M N W) (hfull : full_ok M k n) (hS : S = as.reverse ++ .ref a :: S') (hW : (S'.map fun v => v.category).sum = W)
    (hN : Pays C N (.ref a :: as) (top, (a, qq, ob) :: H) QN) (h : ∀ v G', QN v G' → Runs C M k n q P (v.toList ++ S') G' Q) : Runs C M k n pc P S (top, (a, qq, ob) :: H) Q := by
  intro hw p e s m args below meth c T locs L hx hby hml hret hnm hown hZ hf hsz X hR hF
  have hq := d.2
  subst hq hS
  have hr := hr0.al hfull
  obtain ⟨cl, u1, u2⟩ := hR.objs.2.2.1.cell
  have hpr : s.PrivateAt N.1 := Cond.privateMethod_at (mvP hZ (hw _ wp) (args := #[]))
  obtain ⟨c2, k2, i1, i2, i3, i4, -⟩ := Cond.instantiable_spec (mvT (args := args) hZ (hw _ kI))
  have hsel : (Jvm.Cond.selects N.1.cls N.1 N.1).before args s = true := Stand.selects_self_of_private (by rw [wK]; exact i1) i2 (by simp at i4; exact i4.1) hpr (mvT hZ (hw _ wi)) wc.2.2
  obtain ⟨_, _, ⟨T1, L1, k1, n1⟩, -, X1, ⟨Lc, hQ, l1, y1, z1⟩, st⟩ := X.privateBack hx (y := N.1) hown (mvT hZ (hw _ wl)) (mvT hZ (hw _ wi)) hsel hpr (mvT hZ (hw _ wc.1)) wc.2.2 (backOf (W := W) (Q := fun v h L => Fr C.2.2.1 L ∧ ∃ G', Rep C.2.1 C.2.2.1 h G' ∧ QN v G') (hN hw T.heap hR []) hZ (hw _ wc.1) (hw _ wc.2.1) hr.1 hr.2.1) (g := mkF m pc L (as.reverse ++ .ref a :: S')) rfl (by rw [hml]; exact hsz) (Steps.refl _) (a := a) u1 u2 (argsL := as) (rest := S') (ar.len rfl) rfl (by show 2 * 0 + _ ≤ _; omega) (hb hby d.1) (fun _ _ => ⟨rfl, rfl, hr.2.2.1, hr.2.2.2⟩)
  dsimp only [Pt.U, Pt.locs, Pt.cells, Pt.slots] at X1 l1 y1 z1 st hQ
  subst l1 y1 z1
  exact after_call hw hx hby hml hret hnm hown hZ hf hsz hF X1 hQ (by rw [hr0.2.2.1, hr0.2.2.2]; exact h) (fun t u => st.trans u)
theorem Runs.callI {QN : Option Value → AH → Prop} (d : DAt M pc (.invokespecial idx) 3 q) (hi : N.1.name = "<init>") (hn : N.2.2.2.1 = none) (wl : Jvm.Cond.methodLink M.1.cls idx N.1 ∈ tables_1) (wi : Jvm.Cond.instanceMethod N.1 ∈ tables_1) (wc : code_w N) (ar : arity N as.length) (hr : room_al M N W k n) (hS : S = as.reverse ++ .ref a :: S') (hW : (S'.map fun v => v.category).sum = W) {k' n' : Nat} (hk' : k + N.2.2.2.2.cells = k') (hn' : n + N.2.2.2.2.slots = n')
    (hN : Pays C N (.ref a :: as) G QN) (h : ∀ v G', QN v G' → Runs C M k' n' q P (v.toList ++ S') G' Q) : Runs C M k n pc P S G Q := by
  intro hw p e s m args below meth c T locs L hx hby hml hret hnm hown hZ hf hsz X hR hF
  have hq := d.2
  subst hq hS hk' hn'
  have wc1 := hw _ wc.1
  obtain ⟨_, _, ⟨T1, L1, k1, n1⟩, -, X1, ⟨Lc, hQ, l1, y1, z1⟩, st⟩ := X.specialBack hx (y := N.1) hi hown (mvT hZ (hw _ wl)) (mvT hZ (hw _ wi)) (bytes := N.2.1) (maxL := N.2.2.1) (by have := mvT (args := args) hZ wc1; rw [hn] at this; exact this) wc.2.2 (backOf (W := W) (Q := fun v h L => Fr C.2.2.1 L ∧ ∃ G', Rep C.2.1 C.2.2.1 h G' ∧ QN v G') (hN hw T.heap hR []) hZ wc1 (hw _ wc.2.1) hr.1 hr.2.1) (g := mkF m pc L (as.reverse ++ .ref a :: S')) rfl (by rw [hml]; exact hsz) (Steps.refl _) (a := a) (argsL := as) (rest := S') (ar.len rfl) rfl (by show 2 * 0 + _ ≤ _; omega) (hb hby d.1) (fun _ _ => ⟨rfl, rfl, hr.2.2.1, hr.2.2.2⟩)
  dsimp only [Pt.U, Pt.locs, Pt.cells, Pt.slots] at X1 l1 y1 z1 st hQ
  subst l1 y1 z1
  exact after_call hw hx hby hml hret hnm hown hZ hf hsz hF X1 hQ h (fun t u => st.trans u)
/-- the plain form of a contract: one answer, one heap -/
abbrev Ans (r : Option Value) (G1 : AH) : Option Value → AH → Prop := fun v G' => v = r ∧ G' = G1
theorem ans1 {x : Value} {k n : Nat} (h : Runs C M k n pc P (x :: S) G1 Q) : ∀ v G', Ans (some x) G1 v G' → Runs C M k n pc P (v.toList ++ S) G' Q := by
  rintro v G' ⟨rfl, rfl⟩; exact h
theorem ans0 {k n : Nat} (h : Runs C M k n pc P S G1 Q) : ∀ v G', Ans none G1 v G' → Runs C M k n pc P (v.toList ++ S) G' Q := by
  rintro v G' ⟨rfl, rfl⟩; exact h
end Calls
theorem pnK : plainName "SaturProver" = true := by first | (simp [plainName, overriddenIn]; done) | decide +kernel
theorem pnL : plainName "SaturProverL3" = true := by first | (simp [plainName, overriddenIn]; done) | decide +kernel
theorem w0 : (Jvm.Cond.methodLink "SaturProverL3" (7 : Nat) ({ cls := "SaturProverL3", name := "pick", desc := "(I)I" } : Jvm.MethodName)) ∈ tables_1 := mem1 0 rfl
theorem w1 : (Jvm.Cond.static ({ cls := "SaturProverL3", name := "pick", desc := "(I)I" } : Jvm.MethodName)) ∈ tables_1 := mem1 1 rfl
theorem w4 : (Jvm.Cond.methodLink "SaturProverL3" (13 : Nat) ({ cls := "SaturProverL3", name := "f", desc := "(III)I" } : Jvm.MethodName)) ∈ tables_1 := mem1 4 rfl
theorem w5 : (Jvm.Cond.static ({ cls := "SaturProverL3", name := "f", desc := "(III)I" } : Jvm.MethodName)) ∈ tables_1 := mem1 5 rfl
theorem w7 : (Jvm.Cond.classLink "SaturProverL3" (17 : Nat) "SaturProver") ∈ tables_1 := mem1 7 rfl
theorem w10 : (Jvm.Cond.methodLink "SaturProverL3" (19 : Nat) ({ cls := "SaturProver", name := "<init>", desc := "(I)V" } : Jvm.MethodName)) ∈ tables_1 := mem1 10 rfl
theorem w11 : (Jvm.Cond.instanceMethod ({ cls := "SaturProver", name := "<init>", desc := "(I)V" } : Jvm.MethodName)) ∈ tables_1 := mem1 11 rfl
theorem w13 : (Jvm.Cond.methodLink "SaturProver" (1 : Nat) ({ cls := "java/lang/Object", name := "<init>", desc := "()V" } : Jvm.MethodName)) ∈ tables_1 := mem1 13 rfl
theorem w14 : (Jvm.Cond.instanceMethod ({ cls := "java/lang/Object", name := "<init>", desc := "()V" } : Jvm.MethodName)) ∈ tables_1 := mem1 14 rfl
theorem w15 : (Jvm.Cond.code ({ cls := "java/lang/Object", name := "<init>", desc := "()V" } : Jvm.MethodName) object_method_1_code (1 : Nat) (Option.none : Option Jvm.ClassFile.FieldType)) ∈ tables_1 := mem1 15 rfl
theorem w16 : (Jvm.Cond.arrayClass Jvm.ClassFile.FieldType.int) ∈ tables_1 := mem1 16 rfl
theorem w17 : (Jvm.Cond.fieldLink "SaturProver" (7 : Nat) "SaturProver" "toks" "[I") ∈ tables_1 := mem1 17 rfl
theorem w19 : (Jvm.Cond.fieldLink "SaturProver" (13 : Nat) "SaturProver" "saved" "[I") ∈ tables_1 := mem1 19 rfl
theorem w21 : (Jvm.Cond.arrayClass Jvm.ClassFile.FieldType.long) ∈ tables_1 := mem1 21 rfl
theorem w22 : (Jvm.Cond.fieldLink "SaturProver" (16 : Nat) "SaturProver" "stk" "[J") ∈ tables_1 := mem1 22 rfl
theorem w24 : (Jvm.Cond.fieldLink "SaturProver" (20 : Nat) "SaturProver" "tabF" "[J") ∈ tables_1 := mem1 24 rfl
theorem w26 : (Jvm.Cond.fieldLink "SaturProver" (23 : Nat) "SaturProver" "tabS" "[J") ∈ tables_1 := mem1 26 rfl
theorem w28 : (Jvm.Cond.fieldLink "SaturProver" (26 : Nat) "SaturProver" "work" "[J") ∈ tables_1 := mem1 28 rfl
theorem w30 : (Jvm.Cond.fieldLink "SaturProver" (29 : Nat) "SaturProver" "cap" "I") ∈ tables_1 := mem1 30 rfl
theorem w31 : (Jvm.Cond.lays "SaturProver" "SaturProver" "cap" "I") ∈ tables_1 := mem1 31 rfl
theorem w32 : (Jvm.Cond.fieldLink "SaturProver" (33 : Nat) "SaturProver" "n" "I") ∈ tables_1 := mem1 32 rfl
theorem w33 : (Jvm.Cond.lays "SaturProver" "SaturProver" "n" "I") ∈ tables_1 := mem1 33 rfl
theorem w34 : (Jvm.Cond.fieldLink "SaturProver" (36 : Nat) "SaturProver" "dep" "I") ∈ tables_1 := mem1 34 rfl
theorem w35 : (Jvm.Cond.lays "SaturProver" "SaturProver" "dep" "I") ∈ tables_1 := mem1 35 rfl
theorem w36 : (Jvm.Cond.fieldLink "SaturProver" (39 : Nat) "SaturProver" "sn" "I") ∈ tables_1 := mem1 36 rfl
theorem w37 : (Jvm.Cond.lays "SaturProver" "SaturProver" "sn" "I") ∈ tables_1 := mem1 37 rfl
theorem w38 : (Jvm.Cond.fieldLink "SaturProver" (42 : Nat) "SaturProver" "hasSaved" "Z") ∈ tables_1 := mem1 38 rfl
theorem w39 : (Jvm.Cond.lays "SaturProver" "SaturProver" "hasSaved" "Z") ∈ tables_1 := mem1 39 rfl
theorem w40 : (Jvm.Cond.fieldLink "SaturProver" (46 : Nat) "SaturProver" "fValid" "Z") ∈ tables_1 := mem1 40 rfl
theorem w41 : (Jvm.Cond.lays "SaturProver" "SaturProver" "fValid" "Z") ∈ tables_1 := mem1 41 rfl
theorem w42 : (Jvm.Cond.methodLink "SaturProver" (49 : Nat) ({ cls := "SaturProver", name := "resetResult", desc := "()V" } : Jvm.MethodName)) ∈ tables_1 := mem1 42 rfl
theorem w43 : (Jvm.Cond.instanceMethod ({ cls := "SaturProver", name := "resetResult", desc := "()V" } : Jvm.MethodName)) ∈ tables_1 := mem1 43 rfl
theorem w44 : (Jvm.Cond.privateMethod ({ cls := "SaturProver", name := "resetResult", desc := "()V" } : Jvm.MethodName)) ∈ tables_1 := mem1 44 rfl
theorem w46 : (Jvm.Cond.fieldLink "SaturProver" (89 : Nat) "SaturProver" "res" "I") ∈ tables_1 := mem1 46 rfl
theorem w47 : (Jvm.Cond.lays "SaturProver" "SaturProver" "res" "I") ∈ tables_1 := mem1 47 rfl
theorem w48 : (Jvm.Cond.fieldLink "SaturProver" (92 : Nat) "SaturProver" "wit" "I") ∈ tables_1 := mem1 48 rfl
theorem w49 : (Jvm.Cond.lays "SaturProver" "SaturProver" "wit" "I") ∈ tables_1 := mem1 49 rfl
theorem w50 : (Jvm.Cond.methodLink "SaturProverL3" (22 : Nat) ({ cls := "SaturProver", name := "pushToken", desc := "(I)I" } : Jvm.MethodName)) ∈ tables_1 := mem1 50 rfl
theorem w51 : (Jvm.Cond.declares ({ cls := "SaturProver", name := "pushToken", desc := "(I)I" } : Jvm.MethodName)) ∈ tables_1 := mem1 51 rfl
theorem w52 : (Jvm.Cond.instanceMethod ({ cls := "SaturProver", name := "pushToken", desc := "(I)I" } : Jvm.MethodName)) ∈ tables_1 := mem1 52 rfl
theorem w53 : (Jvm.Cond.selects "SaturProver" ({ cls := "SaturProver", name := "pushToken", desc := "(I)I" } : Jvm.MethodName) ({ cls := "SaturProver", name := "pushToken", desc := "(I)I" } : Jvm.MethodName)) ∈ tables_1 := mem1 53 rfl
theorem w55 : (Jvm.Cond.methodLink "SaturProver" (52 : Nat) ({ cls := "SaturProver", name := "arity", desc := "(I)I" } : Jvm.MethodName)) ∈ tables_1 := mem1 55 rfl
theorem w56 : (Jvm.Cond.instanceMethod ({ cls := "SaturProver", name := "arity", desc := "(I)I" } : Jvm.MethodName)) ∈ tables_1 := mem1 56 rfl
theorem w57 : (Jvm.Cond.privateMethod ({ cls := "SaturProver", name := "arity", desc := "(I)I" } : Jvm.MethodName)) ∈ tables_1 := mem1 57 rfl
theorem w59 : (Jvm.Cond.methodLink "SaturProverL3" (25 : Nat) ({ cls := "SaturProver", name := "prove", desc := "()I" } : Jvm.MethodName)) ∈ tables_1 := mem1 59 rfl
theorem w60 : (Jvm.Cond.declares ({ cls := "SaturProver", name := "prove", desc := "()I" } : Jvm.MethodName)) ∈ tables_1 := mem1 60 rfl
theorem w61 : (Jvm.Cond.instanceMethod ({ cls := "SaturProver", name := "prove", desc := "()I" } : Jvm.MethodName)) ∈ tables_1 := mem1 61 rfl
theorem w62 : (Jvm.Cond.selects "SaturProver" ({ cls := "SaturProver", name := "prove", desc := "()I" } : Jvm.MethodName) ({ cls := "SaturProver", name := "prove", desc := "()I" } : Jvm.MethodName)) ∈ tables_1 := mem1 62 rfl
theorem w64 : (Jvm.Cond.methodLink "SaturProver" (56 : Nat) ({ cls := "SaturProver", name := "completeF", desc := "()Z" } : Jvm.MethodName)) ∈ tables_1 := mem1 64 rfl
theorem w65 : (Jvm.Cond.instanceMethod ({ cls := "SaturProver", name := "completeF", desc := "()Z" } : Jvm.MethodName)) ∈ tables_1 := mem1 65 rfl
theorem w66 : (Jvm.Cond.privateMethod ({ cls := "SaturProver", name := "completeF", desc := "()Z" } : Jvm.MethodName)) ∈ tables_1 := mem1 66 rfl
theorem w68 : (Jvm.Cond.methodLink "SaturProver" (63 : Nat) ({ cls := "SaturProver", name := "ensureTableF", desc := "()V" } : Jvm.MethodName)) ∈ tables_1 := mem1 68 rfl
theorem w69 : (Jvm.Cond.instanceMethod ({ cls := "SaturProver", name := "ensureTableF", desc := "()V" } : Jvm.MethodName)) ∈ tables_1 := mem1 69 rfl
theorem w70 : (Jvm.Cond.privateMethod ({ cls := "SaturProver", name := "ensureTableF", desc := "()V" } : Jvm.MethodName)) ∈ tables_1 := mem1 70 rfl
theorem w72 : (Jvm.Cond.methodLink "SaturProver" (95 : Nat) ({ cls := "SaturProver", name := "step", desc := "(II)I" } : Jvm.MethodName)) ∈ tables_1 := mem1 72 rfl
theorem w73 : (Jvm.Cond.instanceMethod ({ cls := "SaturProver", name := "step", desc := "(II)I" } : Jvm.MethodName)) ∈ tables_1 := mem1 73 rfl
theorem w74 : (Jvm.Cond.privateMethod ({ cls := "SaturProver", name := "step", desc := "(II)I" } : Jvm.MethodName)) ∈ tables_1 := mem1 74 rfl
theorem w76 : (Jvm.Cond.methodLink "SaturProver" (103 : Nat) ({ cls := "SaturProver", name := "pushLeaf", desc := "(II)V" } : Jvm.MethodName)) ∈ tables_1 := mem1 76 rfl
theorem w77 : (Jvm.Cond.instanceMethod ({ cls := "SaturProver", name := "pushLeaf", desc := "(II)V" } : Jvm.MethodName)) ∈ tables_1 := mem1 77 rfl
theorem w78 : (Jvm.Cond.privateMethod ({ cls := "SaturProver", name := "pushLeaf", desc := "(II)V" } : Jvm.MethodName)) ∈ tables_1 := mem1 78 rfl
theorem w80 : (Jvm.Cond.methodLink "SaturProver" (112 : Nat) ({ cls := "SaturProver", name := "leafWord", desc := "(II)J" } : Jvm.MethodName)) ∈ tables_1 := mem1 80 rfl
theorem w81 : (Jvm.Cond.instanceMethod ({ cls := "SaturProver", name := "leafWord", desc := "(II)J" } : Jvm.MethodName)) ∈ tables_1 := mem1 81 rfl
theorem w82 : (Jvm.Cond.privateMethod ({ cls := "SaturProver", name := "leafWord", desc := "(II)J" } : Jvm.MethodName)) ∈ tables_1 := mem1 82 rfl
theorem w84 : (Jvm.Cond.methodLink "SaturProver" (122 : Nat) ({ cls := "SaturProver", name := "varWord", desc := "(II)J" } : Jvm.MethodName)) ∈ tables_1 := mem1 84 rfl
theorem w85 : (Jvm.Cond.instanceMethod ({ cls := "SaturProver", name := "varWord", desc := "(II)J" } : Jvm.MethodName)) ∈ tables_1 := mem1 85 rfl
theorem w86 : (Jvm.Cond.privateMethod ({ cls := "SaturProver", name := "varWord", desc := "(II)J" } : Jvm.MethodName)) ∈ tables_1 := mem1 86 rfl
theorem w88 : (Jvm.Cond.constantLong "SaturProver" (125 : Nat) (-6148914691236517206 : Int64)) ∈ tables_1 := mem1 88 rfl
theorem w89 : (Jvm.Cond.constantLong "SaturProver" (131 : Nat) (-71777214294589696 : Int64)) ∈ tables_1 := mem1 89 rfl
theorem w90 : (Jvm.Cond.methodLink "SaturProver" (109 : Nat) ({ cls := "SaturProver", name := "combineSlots", desc := "(II)V" } : Jvm.MethodName)) ∈ tables_1 := mem1 90 rfl
theorem w91 : (Jvm.Cond.instanceMethod ({ cls := "SaturProver", name := "combineSlots", desc := "(II)V" } : Jvm.MethodName)) ∈ tables_1 := mem1 91 rfl
theorem w92 : (Jvm.Cond.privateMethod ({ cls := "SaturProver", name := "combineSlots", desc := "(II)V" } : Jvm.MethodName)) ∈ tables_1 := mem1 92 rfl
theorem w94 : (Jvm.Cond.methodLink "SaturProver" (118 : Nat) ({ cls := "SaturProver", name := "combine", desc := "(IJJ)J" } : Jvm.MethodName)) ∈ tables_1 := mem1 94 rfl
theorem w95 : (Jvm.Cond.instanceMethod ({ cls := "SaturProver", name := "combine", desc := "(IJJ)J" } : Jvm.MethodName)) ∈ tables_1 := mem1 95 rfl
theorem w96 : (Jvm.Cond.privateMethod ({ cls := "SaturProver", name := "combine", desc := "(IJJ)J" } : Jvm.MethodName)) ∈ tables_1 := mem1 96 rfl
theorem w98 : (Jvm.Cond.constantLong "SaturProver" (116 : Nat) (-1 : Int64)) ∈ tables_1 := mem1 98 rfl
theorem w99 : (Jvm.Cond.methodLink "SaturProver" (99 : Nat) ({ cls := "SaturProver", name := "storeTopIntoF", desc := "(I)V" } : Jvm.MethodName)) ∈ tables_1 := mem1 99 rfl
theorem w100 : (Jvm.Cond.instanceMethod ({ cls := "SaturProver", name := "storeTopIntoF", desc := "(I)V" } : Jvm.MethodName)) ∈ tables_1 := mem1 100 rfl
theorem w101 : (Jvm.Cond.privateMethod ({ cls := "SaturProver", name := "storeTopIntoF", desc := "(I)V" } : Jvm.MethodName)) ∈ tables_1 := mem1 101 rfl
theorem w103 : (Jvm.Cond.methodLink "SaturProver" (72 : Nat) ({ cls := "SaturProver", name := "loadWorkNegatedF", desc := "()V" } : Jvm.MethodName)) ∈ tables_1 := mem1 103 rfl
theorem w104 : (Jvm.Cond.instanceMethod ({ cls := "SaturProver", name := "loadWorkNegatedF", desc := "()V" } : Jvm.MethodName)) ∈ tables_1 := mem1 104 rfl
theorem w105 : (Jvm.Cond.privateMethod ({ cls := "SaturProver", name := "loadWorkNegatedF", desc := "()V" } : Jvm.MethodName)) ∈ tables_1 := mem1 105 rfl
theorem w107 : (Jvm.Cond.methodLink "SaturProver" (75 : Nat) ({ cls := "SaturProver", name := "firstSetInWork", desc := "()I" } : Jvm.MethodName)) ∈ tables_1 := mem1 107 rfl
theorem w108 : (Jvm.Cond.instanceMethod ({ cls := "SaturProver", name := "firstSetInWork", desc := "()I" } : Jvm.MethodName)) ∈ tables_1 := mem1 108 rfl
theorem w109 : (Jvm.Cond.privateMethod ({ cls := "SaturProver", name := "firstSetInWork", desc := "()I" } : Jvm.MethodName)) ∈ tables_1 := mem1 109 rfl
theorem w111 : (Jvm.Cond.methodLink "SaturProver" (137 : Nat) ({ cls := "SaturProver", name := "lowestBit", desc := "(J)I" } : Jvm.MethodName)) ∈ tables_1 := mem1 111 rfl
theorem w112 : (Jvm.Cond.instanceMethod ({ cls := "SaturProver", name := "lowestBit", desc := "(J)I" } : Jvm.MethodName)) ∈ tables_1 := mem1 112 rfl
theorem w113 : (Jvm.Cond.privateMethod ({ cls := "SaturProver", name := "lowestBit", desc := "(J)I" } : Jvm.MethodName)) ∈ tables_1 := mem1 113 rfl
theorem w115 : (Jvm.Cond.methodLink "SaturProver" (79 : Nat) ({ cls := "SaturProver", name := "setResult", desc := "(II)V" } : Jvm.MethodName)) ∈ tables_1 := mem1 115 rfl
theorem w116 : (Jvm.Cond.instanceMethod ({ cls := "SaturProver", name := "setResult", desc := "(II)V" } : Jvm.MethodName)) ∈ tables_1 := mem1 116 rfl
theorem w117 : (Jvm.Cond.privateMethod ({ cls := "SaturProver", name := "setResult", desc := "(II)V" } : Jvm.MethodName)) ∈ tables_1 := mem1 117 rfl
theorem w119 : (Jvm.Cond.methodLink "SaturProverL3" (29 : Nat) ({ cls := "SaturProver", name := "lastResult", desc := "()I" } : Jvm.MethodName)) ∈ tables_1 := mem1 119 rfl
theorem w120 : (Jvm.Cond.declares ({ cls := "SaturProver", name := "lastResult", desc := "()I" } : Jvm.MethodName)) ∈ tables_1 := mem1 120 rfl
theorem w121 : (Jvm.Cond.instanceMethod ({ cls := "SaturProver", name := "lastResult", desc := "()I" } : Jvm.MethodName)) ∈ tables_1 := mem1 121 rfl
theorem w122 : (Jvm.Cond.selects "SaturProver" ({ cls := "SaturProver", name := "lastResult", desc := "()I" } : Jvm.MethodName) ({ cls := "SaturProver", name := "lastResult", desc := "()I" } : Jvm.MethodName)) ∈ tables_1 := mem1 122 rfl
theorem w124 : (Jvm.Cond.methodLink "SaturProverL3" (32 : Nat) ({ cls := "SaturProver", name := "witness", desc := "()I" } : Jvm.MethodName)) ∈ tables_1 := mem1 124 rfl
theorem w125 : (Jvm.Cond.declares ({ cls := "SaturProver", name := "witness", desc := "()I" } : Jvm.MethodName)) ∈ tables_1 := mem1 125 rfl
theorem w126 : (Jvm.Cond.instanceMethod ({ cls := "SaturProver", name := "witness", desc := "()I" } : Jvm.MethodName)) ∈ tables_1 := mem1 126 rfl
theorem w127 : (Jvm.Cond.selects "SaturProver" ({ cls := "SaturProver", name := "witness", desc := "()I" } : Jvm.MethodName) ({ cls := "SaturProver", name := "witness", desc := "()I" } : Jvm.MethodName)) ∈ tables_1 := mem1 127 rfl
theorem w129 : (Jvm.Cond.methodLink "SaturProverL3" (35 : Nat) ({ cls := "SaturProver", name := "satisfy", desc := "()I" } : Jvm.MethodName)) ∈ tables_1 := mem1 129 rfl
theorem w130 : (Jvm.Cond.declares ({ cls := "SaturProver", name := "satisfy", desc := "()I" } : Jvm.MethodName)) ∈ tables_1 := mem1 130 rfl
theorem w131 : (Jvm.Cond.instanceMethod ({ cls := "SaturProver", name := "satisfy", desc := "()I" } : Jvm.MethodName)) ∈ tables_1 := mem1 131 rfl
theorem w132 : (Jvm.Cond.selects "SaturProver" ({ cls := "SaturProver", name := "satisfy", desc := "()I" } : Jvm.MethodName) ({ cls := "SaturProver", name := "satisfy", desc := "()I" } : Jvm.MethodName)) ∈ tables_1 := mem1 132 rfl
theorem w134 : (Jvm.Cond.methodLink "SaturProver" (83 : Nat) ({ cls := "SaturProver", name := "loadWorkF", desc := "()V" } : Jvm.MethodName)) ∈ tables_1 := mem1 134 rfl
theorem w135 : (Jvm.Cond.instanceMethod ({ cls := "SaturProver", name := "loadWorkF", desc := "()V" } : Jvm.MethodName)) ∈ tables_1 := mem1 135 rfl
theorem w136 : (Jvm.Cond.privateMethod ({ cls := "SaturProver", name := "loadWorkF", desc := "()V" } : Jvm.MethodName)) ∈ tables_1 := mem1 136 rfl
theorem w138 : (Jvm.Cond.methodLink "SaturProverL3" (38 : Nat) ({ cls := "SaturProver", name := "save", desc := "()I" } : Jvm.MethodName)) ∈ tables_1 := mem1 138 rfl
theorem w139 : (Jvm.Cond.declares ({ cls := "SaturProver", name := "save", desc := "()I" } : Jvm.MethodName)) ∈ tables_1 := mem1 139 rfl
theorem w140 : (Jvm.Cond.instanceMethod ({ cls := "SaturProver", name := "save", desc := "()I" } : Jvm.MethodName)) ∈ tables_1 := mem1 140 rfl
theorem w141 : (Jvm.Cond.selects "SaturProver" ({ cls := "SaturProver", name := "save", desc := "()I" } : Jvm.MethodName) ({ cls := "SaturProver", name := "save", desc := "()I" } : Jvm.MethodName)) ∈ tables_1 := mem1 141 rfl
theorem w143 : (Jvm.Cond.methodLink "SaturProver" (60 : Nat) ({ cls := "SaturProver", name := "copyTokensToSaved", desc := "()V" } : Jvm.MethodName)) ∈ tables_1 := mem1 143 rfl
theorem w144 : (Jvm.Cond.instanceMethod ({ cls := "SaturProver", name := "copyTokensToSaved", desc := "()V" } : Jvm.MethodName)) ∈ tables_1 := mem1 144 rfl
theorem w145 : (Jvm.Cond.privateMethod ({ cls := "SaturProver", name := "copyTokensToSaved", desc := "()V" } : Jvm.MethodName)) ∈ tables_1 := mem1 145 rfl
theorem w147 : (Jvm.Cond.methodLink "SaturProver" (66 : Nat) ({ cls := "SaturProver", name := "copyTableFToS", desc := "()V" } : Jvm.MethodName)) ∈ tables_1 := mem1 147 rfl
theorem w148 : (Jvm.Cond.instanceMethod ({ cls := "SaturProver", name := "copyTableFToS", desc := "()V" } : Jvm.MethodName)) ∈ tables_1 := mem1 148 rfl
theorem w149 : (Jvm.Cond.privateMethod ({ cls := "SaturProver", name := "copyTableFToS", desc := "()V" } : Jvm.MethodName)) ∈ tables_1 := mem1 149 rfl
theorem w151 : (Jvm.Cond.methodLink "SaturProverL3" (41 : Nat) ({ cls := "SaturProver", name := "savedLength", desc := "()I" } : Jvm.MethodName)) ∈ tables_1 := mem1 151 rfl
theorem w152 : (Jvm.Cond.declares ({ cls := "SaturProver", name := "savedLength", desc := "()I" } : Jvm.MethodName)) ∈ tables_1 := mem1 152 rfl
theorem w153 : (Jvm.Cond.instanceMethod ({ cls := "SaturProver", name := "savedLength", desc := "()I" } : Jvm.MethodName)) ∈ tables_1 := mem1 153 rfl
theorem w154 : (Jvm.Cond.selects "SaturProver" ({ cls := "SaturProver", name := "savedLength", desc := "()I" } : Jvm.MethodName) ({ cls := "SaturProver", name := "savedLength", desc := "()I" } : Jvm.MethodName)) ∈ tables_1 := mem1 154 rfl
theorem w156 : (Jvm.Cond.methodLink "SaturProverL3" (44 : Nat) ({ cls := "SaturProver", name := "clear", desc := "()V" } : Jvm.MethodName)) ∈ tables_1 := mem1 156 rfl
theorem w157 : (Jvm.Cond.declares ({ cls := "SaturProver", name := "clear", desc := "()V" } : Jvm.MethodName)) ∈ tables_1 := mem1 157 rfl
theorem w158 : (Jvm.Cond.instanceMethod ({ cls := "SaturProver", name := "clear", desc := "()V" } : Jvm.MethodName)) ∈ tables_1 := mem1 158 rfl
theorem w159 : (Jvm.Cond.selects "SaturProver" ({ cls := "SaturProver", name := "clear", desc := "()V" } : Jvm.MethodName) ({ cls := "SaturProver", name := "clear", desc := "()V" } : Jvm.MethodName)) ∈ tables_1 := mem1 159 rfl
theorem w161 : (Jvm.Cond.methodLink "SaturProverL3" (47 : Nat) ({ cls := "SaturProver", name := "equivalent", desc := "()I" } : Jvm.MethodName)) ∈ tables_1 := mem1 161 rfl
theorem w162 : (Jvm.Cond.declares ({ cls := "SaturProver", name := "equivalent", desc := "()I" } : Jvm.MethodName)) ∈ tables_1 := mem1 162 rfl
theorem w163 : (Jvm.Cond.instanceMethod ({ cls := "SaturProver", name := "equivalent", desc := "()I" } : Jvm.MethodName)) ∈ tables_1 := mem1 163 rfl
theorem w164 : (Jvm.Cond.selects "SaturProver" ({ cls := "SaturProver", name := "equivalent", desc := "()I" } : Jvm.MethodName) ({ cls := "SaturProver", name := "equivalent", desc := "()I" } : Jvm.MethodName)) ∈ tables_1 := mem1 164 rfl
theorem w166 : (Jvm.Cond.methodLink "SaturProver" (86 : Nat) ({ cls := "SaturProver", name := "loadWorkDifference", desc := "()V" } : Jvm.MethodName)) ∈ tables_1 := mem1 166 rfl
theorem w167 : (Jvm.Cond.instanceMethod ({ cls := "SaturProver", name := "loadWorkDifference", desc := "()V" } : Jvm.MethodName)) ∈ tables_1 := mem1 167 rfl
theorem w168 : (Jvm.Cond.privateMethod ({ cls := "SaturProver", name := "loadWorkDifference", desc := "()V" } : Jvm.MethodName)) ∈ tables_1 := mem1 168 rfl
theorem w170 : (Jvm.Cond.constantLong "SaturProver" (133 : Nat) (-281470681808896 : Int64)) ∈ tables_1 := mem1 170 rfl
theorem w171 : (Jvm.Cond.constantLong "SaturProver" (129 : Nat) (-1085102592571150096 : Int64)) ∈ tables_1 := mem1 171 rfl
theorem w172 : (Jvm.Cond.constantLong "SaturProver" (127 : Nat) (-3689348814741910324 : Int64)) ∈ tables_1 := mem1 172 rfl
theorem w173 : (Jvm.Cond.constantLong "SaturProver" (135 : Nat) (-4294967296 : Int64)) ∈ tables_1 := mem1 173 rfl
theorem fS_0 : K.2.1[0]? = some ("cap", "I") := rfl
theorem fS_1 : K.2.1[1]? = some ("n", "I") := rfl
theorem fS_2 : K.2.1[2]? = some ("dep", "I") := rfl
theorem fS_3 : K.2.1[3]? = some ("sn", "I") := rfl
theorem fS_4 : K.2.1[4]? = some ("hasSaved", "Z") := rfl
theorem fS_5 : K.2.1[5]? = some ("res", "I") := rfl
theorem fS_6 : K.2.1[6]? = some ("wit", "I") := rfl
theorem fS_7 : K.2.1[7]? = some ("fValid", "Z") := rfl
theorem fA_0 : K.2.2[0]? = some ("toks", .int, (32 : Int32)) := rfl
theorem fA_1 : K.2.2[1]? = some ("saved", .int, (32 : Int32)) := rfl
theorem fA_2 : K.2.2[2]? = some ("stk", .long, (128 : Int32)) := rfl
theorem fA_3 : K.2.2[3]? = some ("tabF", .long, (4 : Int32)) := rfl
theorem fA_4 : K.2.2[4]? = some ("tabS", .long, (4 : Int32)) := rfl
theorem fA_5 : K.2.2[5]? = some ("work", .long, (4 : Int32)) := rfl
theorem cb_m6 : (Int8.ofInt (-6)).toInt32 = (-6 : Int32) := by decide
theorem cb_m5 : (Int8.ofInt (-5)).toInt32 = (-5 : Int32) := by decide
theorem cb_m3 : (Int8.ofInt (-3)).toInt32 = (-3 : Int32) := by decide
theorem cb_m2 : (Int8.ofInt (-2)).toInt32 = (-2 : Int32) := by decide
theorem cb_6 : (Int8.ofInt 6).toInt32 = (6 : Int32) := by decide
theorem cb_7 : (Int8.ofInt 7).toInt32 = (7 : Int32) := by decide
theorem cb_8 : (Int8.ofInt 8).toInt32 = (8 : Int32) := by decide
theorem cb_9 : (Int8.ofInt 9).toInt32 = (9 : Int32) := by decide
theorem cb_10 : (Int8.ofInt 10).toInt32 = (10 : Int32) := by decide
theorem cb_11 : (Int8.ofInt 11).toInt32 = (11 : Int32) := by decide
theorem cb_12 : (Int8.ofInt 12).toInt32 = (12 : Int32) := by decide
theorem cb_13 : (Int8.ofInt 13).toInt32 = (13 : Int32) := by decide
theorem cb_14 : (Int8.ofInt 14).toInt32 = (14 : Int32) := by decide
theorem cb_15 : (Int8.ofInt 15).toInt32 = (15 : Int32) := by decide
theorem cb_32 : (Int8.ofInt 32).toInt32 = (32 : Int32) := by decide
theorem cb_64 : (Int8.ofInt 64).toInt32 = (64 : Int32) := by decide
theorem ci_m1 : Int32.ofInt (-1) = (-1 : Int32) := by decide
theorem ci_0 : Int32.ofInt 0 = (0 : Int32) := by decide
theorem ci_1 : Int32.ofInt 1 = (1 : Int32) := by decide
theorem ci_2 : Int32.ofInt 2 = (2 : Int32) := by decide
theorem ci_3 : Int32.ofInt 3 = (3 : Int32) := by decide
theorem ci_4 : Int32.ofInt 4 = (4 : Int32) := by decide
theorem ci_5 : Int32.ofInt 5 = (5 : Int32) := by decide
theorem cl_0 : Int64.ofNat (0 : Fin 2) = (0 : Int64) := by decide
theorem cl_1 : Int64.ofNat (1 : Fin 2) = (1 : Int64) := by decide
theorem cs_128 : (Int16.ofInt 128).toInt32 = (128 : Int32) := by decide
theorem cs_256 : (Int16.ofInt 256).toInt32 = (256 : Int32) := by decide
def B1 : Bdy := ((⟨"SaturProverL3", "pick", "(I)I"⟩ : MethodName), method_3_code, 2, (some .int), ({ frames := 0, cells := 0, slots := 0, locals := 0 } : Room))
theorem d1_0 : DAt B1 0 (.iload_n 0) 1 1 := ⟨by decide +kernel, rfl⟩
theorem d1_1 : DAt B1 1 (.iconst 5) 1 2 := ⟨by decide +kernel, rfl⟩
theorem d1_2 : DAt B1 2 (.irem) 1 3 := ⟨by decide +kernel, rfl⟩
theorem d1_3 : DAt B1 3 (.istore_n 1) 1 4 := ⟨by decide +kernel, rfl⟩
theorem d1_4 : DAt B1 4 (.iload_n 1) 1 5 := ⟨by decide +kernel, rfl⟩
theorem d1_5 : DAt B1 5 (.ifCond .ge 7) 3 8 := ⟨by decide +kernel, rfl⟩
theorem d1_8 : DAt B1 8 (.iload_n 1) 1 9 := ⟨by decide +kernel, rfl⟩
theorem d1_9 : DAt B1 9 (.iconst 5) 1 10 := ⟨by decide +kernel, rfl⟩
theorem d1_10 : DAt B1 10 (.iadd) 1 11 := ⟨by decide +kernel, rfl⟩
theorem d1_11 : DAt B1 11 (.istore_n 1) 1 12 := ⟨by decide +kernel, rfl⟩
theorem d1_12 : DAt B1 12 (.bipush 11) 2 14 := ⟨by decide +kernel, rfl⟩
theorem d1_14 : DAt B1 14 (.iload_n 1) 1 15 := ⟨by decide +kernel, rfl⟩
theorem d1_15 : DAt B1 15 (.iadd) 1 16 := ⟨by decide +kernel, rfl⟩
theorem d1_16 : DAt B1 16 (.ireturn) 1 17 := ⟨by decide +kernel, rfl⟩
def B2 : Bdy := ((⟨"SaturProverL3", "f", "(III)I"⟩ : MethodName), method_2_code, 3, (some .int), ({ frames := 0, cells := 0, slots := 0, locals := 0 } : Room))
theorem d2_0 : DAt B2 0 (.iload_n 0) 1 1 := ⟨by decide +kernel, rfl⟩
theorem d2_1 : DAt B2 1 (.bipush 11) 2 3 := ⟨by decide +kernel, rfl⟩
theorem d2_3 : DAt B2 3 (.if_icmp .ne 7) 3 6 := ⟨by decide +kernel, rfl⟩
theorem d2_6 : DAt B2 6 (.iload_n 1) 1 7 := ⟨by decide +kernel, rfl⟩
theorem d2_7 : DAt B2 7 (.iload_n 2) 1 8 := ⟨by decide +kernel, rfl⟩
theorem d2_8 : DAt B2 8 (.iand) 1 9 := ⟨by decide +kernel, rfl⟩
theorem d2_9 : DAt B2 9 (.ireturn) 1 10 := ⟨by decide +kernel, rfl⟩
theorem d2_10 : DAt B2 10 (.iload_n 0) 1 11 := ⟨by decide +kernel, rfl⟩
theorem d2_11 : DAt B2 11 (.bipush 12) 2 13 := ⟨by decide +kernel, rfl⟩
theorem d2_13 : DAt B2 13 (.if_icmp .ne 7) 3 16 := ⟨by decide +kernel, rfl⟩
theorem d2_16 : DAt B2 16 (.iload_n 1) 1 17 := ⟨by decide +kernel, rfl⟩
theorem d2_17 : DAt B2 17 (.iload_n 2) 1 18 := ⟨by decide +kernel, rfl⟩
theorem d2_18 : DAt B2 18 (.ior) 1 19 := ⟨by decide +kernel, rfl⟩
theorem d2_19 : DAt B2 19 (.ireturn) 1 20 := ⟨by decide +kernel, rfl⟩
theorem d2_20 : DAt B2 20 (.iload_n 0) 1 21 := ⟨by decide +kernel, rfl⟩
theorem d2_21 : DAt B2 21 (.bipush 13) 2 23 := ⟨by decide +kernel, rfl⟩
theorem d2_23 : DAt B2 23 (.if_icmp .ne 9) 3 26 := ⟨by decide +kernel, rfl⟩
theorem d2_26 : DAt B2 26 (.iconst 1) 1 27 := ⟨by decide +kernel, rfl⟩
theorem d2_27 : DAt B2 27 (.iload_n 1) 1 28 := ⟨by decide +kernel, rfl⟩
theorem d2_28 : DAt B2 28 (.isub) 1 29 := ⟨by decide +kernel, rfl⟩
theorem d2_29 : DAt B2 29 (.iload_n 2) 1 30 := ⟨by decide +kernel, rfl⟩
theorem d2_30 : DAt B2 30 (.ior) 1 31 := ⟨by decide +kernel, rfl⟩
theorem d2_31 : DAt B2 31 (.ireturn) 1 32 := ⟨by decide +kernel, rfl⟩
theorem d2_32 : DAt B2 32 (.iload_n 0) 1 33 := ⟨by decide +kernel, rfl⟩
theorem d2_33 : DAt B2 33 (.bipush 14) 2 35 := ⟨by decide +kernel, rfl⟩
theorem d2_35 : DAt B2 35 (.if_icmp .ne 14) 3 38 := ⟨by decide +kernel, rfl⟩
theorem d2_38 : DAt B2 38 (.iload_n 1) 1 39 := ⟨by decide +kernel, rfl⟩
theorem d2_39 : DAt B2 39 (.iload_n 2) 1 40 := ⟨by decide +kernel, rfl⟩
theorem d2_40 : DAt B2 40 (.if_icmp .ne 7) 3 43 := ⟨by decide +kernel, rfl⟩
theorem d2_43 : DAt B2 43 (.iconst 1) 1 44 := ⟨by decide +kernel, rfl⟩
theorem d2_44 : DAt B2 44 (.goto 4) 3 47 := ⟨by decide +kernel, rfl⟩
theorem d2_47 : DAt B2 47 (.iconst 0) 1 48 := ⟨by decide +kernel, rfl⟩
theorem d2_48 : DAt B2 48 (.ireturn) 1 49 := ⟨by decide +kernel, rfl⟩
theorem d2_49 : DAt B2 49 (.iload_n 1) 1 50 := ⟨by decide +kernel, rfl⟩
theorem d2_50 : DAt B2 50 (.iload_n 2) 1 51 := ⟨by decide +kernel, rfl⟩
theorem d2_51 : DAt B2 51 (.if_icmp .eq 7) 3 54 := ⟨by decide +kernel, rfl⟩
theorem d2_54 : DAt B2 54 (.iconst 1) 1 55 := ⟨by decide +kernel, rfl⟩
theorem d2_55 : DAt B2 55 (.goto 4) 3 58 := ⟨by decide +kernel, rfl⟩
theorem d2_58 : DAt B2 58 (.iconst 0) 1 59 := ⟨by decide +kernel, rfl⟩
theorem d2_59 : DAt B2 59 (.ireturn) 1 60 := ⟨by decide +kernel, rfl⟩
def B4 : Bdy := ((⟨"SaturProver", "resetResult", "()V"⟩ : MethodName), prog_1_method_19_code, 1, none, ({ frames := 0, cells := 0, slots := 0, locals := 0 } : Room))
theorem d4_0 : DAt B4 0 (.aload_n 0) 1 1 := ⟨by decide +kernel, rfl⟩
theorem d4_1 : DAt B4 1 (.iconst 0) 1 2 := ⟨by decide +kernel, rfl⟩
theorem d4_2 : DAt B4 2 (.putfield 89) 3 5 := ⟨by decide +kernel, rfl⟩
theorem d4_5 : DAt B4 5 (.aload_n 0) 1 6 := ⟨by decide +kernel, rfl⟩
theorem d4_6 : DAt B4 6 (.iconst (-1)) 1 7 := ⟨by decide +kernel, rfl⟩
theorem d4_7 : DAt B4 7 (.putfield 92) 3 10 := ⟨by decide +kernel, rfl⟩
theorem d4_10 : DAt B4 10 (.return_) 1 11 := ⟨by decide +kernel, rfl⟩
def B3 : Bdy := ((⟨"SaturProver", "<init>", "(I)V"⟩ : MethodName), prog_1_method_1_code, 3, none, ({ frames := 1, cells := 6, slots := 204, locals := 12 } : Room))
theorem d3_0 : DAt B3 0 (.aload_n 0) 1 1 := ⟨by decide +kernel, rfl⟩
theorem d3_1 : DAt B3 1 (.invokespecial 1) 3 4 := ⟨by decide +kernel, rfl⟩
theorem d3_4 : DAt B3 4 (.aload_n 0) 1 5 := ⟨by decide +kernel, rfl⟩
theorem d3_5 : DAt B3 5 (.bipush 32) 2 7 := ⟨by decide +kernel, rfl⟩
theorem d3_7 : DAt B3 7 (.newarray .int) 2 9 := ⟨by decide +kernel, rfl⟩
theorem d3_9 : DAt B3 9 (.putfield 7) 3 12 := ⟨by decide +kernel, rfl⟩
theorem d3_12 : DAt B3 12 (.aload_n 0) 1 13 := ⟨by decide +kernel, rfl⟩
theorem d3_13 : DAt B3 13 (.bipush 32) 2 15 := ⟨by decide +kernel, rfl⟩
theorem d3_15 : DAt B3 15 (.newarray .int) 2 17 := ⟨by decide +kernel, rfl⟩
theorem d3_17 : DAt B3 17 (.putfield 13) 3 20 := ⟨by decide +kernel, rfl⟩
theorem d3_20 : DAt B3 20 (.aload_n 0) 1 21 := ⟨by decide +kernel, rfl⟩
theorem d3_21 : DAt B3 21 (.sipush 128) 3 24 := ⟨by decide +kernel, rfl⟩
theorem d3_24 : DAt B3 24 (.newarray .long) 2 26 := ⟨by decide +kernel, rfl⟩
theorem d3_26 : DAt B3 26 (.putfield 16) 3 29 := ⟨by decide +kernel, rfl⟩
theorem d3_29 : DAt B3 29 (.aload_n 0) 1 30 := ⟨by decide +kernel, rfl⟩
theorem d3_30 : DAt B3 30 (.iconst 4) 1 31 := ⟨by decide +kernel, rfl⟩
theorem d3_31 : DAt B3 31 (.newarray .long) 2 33 := ⟨by decide +kernel, rfl⟩
theorem d3_33 : DAt B3 33 (.putfield 20) 3 36 := ⟨by decide +kernel, rfl⟩
theorem d3_36 : DAt B3 36 (.aload_n 0) 1 37 := ⟨by decide +kernel, rfl⟩
theorem d3_37 : DAt B3 37 (.iconst 4) 1 38 := ⟨by decide +kernel, rfl⟩
theorem d3_38 : DAt B3 38 (.newarray .long) 2 40 := ⟨by decide +kernel, rfl⟩
theorem d3_40 : DAt B3 40 (.putfield 23) 3 43 := ⟨by decide +kernel, rfl⟩
theorem d3_43 : DAt B3 43 (.aload_n 0) 1 44 := ⟨by decide +kernel, rfl⟩
theorem d3_44 : DAt B3 44 (.iconst 4) 1 45 := ⟨by decide +kernel, rfl⟩
theorem d3_45 : DAt B3 45 (.newarray .long) 2 47 := ⟨by decide +kernel, rfl⟩
theorem d3_47 : DAt B3 47 (.putfield 26) 3 50 := ⟨by decide +kernel, rfl⟩
theorem d3_50 : DAt B3 50 (.iload_n 1) 1 51 := ⟨by decide +kernel, rfl⟩
theorem d3_51 : DAt B3 51 (.istore_n 2) 1 52 := ⟨by decide +kernel, rfl⟩
theorem d3_52 : DAt B3 52 (.iload_n 2) 1 53 := ⟨by decide +kernel, rfl⟩
theorem d3_53 : DAt B3 53 (.bipush 8) 2 55 := ⟨by decide +kernel, rfl⟩
theorem d3_55 : DAt B3 55 (.if_icmp .ge 6) 3 58 := ⟨by decide +kernel, rfl⟩
theorem d3_58 : DAt B3 58 (.bipush 8) 2 60 := ⟨by decide +kernel, rfl⟩
theorem d3_60 : DAt B3 60 (.istore_n 2) 1 61 := ⟨by decide +kernel, rfl⟩
theorem d3_61 : DAt B3 61 (.iload_n 2) 1 62 := ⟨by decide +kernel, rfl⟩
theorem d3_62 : DAt B3 62 (.bipush 32) 2 64 := ⟨by decide +kernel, rfl⟩
theorem d3_64 : DAt B3 64 (.if_icmp .le 6) 3 67 := ⟨by decide +kernel, rfl⟩
theorem d3_67 : DAt B3 67 (.bipush 32) 2 69 := ⟨by decide +kernel, rfl⟩
theorem d3_69 : DAt B3 69 (.istore_n 2) 1 70 := ⟨by decide +kernel, rfl⟩
theorem d3_70 : DAt B3 70 (.aload_n 0) 1 71 := ⟨by decide +kernel, rfl⟩
theorem d3_71 : DAt B3 71 (.iload_n 2) 1 72 := ⟨by decide +kernel, rfl⟩
theorem d3_72 : DAt B3 72 (.putfield 29) 3 75 := ⟨by decide +kernel, rfl⟩
theorem d3_75 : DAt B3 75 (.aload_n 0) 1 76 := ⟨by decide +kernel, rfl⟩
theorem d3_76 : DAt B3 76 (.iconst 0) 1 77 := ⟨by decide +kernel, rfl⟩
theorem d3_77 : DAt B3 77 (.putfield 33) 3 80 := ⟨by decide +kernel, rfl⟩
theorem d3_80 : DAt B3 80 (.aload_n 0) 1 81 := ⟨by decide +kernel, rfl⟩
theorem d3_81 : DAt B3 81 (.iconst 0) 1 82 := ⟨by decide +kernel, rfl⟩
theorem d3_82 : DAt B3 82 (.putfield 36) 3 85 := ⟨by decide +kernel, rfl⟩
theorem d3_85 : DAt B3 85 (.aload_n 0) 1 86 := ⟨by decide +kernel, rfl⟩
theorem d3_86 : DAt B3 86 (.iconst 0) 1 87 := ⟨by decide +kernel, rfl⟩
theorem d3_87 : DAt B3 87 (.putfield 39) 3 90 := ⟨by decide +kernel, rfl⟩
theorem d3_90 : DAt B3 90 (.aload_n 0) 1 91 := ⟨by decide +kernel, rfl⟩
theorem d3_91 : DAt B3 91 (.iconst 0) 1 92 := ⟨by decide +kernel, rfl⟩
theorem d3_92 : DAt B3 92 (.putfield 42) 3 95 := ⟨by decide +kernel, rfl⟩
theorem d3_95 : DAt B3 95 (.aload_n 0) 1 96 := ⟨by decide +kernel, rfl⟩
theorem d3_96 : DAt B3 96 (.iconst 0) 1 97 := ⟨by decide +kernel, rfl⟩
theorem d3_97 : DAt B3 97 (.putfield 46) 3 100 := ⟨by decide +kernel, rfl⟩
theorem d3_100 : DAt B3 100 (.aload_n 0) 1 101 := ⟨by decide +kernel, rfl⟩
theorem d3_101 : DAt B3 101 (.invokevirtual 49) 3 104 := ⟨by decide +kernel, rfl⟩
theorem d3_104 : DAt B3 104 (.return_) 1 105 := ⟨by decide +kernel, rfl⟩
def B6 : Bdy := ((⟨"SaturProver", "arity", "(I)I"⟩ : MethodName), prog_1_method_21_code, 2, (some .int), ({ frames := 0, cells := 0, slots := 0, locals := 0 } : Room))
theorem d6_0 : DAt B6 0 (.iload_n 1) 1 1 := ⟨by decide +kernel, rfl⟩
theorem d6_1 : DAt B6 1 (.bipush 9) 2 3 := ⟨by decide +kernel, rfl⟩
theorem d6_3 : DAt B6 3 (.if_icmp .gt 5) 3 6 := ⟨by decide +kernel, rfl⟩
theorem d6_6 : DAt B6 6 (.iconst 0) 1 7 := ⟨by decide +kernel, rfl⟩
theorem d6_7 : DAt B6 7 (.ireturn) 1 8 := ⟨by decide +kernel, rfl⟩
theorem d6_8 : DAt B6 8 (.iload_n 1) 1 9 := ⟨by decide +kernel, rfl⟩
theorem d6_9 : DAt B6 9 (.bipush 10) 2 11 := ⟨by decide +kernel, rfl⟩
theorem d6_11 : DAt B6 11 (.if_icmp .ne 5) 3 14 := ⟨by decide +kernel, rfl⟩
theorem d6_14 : DAt B6 14 (.iconst 1) 1 15 := ⟨by decide +kernel, rfl⟩
theorem d6_15 : DAt B6 15 (.ireturn) 1 16 := ⟨by decide +kernel, rfl⟩
theorem d6_16 : DAt B6 16 (.iconst 2) 1 17 := ⟨by decide +kernel, rfl⟩
theorem d6_17 : DAt B6 17 (.ireturn) 1 18 := ⟨by decide +kernel, rfl⟩
def B5 : Bdy := ((⟨"SaturProver", "pushToken", "(I)I"⟩ : MethodName), prog_1_method_2_code, 3, (some .int), ({ frames := 1, cells := 0, slots := 0, locals := 13 } : Room))
theorem d5_0 : DAt B5 0 (.iload_n 1) 1 1 := ⟨by decide +kernel, rfl⟩
theorem d5_1 : DAt B5 1 (.ifCond .lt 9) 3 4 := ⟨by decide +kernel, rfl⟩
theorem d5_4 : DAt B5 4 (.iload_n 1) 1 5 := ⟨by decide +kernel, rfl⟩
theorem d5_5 : DAt B5 5 (.bipush 15) 2 7 := ⟨by decide +kernel, rfl⟩
theorem d5_7 : DAt B5 7 (.if_icmp .le 5) 3 10 := ⟨by decide +kernel, rfl⟩
theorem d5_10 : DAt B5 10 (.iconst (-1)) 1 11 := ⟨by decide +kernel, rfl⟩
theorem d5_11 : DAt B5 11 (.ireturn) 1 12 := ⟨by decide +kernel, rfl⟩
theorem d5_12 : DAt B5 12 (.aload_n 0) 1 13 := ⟨by decide +kernel, rfl⟩
theorem d5_13 : DAt B5 13 (.getfield 33) 3 16 := ⟨by decide +kernel, rfl⟩
theorem d5_16 : DAt B5 16 (.aload_n 0) 1 17 := ⟨by decide +kernel, rfl⟩
theorem d5_17 : DAt B5 17 (.getfield 29) 3 20 := ⟨by decide +kernel, rfl⟩
theorem d5_20 : DAt B5 20 (.if_icmp .lt 6) 3 23 := ⟨by decide +kernel, rfl⟩
theorem d5_23 : DAt B5 23 (.bipush (-2)) 2 25 := ⟨by decide +kernel, rfl⟩
theorem d5_25 : DAt B5 25 (.ireturn) 1 26 := ⟨by decide +kernel, rfl⟩
theorem d5_26 : DAt B5 26 (.aload_n 0) 1 27 := ⟨by decide +kernel, rfl⟩
theorem d5_27 : DAt B5 27 (.iload_n 1) 1 28 := ⟨by decide +kernel, rfl⟩
theorem d5_28 : DAt B5 28 (.invokevirtual 52) 3 31 := ⟨by decide +kernel, rfl⟩
theorem d5_31 : DAt B5 31 (.istore_n 2) 1 32 := ⟨by decide +kernel, rfl⟩
theorem d5_32 : DAt B5 32 (.iload_n 2) 1 33 := ⟨by decide +kernel, rfl⟩
theorem d5_33 : DAt B5 33 (.aload_n 0) 1 34 := ⟨by decide +kernel, rfl⟩
theorem d5_34 : DAt B5 34 (.getfield 36) 3 37 := ⟨by decide +kernel, rfl⟩
theorem d5_37 : DAt B5 37 (.if_icmp .le 6) 3 40 := ⟨by decide +kernel, rfl⟩
theorem d5_40 : DAt B5 40 (.bipush (-3)) 2 42 := ⟨by decide +kernel, rfl⟩
theorem d5_42 : DAt B5 42 (.ireturn) 1 43 := ⟨by decide +kernel, rfl⟩
theorem d5_43 : DAt B5 43 (.aload_n 0) 1 44 := ⟨by decide +kernel, rfl⟩
theorem d5_44 : DAt B5 44 (.getfield 7) 3 47 := ⟨by decide +kernel, rfl⟩
theorem d5_47 : DAt B5 47 (.aload_n 0) 1 48 := ⟨by decide +kernel, rfl⟩
theorem d5_48 : DAt B5 48 (.getfield 33) 3 51 := ⟨by decide +kernel, rfl⟩
theorem d5_51 : DAt B5 51 (.iload_n 1) 1 52 := ⟨by decide +kernel, rfl⟩
theorem d5_52 : DAt B5 52 (.iastore) 1 53 := ⟨by decide +kernel, rfl⟩
theorem d5_53 : DAt B5 53 (.aload_n 0) 1 54 := ⟨by decide +kernel, rfl⟩
theorem d5_54 : DAt B5 54 (.aload_n 0) 1 55 := ⟨by decide +kernel, rfl⟩
theorem d5_55 : DAt B5 55 (.getfield 33) 3 58 := ⟨by decide +kernel, rfl⟩
theorem d5_58 : DAt B5 58 (.iconst 1) 1 59 := ⟨by decide +kernel, rfl⟩
theorem d5_59 : DAt B5 59 (.iadd) 1 60 := ⟨by decide +kernel, rfl⟩
theorem d5_60 : DAt B5 60 (.putfield 33) 3 63 := ⟨by decide +kernel, rfl⟩
theorem d5_63 : DAt B5 63 (.aload_n 0) 1 64 := ⟨by decide +kernel, rfl⟩
theorem d5_64 : DAt B5 64 (.aload_n 0) 1 65 := ⟨by decide +kernel, rfl⟩
theorem d5_65 : DAt B5 65 (.getfield 36) 3 68 := ⟨by decide +kernel, rfl⟩
theorem d5_68 : DAt B5 68 (.iconst 1) 1 69 := ⟨by decide +kernel, rfl⟩
theorem d5_69 : DAt B5 69 (.iadd) 1 70 := ⟨by decide +kernel, rfl⟩
theorem d5_70 : DAt B5 70 (.iload_n 2) 1 71 := ⟨by decide +kernel, rfl⟩
theorem d5_71 : DAt B5 71 (.isub) 1 72 := ⟨by decide +kernel, rfl⟩
theorem d5_72 : DAt B5 72 (.putfield 36) 3 75 := ⟨by decide +kernel, rfl⟩
theorem d5_75 : DAt B5 75 (.aload_n 0) 1 76 := ⟨by decide +kernel, rfl⟩
theorem d5_76 : DAt B5 76 (.iconst 0) 1 77 := ⟨by decide +kernel, rfl⟩
theorem d5_77 : DAt B5 77 (.putfield 46) 3 80 := ⟨by decide +kernel, rfl⟩
theorem d5_80 : DAt B5 80 (.aload_n 0) 1 81 := ⟨by decide +kernel, rfl⟩
theorem d5_81 : DAt B5 81 (.invokevirtual 49) 3 84 := ⟨by decide +kernel, rfl⟩
theorem d5_84 : DAt B5 84 (.iconst 0) 1 85 := ⟨by decide +kernel, rfl⟩
theorem d5_85 : DAt B5 85 (.ireturn) 1 86 := ⟨by decide +kernel, rfl⟩
def B8 : Bdy := ((⟨"SaturProver", "completeF", "()Z"⟩ : MethodName), prog_1_method_18_code, 1, (some .boolean), ({ frames := 0, cells := 0, slots := 0, locals := 0 } : Room))
theorem d8_0 : DAt B8 0 (.aload_n 0) 1 1 := ⟨by decide +kernel, rfl⟩
theorem d8_1 : DAt B8 1 (.getfield 36) 3 4 := ⟨by decide +kernel, rfl⟩
theorem d8_4 : DAt B8 4 (.iconst 1) 1 5 := ⟨by decide +kernel, rfl⟩
theorem d8_5 : DAt B8 5 (.if_icmp .ne 7) 3 8 := ⟨by decide +kernel, rfl⟩
theorem d8_8 : DAt B8 8 (.iconst 1) 1 9 := ⟨by decide +kernel, rfl⟩
theorem d8_9 : DAt B8 9 (.goto 4) 3 12 := ⟨by decide +kernel, rfl⟩
theorem d8_12 : DAt B8 12 (.iconst 0) 1 13 := ⟨by decide +kernel, rfl⟩
theorem d8_13 : DAt B8 13 (.ireturn) 1 14 := ⟨by decide +kernel, rfl⟩
def B13 : Bdy := ((⟨"SaturProver", "varWord", "(II)J"⟩ : MethodName), prog_1_method_32_code, 3, (some .long), ({ frames := 0, cells := 0, slots := 0, locals := 0 } : Room))
theorem d13_0 : DAt B13 0 (.iload_n 1) 1 1 := ⟨by decide +kernel, rfl⟩
theorem d13_1 : DAt B13 1 (.tableswitch 81 0 6 #[43, 47, 51, 55, 59, 63, 67]) 43 44 := ⟨by decide +kernel, rfl⟩
theorem d13_44 : DAt B13 44 (.ldc2_w 125) 3 47 := ⟨by decide +kernel, rfl⟩
theorem d13_47 : DAt B13 47 (.lreturn) 1 48 := ⟨by decide +kernel, rfl⟩
theorem d13_48 : DAt B13 48 (.ldc2_w 127) 3 51 := ⟨by decide +kernel, rfl⟩
theorem d13_51 : DAt B13 51 (.lreturn) 1 52 := ⟨by decide +kernel, rfl⟩
theorem d13_52 : DAt B13 52 (.ldc2_w 129) 3 55 := ⟨by decide +kernel, rfl⟩
theorem d13_55 : DAt B13 55 (.lreturn) 1 56 := ⟨by decide +kernel, rfl⟩
theorem d13_56 : DAt B13 56 (.ldc2_w 131) 3 59 := ⟨by decide +kernel, rfl⟩
theorem d13_59 : DAt B13 59 (.lreturn) 1 60 := ⟨by decide +kernel, rfl⟩
theorem d13_60 : DAt B13 60 (.ldc2_w 133) 3 63 := ⟨by decide +kernel, rfl⟩
theorem d13_63 : DAt B13 63 (.lreturn) 1 64 := ⟨by decide +kernel, rfl⟩
theorem d13_64 : DAt B13 64 (.ldc2_w 135) 3 67 := ⟨by decide +kernel, rfl⟩
theorem d13_67 : DAt B13 67 (.lreturn) 1 68 := ⟨by decide +kernel, rfl⟩
theorem d13_68 : DAt B13 68 (.iload_n 2) 1 69 := ⟨by decide +kernel, rfl⟩
theorem d13_69 : DAt B13 69 (.iconst 1) 1 70 := ⟨by decide +kernel, rfl⟩
theorem d13_70 : DAt B13 70 (.iand) 1 71 := ⟨by decide +kernel, rfl⟩
theorem d13_71 : DAt B13 71 (.ifCond .eq 9) 3 74 := ⟨by decide +kernel, rfl⟩
theorem d13_74 : DAt B13 74 (.ldc2_w 116) 3 77 := ⟨by decide +kernel, rfl⟩
theorem d13_77 : DAt B13 77 (.goto 4) 3 80 := ⟨by decide +kernel, rfl⟩
theorem d13_80 : DAt B13 80 (.lconst 0) 1 81 := ⟨by decide +kernel, rfl⟩
theorem d13_81 : DAt B13 81 (.lreturn) 1 82 := ⟨by decide +kernel, rfl⟩
theorem d13_82 : DAt B13 82 (.iload_n 2) 1 83 := ⟨by decide +kernel, rfl⟩
theorem d13_83 : DAt B13 83 (.iconst 2) 1 84 := ⟨by decide +kernel, rfl⟩
theorem d13_84 : DAt B13 84 (.iand) 1 85 := ⟨by decide +kernel, rfl⟩
theorem d13_85 : DAt B13 85 (.ifCond .eq 9) 3 88 := ⟨by decide +kernel, rfl⟩
theorem d13_88 : DAt B13 88 (.ldc2_w 116) 3 91 := ⟨by decide +kernel, rfl⟩
theorem d13_91 : DAt B13 91 (.goto 4) 3 94 := ⟨by decide +kernel, rfl⟩
theorem d13_94 : DAt B13 94 (.lconst 0) 1 95 := ⟨by decide +kernel, rfl⟩
theorem d13_95 : DAt B13 95 (.lreturn) 1 96 := ⟨by decide +kernel, rfl⟩
def B12 : Bdy := ((⟨"SaturProver", "leafWord", "(II)J"⟩ : MethodName), prog_1_method_31_code, 3, (some .long), ({ frames := 1, cells := 0, slots := 0, locals := 14 } : Room))
theorem d12_0 : DAt B12 0 (.iload_n 1) 1 1 := ⟨by decide +kernel, rfl⟩
theorem d12_1 : DAt B12 1 (.bipush 8) 2 3 := ⟨by decide +kernel, rfl⟩
theorem d12_3 : DAt B12 3 (.if_icmp .ne 5) 3 6 := ⟨by decide +kernel, rfl⟩
theorem d12_6 : DAt B12 6 (.lconst 0) 1 7 := ⟨by decide +kernel, rfl⟩
theorem d12_7 : DAt B12 7 (.lreturn) 1 8 := ⟨by decide +kernel, rfl⟩
theorem d12_8 : DAt B12 8 (.iload_n 1) 1 9 := ⟨by decide +kernel, rfl⟩
theorem d12_9 : DAt B12 9 (.bipush 9) 2 11 := ⟨by decide +kernel, rfl⟩
theorem d12_11 : DAt B12 11 (.if_icmp .ne 7) 3 14 := ⟨by decide +kernel, rfl⟩
theorem d12_14 : DAt B12 14 (.ldc2_w 116) 3 17 := ⟨by decide +kernel, rfl⟩
theorem d12_17 : DAt B12 17 (.lreturn) 1 18 := ⟨by decide +kernel, rfl⟩
theorem d12_18 : DAt B12 18 (.aload_n 0) 1 19 := ⟨by decide +kernel, rfl⟩
theorem d12_19 : DAt B12 19 (.iload_n 1) 1 20 := ⟨by decide +kernel, rfl⟩
theorem d12_20 : DAt B12 20 (.iload_n 2) 1 21 := ⟨by decide +kernel, rfl⟩
theorem d12_21 : DAt B12 21 (.invokevirtual 122) 3 24 := ⟨by decide +kernel, rfl⟩
theorem d12_24 : DAt B12 24 (.lreturn) 1 25 := ⟨by decide +kernel, rfl⟩
def B11 : Bdy := ((⟨"SaturProver", "pushLeaf", "(II)V"⟩ : MethodName), prog_1_method_27_code, 5, none, ({ frames := 2, cells := 0, slots := 0, locals := 30 } : Room))
theorem d11_0 : DAt B11 0 (.iload_n 2) 1 1 := ⟨by decide +kernel, rfl⟩
theorem d11_1 : DAt B11 1 (.iconst 4) 1 2 := ⟨by decide +kernel, rfl⟩
theorem d11_2 : DAt B11 2 (.imul) 1 3 := ⟨by decide +kernel, rfl⟩
theorem d11_3 : DAt B11 3 (.istore_n 3) 1 4 := ⟨by decide +kernel, rfl⟩
theorem d11_4 : DAt B11 4 (.iconst 0) 1 5 := ⟨by decide +kernel, rfl⟩
theorem d11_5 : DAt B11 5 (.istore 4) 2 7 := ⟨by decide +kernel, rfl⟩
theorem d11_7 : DAt B11 7 (.iload 4) 2 9 := ⟨by decide +kernel, rfl⟩
theorem d11_9 : DAt B11 9 (.iconst 4) 1 10 := ⟨by decide +kernel, rfl⟩
theorem d11_10 : DAt B11 10 (.if_icmp .ge 25) 3 13 := ⟨by decide +kernel, rfl⟩
theorem d11_13 : DAt B11 13 (.aload_n 0) 1 14 := ⟨by decide +kernel, rfl⟩
theorem d11_14 : DAt B11 14 (.getfield 16) 3 17 := ⟨by decide +kernel, rfl⟩
theorem d11_17 : DAt B11 17 (.iload_n 3) 1 18 := ⟨by decide +kernel, rfl⟩
theorem d11_18 : DAt B11 18 (.iload 4) 2 20 := ⟨by decide +kernel, rfl⟩
theorem d11_20 : DAt B11 20 (.iadd) 1 21 := ⟨by decide +kernel, rfl⟩
theorem d11_21 : DAt B11 21 (.aload_n 0) 1 22 := ⟨by decide +kernel, rfl⟩
theorem d11_22 : DAt B11 22 (.iload_n 1) 1 23 := ⟨by decide +kernel, rfl⟩
theorem d11_23 : DAt B11 23 (.iload 4) 2 25 := ⟨by decide +kernel, rfl⟩
theorem d11_25 : DAt B11 25 (.invokevirtual 112) 3 28 := ⟨by decide +kernel, rfl⟩
theorem d11_28 : DAt B11 28 (.lastore) 1 29 := ⟨by decide +kernel, rfl⟩
theorem d11_29 : DAt B11 29 (.iinc 4 1) 3 32 := ⟨by decide +kernel, rfl⟩
theorem d11_32 : DAt B11 32 (.goto (-25)) 3 35 := ⟨by decide +kernel, rfl⟩
theorem d11_35 : DAt B11 35 (.return_) 1 36 := ⟨by decide +kernel, rfl⟩
def B15 : Bdy := ((⟨"SaturProver", "combine", "(IJJ)J"⟩ : MethodName), prog_1_method_30_code, 6, (some .long), ({ frames := 0, cells := 0, slots := 0, locals := 0 } : Room))
theorem d15_0 : DAt B15 0 (.iload_n 1) 1 1 := ⟨by decide +kernel, rfl⟩
theorem d15_1 : DAt B15 1 (.tableswitch 59 11 14 #[31, 36, 41, 50]) 31 32 := ⟨by decide +kernel, rfl⟩
theorem d15_32 : DAt B15 32 (.lload_n 2) 1 33 := ⟨by decide +kernel, rfl⟩
theorem d15_33 : DAt B15 33 (.lload 4) 2 35 := ⟨by decide +kernel, rfl⟩
theorem d15_35 : DAt B15 35 (.land) 1 36 := ⟨by decide +kernel, rfl⟩
theorem d15_36 : DAt B15 36 (.lreturn) 1 37 := ⟨by decide +kernel, rfl⟩
theorem d15_37 : DAt B15 37 (.lload_n 2) 1 38 := ⟨by decide +kernel, rfl⟩
theorem d15_38 : DAt B15 38 (.lload 4) 2 40 := ⟨by decide +kernel, rfl⟩
theorem d15_40 : DAt B15 40 (.lor) 1 41 := ⟨by decide +kernel, rfl⟩
theorem d15_41 : DAt B15 41 (.lreturn) 1 42 := ⟨by decide +kernel, rfl⟩
theorem d15_42 : DAt B15 42 (.lload_n 2) 1 43 := ⟨by decide +kernel, rfl⟩
theorem d15_43 : DAt B15 43 (.ldc2_w 116) 3 46 := ⟨by decide +kernel, rfl⟩
theorem d15_46 : DAt B15 46 (.lxor) 1 47 := ⟨by decide +kernel, rfl⟩
theorem d15_47 : DAt B15 47 (.lload 4) 2 49 := ⟨by decide +kernel, rfl⟩
theorem d15_49 : DAt B15 49 (.lor) 1 50 := ⟨by decide +kernel, rfl⟩
theorem d15_50 : DAt B15 50 (.lreturn) 1 51 := ⟨by decide +kernel, rfl⟩
theorem d15_51 : DAt B15 51 (.lload_n 2) 1 52 := ⟨by decide +kernel, rfl⟩
theorem d15_52 : DAt B15 52 (.lload 4) 2 54 := ⟨by decide +kernel, rfl⟩
theorem d15_54 : DAt B15 54 (.lxor) 1 55 := ⟨by decide +kernel, rfl⟩
theorem d15_55 : DAt B15 55 (.ldc2_w 116) 3 58 := ⟨by decide +kernel, rfl⟩
theorem d15_58 : DAt B15 58 (.lxor) 1 59 := ⟨by decide +kernel, rfl⟩
theorem d15_59 : DAt B15 59 (.lreturn) 1 60 := ⟨by decide +kernel, rfl⟩
theorem d15_60 : DAt B15 60 (.lload_n 2) 1 61 := ⟨by decide +kernel, rfl⟩
theorem d15_61 : DAt B15 61 (.lload 4) 2 63 := ⟨by decide +kernel, rfl⟩
theorem d15_63 : DAt B15 63 (.lxor) 1 64 := ⟨by decide +kernel, rfl⟩
theorem d15_64 : DAt B15 64 (.lreturn) 1 65 := ⟨by decide +kernel, rfl⟩
def B14 : Bdy := ((⟨"SaturProver", "combineSlots", "(II)V"⟩ : MethodName), prog_1_method_29_code, 9, none, ({ frames := 1, cells := 0, slots := 0, locals := 19 } : Room))
theorem d14_0 : DAt B14 0 (.iload_n 2) 1 1 := ⟨by decide +kernel, rfl⟩
theorem d14_1 : DAt B14 1 (.iconst 4) 1 2 := ⟨by decide +kernel, rfl⟩
theorem d14_2 : DAt B14 2 (.imul) 1 3 := ⟨by decide +kernel, rfl⟩
theorem d14_3 : DAt B14 3 (.istore_n 3) 1 4 := ⟨by decide +kernel, rfl⟩
theorem d14_4 : DAt B14 4 (.iconst 0) 1 5 := ⟨by decide +kernel, rfl⟩
theorem d14_5 : DAt B14 5 (.istore 4) 2 7 := ⟨by decide +kernel, rfl⟩
theorem d14_7 : DAt B14 7 (.iload 4) 2 9 := ⟨by decide +kernel, rfl⟩
theorem d14_9 : DAt B14 9 (.iconst 4) 1 10 := ⟨by decide +kernel, rfl⟩
theorem d14_10 : DAt B14 10 (.if_icmp .ge 51) 3 13 := ⟨by decide +kernel, rfl⟩
theorem d14_13 : DAt B14 13 (.aload_n 0) 1 14 := ⟨by decide +kernel, rfl⟩
theorem d14_14 : DAt B14 14 (.getfield 16) 3 17 := ⟨by decide +kernel, rfl⟩
theorem d14_17 : DAt B14 17 (.iload_n 3) 1 18 := ⟨by decide +kernel, rfl⟩
theorem d14_18 : DAt B14 18 (.iload 4) 2 20 := ⟨by decide +kernel, rfl⟩
theorem d14_20 : DAt B14 20 (.iadd) 1 21 := ⟨by decide +kernel, rfl⟩
theorem d14_21 : DAt B14 21 (.laload) 1 22 := ⟨by decide +kernel, rfl⟩
theorem d14_22 : DAt B14 22 (.lstore 5) 2 24 := ⟨by decide +kernel, rfl⟩
theorem d14_24 : DAt B14 24 (.aload_n 0) 1 25 := ⟨by decide +kernel, rfl⟩
theorem d14_25 : DAt B14 25 (.getfield 16) 3 28 := ⟨by decide +kernel, rfl⟩
theorem d14_28 : DAt B14 28 (.iload_n 3) 1 29 := ⟨by decide +kernel, rfl⟩
theorem d14_29 : DAt B14 29 (.iconst 4) 1 30 := ⟨by decide +kernel, rfl⟩
theorem d14_30 : DAt B14 30 (.iadd) 1 31 := ⟨by decide +kernel, rfl⟩
theorem d14_31 : DAt B14 31 (.iload 4) 2 33 := ⟨by decide +kernel, rfl⟩
theorem d14_33 : DAt B14 33 (.iadd) 1 34 := ⟨by decide +kernel, rfl⟩
theorem d14_34 : DAt B14 34 (.laload) 1 35 := ⟨by decide +kernel, rfl⟩
theorem d14_35 : DAt B14 35 (.lstore 7) 2 37 := ⟨by decide +kernel, rfl⟩
theorem d14_37 : DAt B14 37 (.aload_n 0) 1 38 := ⟨by decide +kernel, rfl⟩
theorem d14_38 : DAt B14 38 (.getfield 16) 3 41 := ⟨by decide +kernel, rfl⟩
theorem d14_41 : DAt B14 41 (.iload_n 3) 1 42 := ⟨by decide +kernel, rfl⟩
theorem d14_42 : DAt B14 42 (.iload 4) 2 44 := ⟨by decide +kernel, rfl⟩
theorem d14_44 : DAt B14 44 (.iadd) 1 45 := ⟨by decide +kernel, rfl⟩
theorem d14_45 : DAt B14 45 (.aload_n 0) 1 46 := ⟨by decide +kernel, rfl⟩
theorem d14_46 : DAt B14 46 (.iload_n 1) 1 47 := ⟨by decide +kernel, rfl⟩
theorem d14_47 : DAt B14 47 (.lload 5) 2 49 := ⟨by decide +kernel, rfl⟩
theorem d14_49 : DAt B14 49 (.lload 7) 2 51 := ⟨by decide +kernel, rfl⟩
theorem d14_51 : DAt B14 51 (.invokevirtual 118) 3 54 := ⟨by decide +kernel, rfl⟩
theorem d14_54 : DAt B14 54 (.lastore) 1 55 := ⟨by decide +kernel, rfl⟩
theorem d14_55 : DAt B14 55 (.iinc 4 1) 3 58 := ⟨by decide +kernel, rfl⟩
theorem d14_58 : DAt B14 58 (.goto (-51)) 3 61 := ⟨by decide +kernel, rfl⟩
theorem d14_61 : DAt B14 61 (.return_) 1 62 := ⟨by decide +kernel, rfl⟩
def B10 : Bdy := ((⟨"SaturProver", "step", "(II)I"⟩ : MethodName), prog_1_method_26_code, 4, (some .int), ({ frames := 3, cells := 0, slots := 0, locals := 46 } : Room))
theorem d10_0 : DAt B10 0 (.aload_n 0) 1 1 := ⟨by decide +kernel, rfl⟩
theorem d10_1 : DAt B10 1 (.iload_n 1) 1 2 := ⟨by decide +kernel, rfl⟩
theorem d10_2 : DAt B10 2 (.invokevirtual 52) 3 5 := ⟨by decide +kernel, rfl⟩
theorem d10_5 : DAt B10 5 (.istore_n 3) 1 6 := ⟨by decide +kernel, rfl⟩
theorem d10_6 : DAt B10 6 (.iload_n 3) 1 7 := ⟨by decide +kernel, rfl⟩
theorem d10_7 : DAt B10 7 (.iload_n 2) 1 8 := ⟨by decide +kernel, rfl⟩
theorem d10_8 : DAt B10 8 (.if_icmp .gt 9) 3 11 := ⟨by decide +kernel, rfl⟩
theorem d10_11 : DAt B10 11 (.iload_n 2) 1 12 := ⟨by decide +kernel, rfl⟩
theorem d10_12 : DAt B10 12 (.bipush 32) 2 14 := ⟨by decide +kernel, rfl⟩
theorem d10_14 : DAt B10 14 (.if_icmp .le 5) 3 17 := ⟨by decide +kernel, rfl⟩
theorem d10_17 : DAt B10 17 (.iload_n 2) 1 18 := ⟨by decide +kernel, rfl⟩
theorem d10_18 : DAt B10 18 (.ireturn) 1 19 := ⟨by decide +kernel, rfl⟩
theorem d10_19 : DAt B10 19 (.iload_n 3) 1 20 := ⟨by decide +kernel, rfl⟩
theorem d10_20 : DAt B10 20 (.ifCond .ne 21) 3 23 := ⟨by decide +kernel, rfl⟩
theorem d10_23 : DAt B10 23 (.iload_n 2) 1 24 := ⟨by decide +kernel, rfl⟩
theorem d10_24 : DAt B10 24 (.bipush 32) 2 26 := ⟨by decide +kernel, rfl⟩
theorem d10_26 : DAt B10 26 (.if_icmp .lt 5) 3 29 := ⟨by decide +kernel, rfl⟩
theorem d10_29 : DAt B10 29 (.iload_n 2) 1 30 := ⟨by decide +kernel, rfl⟩
theorem d10_30 : DAt B10 30 (.ireturn) 1 31 := ⟨by decide +kernel, rfl⟩
theorem d10_31 : DAt B10 31 (.aload_n 0) 1 32 := ⟨by decide +kernel, rfl⟩
theorem d10_32 : DAt B10 32 (.iload_n 1) 1 33 := ⟨by decide +kernel, rfl⟩
theorem d10_33 : DAt B10 33 (.iload_n 2) 1 34 := ⟨by decide +kernel, rfl⟩
theorem d10_34 : DAt B10 34 (.invokevirtual 103) 3 37 := ⟨by decide +kernel, rfl⟩
theorem d10_37 : DAt B10 37 (.iload_n 2) 1 38 := ⟨by decide +kernel, rfl⟩
theorem d10_38 : DAt B10 38 (.iconst 1) 1 39 := ⟨by decide +kernel, rfl⟩
theorem d10_39 : DAt B10 39 (.iadd) 1 40 := ⟨by decide +kernel, rfl⟩
theorem d10_40 : DAt B10 40 (.ireturn) 1 41 := ⟨by decide +kernel, rfl⟩
theorem d10_41 : DAt B10 41 (.iload_n 3) 1 42 := ⟨by decide +kernel, rfl⟩
theorem d10_42 : DAt B10 42 (.iconst 1) 1 43 := ⟨by decide +kernel, rfl⟩
theorem d10_43 : DAt B10 43 (.if_icmp .ne 12) 3 46 := ⟨by decide +kernel, rfl⟩
theorem d10_46 : DAt B10 46 (.aload_n 0) 1 47 := ⟨by decide +kernel, rfl⟩
theorem d10_47 : DAt B10 47 (.iload_n 2) 1 48 := ⟨by decide +kernel, rfl⟩
theorem d10_48 : DAt B10 48 (.iconst 1) 1 49 := ⟨by decide +kernel, rfl⟩
theorem d10_49 : DAt B10 49 (.isub) 1 50 := ⟨by decide +kernel, rfl⟩
theorem d10_55 : DAt B10 55 (.aload_n 0) 1 56 := ⟨by decide +kernel, rfl⟩
theorem d10_56 : DAt B10 56 (.iload_n 1) 1 57 := ⟨by decide +kernel, rfl⟩
theorem d10_57 : DAt B10 57 (.iload_n 2) 1 58 := ⟨by decide +kernel, rfl⟩
theorem d10_58 : DAt B10 58 (.iconst 2) 1 59 := ⟨by decide +kernel, rfl⟩
theorem d10_59 : DAt B10 59 (.isub) 1 60 := ⟨by decide +kernel, rfl⟩
theorem d10_60 : DAt B10 60 (.invokevirtual 109) 3 63 := ⟨by decide +kernel, rfl⟩
theorem d10_63 : DAt B10 63 (.iload_n 2) 1 64 := ⟨by decide +kernel, rfl⟩
theorem d10_64 : DAt B10 64 (.iconst 1) 1 65 := ⟨by decide +kernel, rfl⟩
theorem d10_65 : DAt B10 65 (.isub) 1 66 := ⟨by decide +kernel, rfl⟩
theorem d10_66 : DAt B10 66 (.ireturn) 1 67 := ⟨by decide +kernel, rfl⟩
def B16 : Bdy := ((⟨"SaturProver", "storeTopIntoF", "(I)V"⟩ : MethodName), prog_1_method_25_code, 5, none, ({ frames := 0, cells := 0, slots := 0, locals := 0 } : Room))
theorem d16_0 : DAt B16 0 (.iconst 0) 1 1 := ⟨by decide +kernel, rfl⟩
theorem d16_1 : DAt B16 1 (.istore_n 2) 1 2 := ⟨by decide +kernel, rfl⟩
theorem d16_2 : DAt B16 2 (.iload_n 2) 1 3 := ⟨by decide +kernel, rfl⟩
theorem d16_3 : DAt B16 3 (.iconst 4) 1 4 := ⟨by decide +kernel, rfl⟩
theorem d16_4 : DAt B16 4 (.if_icmp .ge 42) 3 7 := ⟨by decide +kernel, rfl⟩
theorem d16_7 : DAt B16 7 (.lconst 0) 1 8 := ⟨by decide +kernel, rfl⟩
theorem d16_8 : DAt B16 8 (.lstore_n 3) 1 9 := ⟨by decide +kernel, rfl⟩
theorem d16_9 : DAt B16 9 (.iload_n 1) 1 10 := ⟨by decide +kernel, rfl⟩
theorem d16_10 : DAt B16 10 (.iconst 1) 1 11 := ⟨by decide +kernel, rfl⟩
theorem d16_11 : DAt B16 11 (.if_icmp .lt 22) 3 14 := ⟨by decide +kernel, rfl⟩
theorem d16_14 : DAt B16 14 (.iload_n 1) 1 15 := ⟨by decide +kernel, rfl⟩
theorem d16_15 : DAt B16 15 (.bipush 32) 2 17 := ⟨by decide +kernel, rfl⟩
theorem d16_17 : DAt B16 17 (.if_icmp .gt 16) 3 20 := ⟨by decide +kernel, rfl⟩
theorem d16_20 : DAt B16 20 (.aload_n 0) 1 21 := ⟨by decide +kernel, rfl⟩
theorem d16_21 : DAt B16 21 (.getfield 16) 3 24 := ⟨by decide +kernel, rfl⟩
theorem d16_24 : DAt B16 24 (.iload_n 1) 1 25 := ⟨by decide +kernel, rfl⟩
theorem d16_25 : DAt B16 25 (.iconst 1) 1 26 := ⟨by decide +kernel, rfl⟩
theorem d16_26 : DAt B16 26 (.isub) 1 27 := ⟨by decide +kernel, rfl⟩
theorem d16_27 : DAt B16 27 (.iconst 4) 1 28 := ⟨by decide +kernel, rfl⟩
theorem d16_28 : DAt B16 28 (.imul) 1 29 := ⟨by decide +kernel, rfl⟩
theorem d16_29 : DAt B16 29 (.iload_n 2) 1 30 := ⟨by decide +kernel, rfl⟩
theorem d16_30 : DAt B16 30 (.iadd) 1 31 := ⟨by decide +kernel, rfl⟩
theorem d16_31 : DAt B16 31 (.laload) 1 32 := ⟨by decide +kernel, rfl⟩
theorem d16_32 : DAt B16 32 (.lstore_n 3) 1 33 := ⟨by decide +kernel, rfl⟩
theorem d16_33 : DAt B16 33 (.aload_n 0) 1 34 := ⟨by decide +kernel, rfl⟩
theorem d16_34 : DAt B16 34 (.getfield 20) 3 37 := ⟨by decide +kernel, rfl⟩
theorem d16_37 : DAt B16 37 (.iload_n 2) 1 38 := ⟨by decide +kernel, rfl⟩
theorem d16_38 : DAt B16 38 (.lload_n 3) 1 39 := ⟨by decide +kernel, rfl⟩
theorem d16_39 : DAt B16 39 (.lastore) 1 40 := ⟨by decide +kernel, rfl⟩
theorem d16_40 : DAt B16 40 (.iinc 2 1) 3 43 := ⟨by decide +kernel, rfl⟩
theorem d16_43 : DAt B16 43 (.goto (-41)) 3 46 := ⟨by decide +kernel, rfl⟩
theorem d16_46 : DAt B16 46 (.return_) 1 47 := ⟨by decide +kernel, rfl⟩
def B9 : Bdy := ((⟨"SaturProver", "ensureTableF", "()V"⟩ : MethodName), prog_1_method_24_code, 4, none, ({ frames := 4, cells := 0, slots := 0, locals := 61 } : Room))
theorem d9_0 : DAt B9 0 (.aload_n 0) 1 1 := ⟨by decide +kernel, rfl⟩
theorem d9_1 : DAt B9 1 (.getfield 46) 3 4 := ⟨by decide +kernel, rfl⟩
theorem d9_4 : DAt B9 4 (.ifCond .eq 4) 3 7 := ⟨by decide +kernel, rfl⟩
theorem d9_7 : DAt B9 7 (.return_) 1 8 := ⟨by decide +kernel, rfl⟩
theorem d9_8 : DAt B9 8 (.aload_n 0) 1 9 := ⟨by decide +kernel, rfl⟩
theorem d9_9 : DAt B9 9 (.getfield 33) 3 12 := ⟨by decide +kernel, rfl⟩
theorem d9_12 : DAt B9 12 (.istore_n 1) 1 13 := ⟨by decide +kernel, rfl⟩
theorem d9_13 : DAt B9 13 (.iload_n 1) 1 14 := ⟨by decide +kernel, rfl⟩
theorem d9_14 : DAt B9 14 (.bipush 32) 2 16 := ⟨by decide +kernel, rfl⟩
theorem d9_16 : DAt B9 16 (.if_icmp .le 6) 3 19 := ⟨by decide +kernel, rfl⟩
theorem d9_19 : DAt B9 19 (.bipush 32) 2 21 := ⟨by decide +kernel, rfl⟩
theorem d9_21 : DAt B9 21 (.istore_n 1) 1 22 := ⟨by decide +kernel, rfl⟩
theorem d9_22 : DAt B9 22 (.iconst 0) 1 23 := ⟨by decide +kernel, rfl⟩
theorem d9_23 : DAt B9 23 (.istore_n 2) 1 24 := ⟨by decide +kernel, rfl⟩
theorem d9_24 : DAt B9 24 (.iconst 0) 1 25 := ⟨by decide +kernel, rfl⟩
theorem d9_25 : DAt B9 25 (.istore_n 3) 1 26 := ⟨by decide +kernel, rfl⟩
theorem d9_26 : DAt B9 26 (.iload_n 3) 1 27 := ⟨by decide +kernel, rfl⟩
theorem d9_27 : DAt B9 27 (.iload_n 1) 1 28 := ⟨by decide +kernel, rfl⟩
theorem d9_28 : DAt B9 28 (.if_icmp .ge 21) 3 31 := ⟨by decide +kernel, rfl⟩
theorem d9_31 : DAt B9 31 (.aload_n 0) 1 32 := ⟨by decide +kernel, rfl⟩
theorem d9_32 : DAt B9 32 (.aload_n 0) 1 33 := ⟨by decide +kernel, rfl⟩
theorem d9_33 : DAt B9 33 (.getfield 7) 3 36 := ⟨by decide +kernel, rfl⟩
theorem d9_36 : DAt B9 36 (.iload_n 3) 1 37 := ⟨by decide +kernel, rfl⟩
theorem d9_37 : DAt B9 37 (.iaload) 1 38 := ⟨by decide +kernel, rfl⟩
theorem d9_38 : DAt B9 38 (.iload_n 2) 1 39 := ⟨by decide +kernel, rfl⟩
theorem d9_39 : DAt B9 39 (.invokevirtual 95) 3 42 := ⟨by decide +kernel, rfl⟩
theorem d9_42 : DAt B9 42 (.istore_n 2) 1 43 := ⟨by decide +kernel, rfl⟩
theorem d9_43 : DAt B9 43 (.iinc 3 1) 3 46 := ⟨by decide +kernel, rfl⟩
theorem d9_46 : DAt B9 46 (.goto (-20)) 3 49 := ⟨by decide +kernel, rfl⟩
theorem d9_49 : DAt B9 49 (.aload_n 0) 1 50 := ⟨by decide +kernel, rfl⟩
theorem d9_50 : DAt B9 50 (.iload_n 2) 1 51 := ⟨by decide +kernel, rfl⟩
theorem d9_51 : DAt B9 51 (.invokevirtual 99) 3 54 := ⟨by decide +kernel, rfl⟩
theorem d9_54 : DAt B9 54 (.aload_n 0) 1 55 := ⟨by decide +kernel, rfl⟩
theorem d9_55 : DAt B9 55 (.iconst 1) 1 56 := ⟨by decide +kernel, rfl⟩
theorem d9_56 : DAt B9 56 (.putfield 46) 3 59 := ⟨by decide +kernel, rfl⟩
theorem d9_59 : DAt B9 59 (.return_) 1 60 := ⟨by decide +kernel, rfl⟩
def B17 : Bdy := ((⟨"SaturProver", "loadWorkNegatedF", "()V"⟩ : MethodName), prog_1_method_35_code, 2, none, ({ frames := 0, cells := 0, slots := 0, locals := 0 } : Room))
theorem d17_0 : DAt B17 0 (.iconst 0) 1 1 := ⟨by decide +kernel, rfl⟩
theorem d17_1 : DAt B17 1 (.istore_n 1) 1 2 := ⟨by decide +kernel, rfl⟩
theorem d17_2 : DAt B17 2 (.iload_n 1) 1 3 := ⟨by decide +kernel, rfl⟩
theorem d17_3 : DAt B17 3 (.iconst 4) 1 4 := ⟨by decide +kernel, rfl⟩
theorem d17_4 : DAt B17 4 (.if_icmp .ge 25) 3 7 := ⟨by decide +kernel, rfl⟩
theorem d17_7 : DAt B17 7 (.aload_n 0) 1 8 := ⟨by decide +kernel, rfl⟩
theorem d17_8 : DAt B17 8 (.getfield 26) 3 11 := ⟨by decide +kernel, rfl⟩
theorem d17_11 : DAt B17 11 (.iload_n 1) 1 12 := ⟨by decide +kernel, rfl⟩
theorem d17_12 : DAt B17 12 (.aload_n 0) 1 13 := ⟨by decide +kernel, rfl⟩
theorem d17_13 : DAt B17 13 (.getfield 20) 3 16 := ⟨by decide +kernel, rfl⟩
theorem d17_16 : DAt B17 16 (.iload_n 1) 1 17 := ⟨by decide +kernel, rfl⟩
theorem d17_17 : DAt B17 17 (.laload) 1 18 := ⟨by decide +kernel, rfl⟩
theorem d17_18 : DAt B17 18 (.ldc2_w 116) 3 21 := ⟨by decide +kernel, rfl⟩
theorem d17_21 : DAt B17 21 (.lxor) 1 22 := ⟨by decide +kernel, rfl⟩
theorem d17_22 : DAt B17 22 (.lastore) 1 23 := ⟨by decide +kernel, rfl⟩
theorem d17_23 : DAt B17 23 (.iinc 1 1) 3 26 := ⟨by decide +kernel, rfl⟩
theorem d17_26 : DAt B17 26 (.goto (-24)) 3 29 := ⟨by decide +kernel, rfl⟩
theorem d17_29 : DAt B17 29 (.return_) 1 30 := ⟨by decide +kernel, rfl⟩
def B19 : Bdy := ((⟨"SaturProver", "lowestBit", "(J)I"⟩ : MethodName), prog_1_method_38_code, 10, (some .int), ({ frames := 0, cells := 0, slots := 0, locals := 0 } : Room))
theorem d19_0 : DAt B19 0 (.lload_n 1) 1 1 := ⟨by decide +kernel, rfl⟩
theorem d19_1 : DAt B19 1 (.lconst 0) 1 2 := ⟨by decide +kernel, rfl⟩
theorem d19_2 : DAt B19 2 (.lcmp) 1 3 := ⟨by decide +kernel, rfl⟩
theorem d19_3 : DAt B19 3 (.ifCond .ne 5) 3 6 := ⟨by decide +kernel, rfl⟩
theorem d19_6 : DAt B19 6 (.iconst (-1)) 1 7 := ⟨by decide +kernel, rfl⟩
theorem d19_7 : DAt B19 7 (.ireturn) 1 8 := ⟨by decide +kernel, rfl⟩
theorem d19_8 : DAt B19 8 (.lload_n 1) 1 9 := ⟨by decide +kernel, rfl⟩
theorem d19_9 : DAt B19 9 (.lload_n 1) 1 10 := ⟨by decide +kernel, rfl⟩
theorem d19_10 : DAt B19 10 (.lneg) 1 11 := ⟨by decide +kernel, rfl⟩
theorem d19_11 : DAt B19 11 (.land) 1 12 := ⟨by decide +kernel, rfl⟩
theorem d19_12 : DAt B19 12 (.lstore_n 3) 1 13 := ⟨by decide +kernel, rfl⟩
theorem d19_13 : DAt B19 13 (.iconst 0) 1 14 := ⟨by decide +kernel, rfl⟩
theorem d19_14 : DAt B19 14 (.istore 5) 2 16 := ⟨by decide +kernel, rfl⟩
theorem d19_16 : DAt B19 16 (.bipush 32) 2 18 := ⟨by decide +kernel, rfl⟩
theorem d19_18 : DAt B19 18 (.istore 6) 2 20 := ⟨by decide +kernel, rfl⟩
theorem d19_20 : DAt B19 20 (.iconst 0) 1 21 := ⟨by decide +kernel, rfl⟩
theorem d19_21 : DAt B19 21 (.istore 7) 2 23 := ⟨by decide +kernel, rfl⟩
theorem d19_23 : DAt B19 23 (.iload 7) 2 25 := ⟨by decide +kernel, rfl⟩
theorem d19_25 : DAt B19 25 (.bipush 6) 2 27 := ⟨by decide +kernel, rfl⟩
theorem d19_27 : DAt B19 27 (.if_icmp .ge 57) 3 30 := ⟨by decide +kernel, rfl⟩
theorem d19_30 : DAt B19 30 (.iload 6) 2 32 := ⟨by decide +kernel, rfl⟩
theorem d19_32 : DAt B19 32 (.bipush 64) 2 34 := ⟨by decide +kernel, rfl⟩
theorem d19_34 : DAt B19 34 (.if_icmp .lt 9) 3 37 := ⟨by decide +kernel, rfl⟩
theorem d19_37 : DAt B19 37 (.ldc2_w 116) 3 40 := ⟨by decide +kernel, rfl⟩
theorem d19_40 : DAt B19 40 (.goto 9) 3 43 := ⟨by decide +kernel, rfl⟩
theorem d19_43 : DAt B19 43 (.lconst 1) 1 44 := ⟨by decide +kernel, rfl⟩
theorem d19_44 : DAt B19 44 (.iload 6) 2 46 := ⟨by decide +kernel, rfl⟩
theorem d19_46 : DAt B19 46 (.lshl) 1 47 := ⟨by decide +kernel, rfl⟩
theorem d19_47 : DAt B19 47 (.lconst 1) 1 48 := ⟨by decide +kernel, rfl⟩
theorem d19_48 : DAt B19 48 (.lsub) 1 49 := ⟨by decide +kernel, rfl⟩
theorem d19_49 : DAt B19 49 (.lstore 8) 2 51 := ⟨by decide +kernel, rfl⟩
theorem d19_51 : DAt B19 51 (.lload_n 3) 1 52 := ⟨by decide +kernel, rfl⟩
theorem d19_52 : DAt B19 52 (.lload 8) 2 54 := ⟨by decide +kernel, rfl⟩
theorem d19_54 : DAt B19 54 (.land) 1 55 := ⟨by decide +kernel, rfl⟩
theorem d19_55 : DAt B19 55 (.lconst 0) 1 56 := ⟨by decide +kernel, rfl⟩
theorem d19_56 : DAt B19 56 (.lcmp) 1 57 := ⟨by decide +kernel, rfl⟩
theorem d19_57 : DAt B19 57 (.ifCond .ne 15) 3 60 := ⟨by decide +kernel, rfl⟩
theorem d19_60 : DAt B19 60 (.iload 5) 2 62 := ⟨by decide +kernel, rfl⟩
theorem d19_62 : DAt B19 62 (.iload 6) 2 64 := ⟨by decide +kernel, rfl⟩
theorem d19_64 : DAt B19 64 (.iadd) 1 65 := ⟨by decide +kernel, rfl⟩
theorem d19_65 : DAt B19 65 (.istore 5) 2 67 := ⟨by decide +kernel, rfl⟩
theorem d19_67 : DAt B19 67 (.lload_n 3) 1 68 := ⟨by decide +kernel, rfl⟩
theorem d19_68 : DAt B19 68 (.iload 6) 2 70 := ⟨by decide +kernel, rfl⟩
theorem d19_70 : DAt B19 70 (.lushr) 1 71 := ⟨by decide +kernel, rfl⟩
theorem d19_71 : DAt B19 71 (.lstore_n 3) 1 72 := ⟨by decide +kernel, rfl⟩
theorem d19_72 : DAt B19 72 (.iload 6) 2 74 := ⟨by decide +kernel, rfl⟩
theorem d19_74 : DAt B19 74 (.iconst 1) 1 75 := ⟨by decide +kernel, rfl⟩
theorem d19_75 : DAt B19 75 (.ishr) 1 76 := ⟨by decide +kernel, rfl⟩
theorem d19_76 : DAt B19 76 (.istore 6) 2 78 := ⟨by decide +kernel, rfl⟩
theorem d19_78 : DAt B19 78 (.iinc 7 1) 3 81 := ⟨by decide +kernel, rfl⟩
theorem d19_81 : DAt B19 81 (.goto (-58)) 3 84 := ⟨by decide +kernel, rfl⟩
theorem d19_84 : DAt B19 84 (.iload 5) 2 86 := ⟨by decide +kernel, rfl⟩
theorem d19_86 : DAt B19 86 (.ireturn) 1 87 := ⟨by decide +kernel, rfl⟩
def B18 : Bdy := ((⟨"SaturProver", "firstSetInWork", "()I"⟩ : MethodName), prog_1_method_37_code, 4, (some .int), ({ frames := 1, cells := 0, slots := 0, locals := 22 } : Room))
theorem d18_0 : DAt B18 0 (.iconst 0) 1 1 := ⟨by decide +kernel, rfl⟩
theorem d18_1 : DAt B18 1 (.istore_n 1) 1 2 := ⟨by decide +kernel, rfl⟩
theorem d18_2 : DAt B18 2 (.iload_n 1) 1 3 := ⟨by decide +kernel, rfl⟩
theorem d18_3 : DAt B18 3 (.iconst 4) 1 4 := ⟨by decide +kernel, rfl⟩
theorem d18_4 : DAt B18 4 (.if_icmp .ge 33) 3 7 := ⟨by decide +kernel, rfl⟩
theorem d18_7 : DAt B18 7 (.aload_n 0) 1 8 := ⟨by decide +kernel, rfl⟩
theorem d18_8 : DAt B18 8 (.getfield 26) 3 11 := ⟨by decide +kernel, rfl⟩
theorem d18_11 : DAt B18 11 (.iload_n 1) 1 12 := ⟨by decide +kernel, rfl⟩
theorem d18_12 : DAt B18 12 (.laload) 1 13 := ⟨by decide +kernel, rfl⟩
theorem d18_13 : DAt B18 13 (.lstore_n 2) 1 14 := ⟨by decide +kernel, rfl⟩
theorem d18_14 : DAt B18 14 (.lload_n 2) 1 15 := ⟨by decide +kernel, rfl⟩
theorem d18_15 : DAt B18 15 (.lconst 0) 1 16 := ⟨by decide +kernel, rfl⟩
theorem d18_16 : DAt B18 16 (.lcmp) 1 17 := ⟨by decide +kernel, rfl⟩
theorem d18_17 : DAt B18 17 (.ifCond .eq 14) 3 20 := ⟨by decide +kernel, rfl⟩
theorem d18_20 : DAt B18 20 (.iload_n 1) 1 21 := ⟨by decide +kernel, rfl⟩
theorem d18_21 : DAt B18 21 (.bipush 64) 2 23 := ⟨by decide +kernel, rfl⟩
theorem d18_23 : DAt B18 23 (.imul) 1 24 := ⟨by decide +kernel, rfl⟩
theorem d18_24 : DAt B18 24 (.aload_n 0) 1 25 := ⟨by decide +kernel, rfl⟩
theorem d18_25 : DAt B18 25 (.lload_n 2) 1 26 := ⟨by decide +kernel, rfl⟩
theorem d18_26 : DAt B18 26 (.invokevirtual 137) 3 29 := ⟨by decide +kernel, rfl⟩
theorem d18_29 : DAt B18 29 (.iadd) 1 30 := ⟨by decide +kernel, rfl⟩
theorem d18_30 : DAt B18 30 (.ireturn) 1 31 := ⟨by decide +kernel, rfl⟩
theorem d18_31 : DAt B18 31 (.iinc 1 1) 3 34 := ⟨by decide +kernel, rfl⟩
theorem d18_34 : DAt B18 34 (.goto (-32)) 3 37 := ⟨by decide +kernel, rfl⟩
theorem d18_37 : DAt B18 37 (.iconst (-1)) 1 38 := ⟨by decide +kernel, rfl⟩
theorem d18_38 : DAt B18 38 (.ireturn) 1 39 := ⟨by decide +kernel, rfl⟩
def B20 : Bdy := ((⟨"SaturProver", "setResult", "(II)V"⟩ : MethodName), prog_1_method_20_code, 3, none, ({ frames := 0, cells := 0, slots := 0, locals := 0 } : Room))
theorem d20_0 : DAt B20 0 (.aload_n 0) 1 1 := ⟨by decide +kernel, rfl⟩
theorem d20_1 : DAt B20 1 (.iload_n 1) 1 2 := ⟨by decide +kernel, rfl⟩
theorem d20_2 : DAt B20 2 (.putfield 89) 3 5 := ⟨by decide +kernel, rfl⟩
theorem d20_5 : DAt B20 5 (.aload_n 0) 1 6 := ⟨by decide +kernel, rfl⟩
theorem d20_6 : DAt B20 6 (.iload_n 2) 1 7 := ⟨by decide +kernel, rfl⟩
theorem d20_7 : DAt B20 7 (.putfield 92) 3 10 := ⟨by decide +kernel, rfl⟩
theorem d20_10 : DAt B20 10 (.return_) 1 11 := ⟨by decide +kernel, rfl⟩
def B7 : Bdy := ((⟨"SaturProver", "prove", "()I"⟩ : MethodName), prog_1_method_13_code, 2, (some .int), ({ frames := 5, cells := 0, slots := 0, locals := 76 } : Room))
theorem d7_0 : DAt B7 0 (.aload_n 0) 1 1 := ⟨by decide +kernel, rfl⟩
theorem d7_1 : DAt B7 1 (.invokevirtual 56) 3 4 := ⟨by decide +kernel, rfl⟩
theorem d7_4 : DAt B7 4 (.ifCond .ne 6) 3 7 := ⟨by decide +kernel, rfl⟩
theorem d7_7 : DAt B7 7 (.bipush (-5)) 2 9 := ⟨by decide +kernel, rfl⟩
theorem d7_9 : DAt B7 9 (.ireturn) 1 10 := ⟨by decide +kernel, rfl⟩
theorem d7_10 : DAt B7 10 (.aload_n 0) 1 11 := ⟨by decide +kernel, rfl⟩
theorem d7_11 : DAt B7 11 (.invokevirtual 63) 3 14 := ⟨by decide +kernel, rfl⟩
theorem d7_14 : DAt B7 14 (.aload_n 0) 1 15 := ⟨by decide +kernel, rfl⟩
theorem d7_15 : DAt B7 15 (.invokevirtual 72) 3 18 := ⟨by decide +kernel, rfl⟩
theorem d7_18 : DAt B7 18 (.aload_n 0) 1 19 := ⟨by decide +kernel, rfl⟩
theorem d7_19 : DAt B7 19 (.invokevirtual 75) 3 22 := ⟨by decide +kernel, rfl⟩
theorem d7_22 : DAt B7 22 (.istore_n 1) 1 23 := ⟨by decide +kernel, rfl⟩
theorem d7_23 : DAt B7 23 (.iload_n 1) 1 24 := ⟨by decide +kernel, rfl⟩
theorem d7_24 : DAt B7 24 (.ifCond .ge 11) 3 27 := ⟨by decide +kernel, rfl⟩
theorem d7_27 : DAt B7 27 (.aload_n 0) 1 28 := ⟨by decide +kernel, rfl⟩
theorem d7_28 : DAt B7 28 (.iconst 1) 1 29 := ⟨by decide +kernel, rfl⟩
theorem d7_29 : DAt B7 29 (.iconst (-1)) 1 30 := ⟨by decide +kernel, rfl⟩
theorem d7_30 : DAt B7 30 (.invokevirtual 79) 3 33 := ⟨by decide +kernel, rfl⟩
theorem d7_33 : DAt B7 33 (.iconst 1) 1 34 := ⟨by decide +kernel, rfl⟩
theorem d7_34 : DAt B7 34 (.ireturn) 1 35 := ⟨by decide +kernel, rfl⟩
theorem d7_35 : DAt B7 35 (.aload_n 0) 1 36 := ⟨by decide +kernel, rfl⟩
theorem d7_36 : DAt B7 36 (.iconst 2) 1 37 := ⟨by decide +kernel, rfl⟩
theorem d7_37 : DAt B7 37 (.iload_n 1) 1 38 := ⟨by decide +kernel, rfl⟩
theorem d7_38 : DAt B7 38 (.invokevirtual 79) 3 41 := ⟨by decide +kernel, rfl⟩
theorem d7_41 : DAt B7 41 (.iconst 2) 1 42 := ⟨by decide +kernel, rfl⟩
theorem d7_42 : DAt B7 42 (.ireturn) 1 43 := ⟨by decide +kernel, rfl⟩
def B21 : Bdy := ((⟨"SaturProver", "lastResult", "()I"⟩ : MethodName), prog_1_method_16_code, 1, (some .int), ({ frames := 0, cells := 0, slots := 0, locals := 0 } : Room))
theorem d21_0 : DAt B21 0 (.aload_n 0) 1 1 := ⟨by decide +kernel, rfl⟩
theorem d21_1 : DAt B21 1 (.getfield 89) 3 4 := ⟨by decide +kernel, rfl⟩
theorem d21_4 : DAt B21 4 (.ireturn) 1 5 := ⟨by decide +kernel, rfl⟩
def B22 : Bdy := ((⟨"SaturProver", "witness", "()I"⟩ : MethodName), prog_1_method_17_code, 1, (some .int), ({ frames := 0, cells := 0, slots := 0, locals := 0 } : Room))
theorem d22_0 : DAt B22 0 (.aload_n 0) 1 1 := ⟨by decide +kernel, rfl⟩
theorem d22_1 : DAt B22 1 (.getfield 92) 3 4 := ⟨by decide +kernel, rfl⟩
theorem d22_4 : DAt B22 4 (.ireturn) 1 5 := ⟨by decide +kernel, rfl⟩
def B24 : Bdy := ((⟨"SaturProver", "loadWorkF", "()V"⟩ : MethodName), prog_1_method_34_code, 2, none, ({ frames := 0, cells := 0, slots := 0, locals := 0 } : Room))
theorem d24_0 : DAt B24 0 (.iconst 0) 1 1 := ⟨by decide +kernel, rfl⟩
theorem d24_1 : DAt B24 1 (.istore_n 1) 1 2 := ⟨by decide +kernel, rfl⟩
theorem d24_2 : DAt B24 2 (.iload_n 1) 1 3 := ⟨by decide +kernel, rfl⟩
theorem d24_3 : DAt B24 3 (.iconst 4) 1 4 := ⟨by decide +kernel, rfl⟩
theorem d24_4 : DAt B24 4 (.if_icmp .ge 21) 3 7 := ⟨by decide +kernel, rfl⟩
theorem d24_7 : DAt B24 7 (.aload_n 0) 1 8 := ⟨by decide +kernel, rfl⟩
theorem d24_8 : DAt B24 8 (.getfield 26) 3 11 := ⟨by decide +kernel, rfl⟩
theorem d24_11 : DAt B24 11 (.iload_n 1) 1 12 := ⟨by decide +kernel, rfl⟩
theorem d24_12 : DAt B24 12 (.aload_n 0) 1 13 := ⟨by decide +kernel, rfl⟩
theorem d24_13 : DAt B24 13 (.getfield 20) 3 16 := ⟨by decide +kernel, rfl⟩
theorem d24_16 : DAt B24 16 (.iload_n 1) 1 17 := ⟨by decide +kernel, rfl⟩
theorem d24_17 : DAt B24 17 (.laload) 1 18 := ⟨by decide +kernel, rfl⟩
theorem d24_18 : DAt B24 18 (.lastore) 1 19 := ⟨by decide +kernel, rfl⟩
theorem d24_19 : DAt B24 19 (.iinc 1 1) 3 22 := ⟨by decide +kernel, rfl⟩
theorem d24_22 : DAt B24 22 (.goto (-20)) 3 25 := ⟨by decide +kernel, rfl⟩
theorem d24_25 : DAt B24 25 (.return_) 1 26 := ⟨by decide +kernel, rfl⟩
def B23 : Bdy := ((⟨"SaturProver", "satisfy", "()I"⟩ : MethodName), prog_1_method_14_code, 2, (some .int), ({ frames := 5, cells := 0, slots := 0, locals := 76 } : Room))
theorem d23_0 : DAt B23 0 (.aload_n 0) 1 1 := ⟨by decide +kernel, rfl⟩
theorem d23_1 : DAt B23 1 (.invokevirtual 56) 3 4 := ⟨by decide +kernel, rfl⟩
theorem d23_4 : DAt B23 4 (.ifCond .ne 6) 3 7 := ⟨by decide +kernel, rfl⟩
theorem d23_7 : DAt B23 7 (.bipush (-5)) 2 9 := ⟨by decide +kernel, rfl⟩
theorem d23_9 : DAt B23 9 (.ireturn) 1 10 := ⟨by decide +kernel, rfl⟩
theorem d23_10 : DAt B23 10 (.aload_n 0) 1 11 := ⟨by decide +kernel, rfl⟩
theorem d23_11 : DAt B23 11 (.invokevirtual 63) 3 14 := ⟨by decide +kernel, rfl⟩
theorem d23_14 : DAt B23 14 (.aload_n 0) 1 15 := ⟨by decide +kernel, rfl⟩
theorem d23_15 : DAt B23 15 (.invokevirtual 83) 3 18 := ⟨by decide +kernel, rfl⟩
theorem d23_18 : DAt B23 18 (.aload_n 0) 1 19 := ⟨by decide +kernel, rfl⟩
theorem d23_19 : DAt B23 19 (.invokevirtual 75) 3 22 := ⟨by decide +kernel, rfl⟩
theorem d23_22 : DAt B23 22 (.istore_n 1) 1 23 := ⟨by decide +kernel, rfl⟩
theorem d23_23 : DAt B23 23 (.iload_n 1) 1 24 := ⟨by decide +kernel, rfl⟩
theorem d23_24 : DAt B23 24 (.ifCond .ge 11) 3 27 := ⟨by decide +kernel, rfl⟩
theorem d23_27 : DAt B23 27 (.aload_n 0) 1 28 := ⟨by decide +kernel, rfl⟩
theorem d23_28 : DAt B23 28 (.iconst 4) 1 29 := ⟨by decide +kernel, rfl⟩
theorem d23_29 : DAt B23 29 (.iconst (-1)) 1 30 := ⟨by decide +kernel, rfl⟩
theorem d23_30 : DAt B23 30 (.invokevirtual 79) 3 33 := ⟨by decide +kernel, rfl⟩
theorem d23_33 : DAt B23 33 (.iconst 4) 1 34 := ⟨by decide +kernel, rfl⟩
theorem d23_34 : DAt B23 34 (.ireturn) 1 35 := ⟨by decide +kernel, rfl⟩
theorem d23_35 : DAt B23 35 (.aload_n 0) 1 36 := ⟨by decide +kernel, rfl⟩
theorem d23_36 : DAt B23 36 (.iconst 3) 1 37 := ⟨by decide +kernel, rfl⟩
theorem d23_37 : DAt B23 37 (.iload_n 1) 1 38 := ⟨by decide +kernel, rfl⟩
theorem d23_38 : DAt B23 38 (.invokevirtual 79) 3 41 := ⟨by decide +kernel, rfl⟩
theorem d23_41 : DAt B23 41 (.iconst 3) 1 42 := ⟨by decide +kernel, rfl⟩
theorem d23_42 : DAt B23 42 (.ireturn) 1 43 := ⟨by decide +kernel, rfl⟩
def B26 : Bdy := ((⟨"SaturProver", "copyTokensToSaved", "()V"⟩ : MethodName), prog_1_method_22_code, 3, none, ({ frames := 0, cells := 0, slots := 0, locals := 0 } : Room))
theorem d26_0 : DAt B26 0 (.aload_n 0) 1 1 := ⟨by decide +kernel, rfl⟩
theorem d26_1 : DAt B26 1 (.getfield 33) 3 4 := ⟨by decide +kernel, rfl⟩
theorem d26_4 : DAt B26 4 (.istore_n 1) 1 5 := ⟨by decide +kernel, rfl⟩
theorem d26_5 : DAt B26 5 (.iload_n 1) 1 6 := ⟨by decide +kernel, rfl⟩
theorem d26_6 : DAt B26 6 (.bipush 32) 2 8 := ⟨by decide +kernel, rfl⟩
theorem d26_8 : DAt B26 8 (.if_icmp .le 6) 3 11 := ⟨by decide +kernel, rfl⟩
theorem d26_11 : DAt B26 11 (.bipush 32) 2 13 := ⟨by decide +kernel, rfl⟩
theorem d26_13 : DAt B26 13 (.istore_n 1) 1 14 := ⟨by decide +kernel, rfl⟩
theorem d26_14 : DAt B26 14 (.iconst 0) 1 15 := ⟨by decide +kernel, rfl⟩
theorem d26_15 : DAt B26 15 (.istore_n 2) 1 16 := ⟨by decide +kernel, rfl⟩
theorem d26_16 : DAt B26 16 (.iload_n 2) 1 17 := ⟨by decide +kernel, rfl⟩
theorem d26_17 : DAt B26 17 (.iload_n 1) 1 18 := ⟨by decide +kernel, rfl⟩
theorem d26_18 : DAt B26 18 (.if_icmp .ge 21) 3 21 := ⟨by decide +kernel, rfl⟩
theorem d26_21 : DAt B26 21 (.aload_n 0) 1 22 := ⟨by decide +kernel, rfl⟩
theorem d26_22 : DAt B26 22 (.getfield 13) 3 25 := ⟨by decide +kernel, rfl⟩
theorem d26_25 : DAt B26 25 (.iload_n 2) 1 26 := ⟨by decide +kernel, rfl⟩
theorem d26_26 : DAt B26 26 (.aload_n 0) 1 27 := ⟨by decide +kernel, rfl⟩
theorem d26_27 : DAt B26 27 (.getfield 7) 3 30 := ⟨by decide +kernel, rfl⟩
theorem d26_30 : DAt B26 30 (.iload_n 2) 1 31 := ⟨by decide +kernel, rfl⟩
theorem d26_31 : DAt B26 31 (.iaload) 1 32 := ⟨by decide +kernel, rfl⟩
theorem d26_32 : DAt B26 32 (.iastore) 1 33 := ⟨by decide +kernel, rfl⟩
theorem d26_33 : DAt B26 33 (.iinc 2 1) 3 36 := ⟨by decide +kernel, rfl⟩
theorem d26_36 : DAt B26 36 (.goto (-20)) 3 39 := ⟨by decide +kernel, rfl⟩
theorem d26_39 : DAt B26 39 (.aload_n 0) 1 40 := ⟨by decide +kernel, rfl⟩
theorem d26_40 : DAt B26 40 (.iload_n 1) 1 41 := ⟨by decide +kernel, rfl⟩
theorem d26_41 : DAt B26 41 (.putfield 39) 3 44 := ⟨by decide +kernel, rfl⟩
theorem d26_44 : DAt B26 44 (.return_) 1 45 := ⟨by decide +kernel, rfl⟩
def B27 : Bdy := ((⟨"SaturProver", "copyTableFToS", "()V"⟩ : MethodName), prog_1_method_23_code, 2, none, ({ frames := 0, cells := 0, slots := 0, locals := 0 } : Room))
theorem d27_0 : DAt B27 0 (.iconst 0) 1 1 := ⟨by decide +kernel, rfl⟩
theorem d27_1 : DAt B27 1 (.istore_n 1) 1 2 := ⟨by decide +kernel, rfl⟩
theorem d27_2 : DAt B27 2 (.iload_n 1) 1 3 := ⟨by decide +kernel, rfl⟩
theorem d27_3 : DAt B27 3 (.iconst 4) 1 4 := ⟨by decide +kernel, rfl⟩
theorem d27_4 : DAt B27 4 (.if_icmp .ge 21) 3 7 := ⟨by decide +kernel, rfl⟩
theorem d27_7 : DAt B27 7 (.aload_n 0) 1 8 := ⟨by decide +kernel, rfl⟩
theorem d27_8 : DAt B27 8 (.getfield 23) 3 11 := ⟨by decide +kernel, rfl⟩
theorem d27_11 : DAt B27 11 (.iload_n 1) 1 12 := ⟨by decide +kernel, rfl⟩
theorem d27_12 : DAt B27 12 (.aload_n 0) 1 13 := ⟨by decide +kernel, rfl⟩
theorem d27_13 : DAt B27 13 (.getfield 20) 3 16 := ⟨by decide +kernel, rfl⟩
theorem d27_16 : DAt B27 16 (.iload_n 1) 1 17 := ⟨by decide +kernel, rfl⟩
theorem d27_17 : DAt B27 17 (.laload) 1 18 := ⟨by decide +kernel, rfl⟩
theorem d27_18 : DAt B27 18 (.lastore) 1 19 := ⟨by decide +kernel, rfl⟩
theorem d27_19 : DAt B27 19 (.iinc 1 1) 3 22 := ⟨by decide +kernel, rfl⟩
theorem d27_22 : DAt B27 22 (.goto (-20)) 3 25 := ⟨by decide +kernel, rfl⟩
theorem d27_25 : DAt B27 25 (.return_) 1 26 := ⟨by decide +kernel, rfl⟩
def B25 : Bdy := ((⟨"SaturProver", "save", "()I"⟩ : MethodName), prog_1_method_5_code, 1, (some .int), ({ frames := 5, cells := 0, slots := 0, locals := 76 } : Room))
theorem d25_0 : DAt B25 0 (.aload_n 0) 1 1 := ⟨by decide +kernel, rfl⟩
theorem d25_1 : DAt B25 1 (.invokevirtual 56) 3 4 := ⟨by decide +kernel, rfl⟩
theorem d25_4 : DAt B25 4 (.ifCond .ne 6) 3 7 := ⟨by decide +kernel, rfl⟩
theorem d25_7 : DAt B25 7 (.bipush (-5)) 2 9 := ⟨by decide +kernel, rfl⟩
theorem d25_9 : DAt B25 9 (.ireturn) 1 10 := ⟨by decide +kernel, rfl⟩
theorem d25_10 : DAt B25 10 (.aload_n 0) 1 11 := ⟨by decide +kernel, rfl⟩
theorem d25_11 : DAt B25 11 (.invokevirtual 60) 3 14 := ⟨by decide +kernel, rfl⟩
theorem d25_14 : DAt B25 14 (.aload_n 0) 1 15 := ⟨by decide +kernel, rfl⟩
theorem d25_15 : DAt B25 15 (.invokevirtual 63) 3 18 := ⟨by decide +kernel, rfl⟩
theorem d25_18 : DAt B25 18 (.aload_n 0) 1 19 := ⟨by decide +kernel, rfl⟩
theorem d25_19 : DAt B25 19 (.invokevirtual 66) 3 22 := ⟨by decide +kernel, rfl⟩
theorem d25_22 : DAt B25 22 (.aload_n 0) 1 23 := ⟨by decide +kernel, rfl⟩
theorem d25_23 : DAt B25 23 (.iconst 1) 1 24 := ⟨by decide +kernel, rfl⟩
theorem d25_24 : DAt B25 24 (.putfield 42) 3 27 := ⟨by decide +kernel, rfl⟩
theorem d25_27 : DAt B25 27 (.aload_n 0) 1 28 := ⟨by decide +kernel, rfl⟩
theorem d25_28 : DAt B25 28 (.invokevirtual 49) 3 31 := ⟨by decide +kernel, rfl⟩
theorem d25_31 : DAt B25 31 (.iconst 0) 1 32 := ⟨by decide +kernel, rfl⟩
theorem d25_32 : DAt B25 32 (.ireturn) 1 33 := ⟨by decide +kernel, rfl⟩
def B28 : Bdy := ((⟨"SaturProver", "savedLength", "()I"⟩ : MethodName), prog_1_method_7_code, 1, (some .int), ({ frames := 0, cells := 0, slots := 0, locals := 0 } : Room))
theorem d28_0 : DAt B28 0 (.aload_n 0) 1 1 := ⟨by decide +kernel, rfl⟩
theorem d28_1 : DAt B28 1 (.getfield 42) 3 4 := ⟨by decide +kernel, rfl⟩
theorem d28_4 : DAt B28 4 (.ifCond .ne 5) 3 7 := ⟨by decide +kernel, rfl⟩
theorem d28_7 : DAt B28 7 (.iconst 0) 1 8 := ⟨by decide +kernel, rfl⟩
theorem d28_8 : DAt B28 8 (.ireturn) 1 9 := ⟨by decide +kernel, rfl⟩
theorem d28_9 : DAt B28 9 (.aload_n 0) 1 10 := ⟨by decide +kernel, rfl⟩
theorem d28_10 : DAt B28 10 (.getfield 39) 3 13 := ⟨by decide +kernel, rfl⟩
theorem d28_13 : DAt B28 13 (.ireturn) 1 14 := ⟨by decide +kernel, rfl⟩
def B29 : Bdy := ((⟨"SaturProver", "clear", "()V"⟩ : MethodName), prog_1_method_4_code, 1, none, ({ frames := 1, cells := 0, slots := 0, locals := 12 } : Room))
theorem d29_0 : DAt B29 0 (.aload_n 0) 1 1 := ⟨by decide +kernel, rfl⟩
theorem d29_1 : DAt B29 1 (.iconst 0) 1 2 := ⟨by decide +kernel, rfl⟩
theorem d29_2 : DAt B29 2 (.putfield 33) 3 5 := ⟨by decide +kernel, rfl⟩
theorem d29_5 : DAt B29 5 (.aload_n 0) 1 6 := ⟨by decide +kernel, rfl⟩
theorem d29_6 : DAt B29 6 (.iconst 0) 1 7 := ⟨by decide +kernel, rfl⟩
theorem d29_7 : DAt B29 7 (.putfield 36) 3 10 := ⟨by decide +kernel, rfl⟩
theorem d29_10 : DAt B29 10 (.aload_n 0) 1 11 := ⟨by decide +kernel, rfl⟩
theorem d29_11 : DAt B29 11 (.iconst 0) 1 12 := ⟨by decide +kernel, rfl⟩
theorem d29_12 : DAt B29 12 (.putfield 46) 3 15 := ⟨by decide +kernel, rfl⟩
theorem d29_15 : DAt B29 15 (.aload_n 0) 1 16 := ⟨by decide +kernel, rfl⟩
theorem d29_16 : DAt B29 16 (.invokevirtual 49) 3 19 := ⟨by decide +kernel, rfl⟩
theorem d29_19 : DAt B29 19 (.return_) 1 20 := ⟨by decide +kernel, rfl⟩
def B31 : Bdy := ((⟨"SaturProver", "loadWorkDifference", "()V"⟩ : MethodName), prog_1_method_36_code, 2, none, ({ frames := 0, cells := 0, slots := 0, locals := 0 } : Room))
theorem d31_0 : DAt B31 0 (.iconst 0) 1 1 := ⟨by decide +kernel, rfl⟩
theorem d31_1 : DAt B31 1 (.istore_n 1) 1 2 := ⟨by decide +kernel, rfl⟩
theorem d31_2 : DAt B31 2 (.iload_n 1) 1 3 := ⟨by decide +kernel, rfl⟩
theorem d31_3 : DAt B31 3 (.iconst 4) 1 4 := ⟨by decide +kernel, rfl⟩
theorem d31_4 : DAt B31 4 (.if_icmp .ge 28) 3 7 := ⟨by decide +kernel, rfl⟩
theorem d31_7 : DAt B31 7 (.aload_n 0) 1 8 := ⟨by decide +kernel, rfl⟩
theorem d31_8 : DAt B31 8 (.getfield 26) 3 11 := ⟨by decide +kernel, rfl⟩
theorem d31_11 : DAt B31 11 (.iload_n 1) 1 12 := ⟨by decide +kernel, rfl⟩
theorem d31_12 : DAt B31 12 (.aload_n 0) 1 13 := ⟨by decide +kernel, rfl⟩
theorem d31_13 : DAt B31 13 (.getfield 20) 3 16 := ⟨by decide +kernel, rfl⟩
theorem d31_16 : DAt B31 16 (.iload_n 1) 1 17 := ⟨by decide +kernel, rfl⟩
theorem d31_17 : DAt B31 17 (.laload) 1 18 := ⟨by decide +kernel, rfl⟩
theorem d31_18 : DAt B31 18 (.aload_n 0) 1 19 := ⟨by decide +kernel, rfl⟩
theorem d31_19 : DAt B31 19 (.getfield 23) 3 22 := ⟨by decide +kernel, rfl⟩
theorem d31_22 : DAt B31 22 (.iload_n 1) 1 23 := ⟨by decide +kernel, rfl⟩
theorem d31_23 : DAt B31 23 (.laload) 1 24 := ⟨by decide +kernel, rfl⟩
theorem d31_24 : DAt B31 24 (.lxor) 1 25 := ⟨by decide +kernel, rfl⟩
theorem d31_25 : DAt B31 25 (.lastore) 1 26 := ⟨by decide +kernel, rfl⟩
theorem d31_26 : DAt B31 26 (.iinc 1 1) 3 29 := ⟨by decide +kernel, rfl⟩
theorem d31_29 : DAt B31 29 (.goto (-27)) 3 32 := ⟨by decide +kernel, rfl⟩
theorem d31_32 : DAt B31 32 (.return_) 1 33 := ⟨by decide +kernel, rfl⟩
def B30 : Bdy := ((⟨"SaturProver", "equivalent", "()I"⟩ : MethodName), prog_1_method_15_code, 2, (some .int), ({ frames := 5, cells := 0, slots := 0, locals := 76 } : Room))
theorem d30_0 : DAt B30 0 (.aload_n 0) 1 1 := ⟨by decide +kernel, rfl⟩
theorem d30_1 : DAt B30 1 (.invokevirtual 56) 3 4 := ⟨by decide +kernel, rfl⟩
theorem d30_4 : DAt B30 4 (.ifCond .ne 6) 3 7 := ⟨by decide +kernel, rfl⟩
theorem d30_7 : DAt B30 7 (.bipush (-5)) 2 9 := ⟨by decide +kernel, rfl⟩
theorem d30_9 : DAt B30 9 (.ireturn) 1 10 := ⟨by decide +kernel, rfl⟩
theorem d30_10 : DAt B30 10 (.aload_n 0) 1 11 := ⟨by decide +kernel, rfl⟩
theorem d30_11 : DAt B30 11 (.getfield 42) 3 14 := ⟨by decide +kernel, rfl⟩
theorem d30_14 : DAt B30 14 (.ifCond .ne 6) 3 17 := ⟨by decide +kernel, rfl⟩
theorem d30_17 : DAt B30 17 (.bipush (-6)) 2 19 := ⟨by decide +kernel, rfl⟩
theorem d30_19 : DAt B30 19 (.ireturn) 1 20 := ⟨by decide +kernel, rfl⟩
theorem d30_20 : DAt B30 20 (.aload_n 0) 1 21 := ⟨by decide +kernel, rfl⟩
theorem d30_21 : DAt B30 21 (.invokevirtual 63) 3 24 := ⟨by decide +kernel, rfl⟩
theorem d30_24 : DAt B30 24 (.aload_n 0) 1 25 := ⟨by decide +kernel, rfl⟩
theorem d30_25 : DAt B30 25 (.invokevirtual 86) 3 28 := ⟨by decide +kernel, rfl⟩
theorem d30_28 : DAt B30 28 (.aload_n 0) 1 29 := ⟨by decide +kernel, rfl⟩
theorem d30_29 : DAt B30 29 (.invokevirtual 75) 3 32 := ⟨by decide +kernel, rfl⟩
theorem d30_32 : DAt B30 32 (.istore_n 1) 1 33 := ⟨by decide +kernel, rfl⟩
theorem d30_33 : DAt B30 33 (.iload_n 1) 1 34 := ⟨by decide +kernel, rfl⟩
theorem d30_34 : DAt B30 34 (.ifCond .ge 11) 3 37 := ⟨by decide +kernel, rfl⟩
theorem d30_37 : DAt B30 37 (.aload_n 0) 1 38 := ⟨by decide +kernel, rfl⟩
theorem d30_38 : DAt B30 38 (.iconst 5) 1 39 := ⟨by decide +kernel, rfl⟩
theorem d30_39 : DAt B30 39 (.iconst (-1)) 1 40 := ⟨by decide +kernel, rfl⟩
theorem d30_40 : DAt B30 40 (.invokevirtual 79) 3 43 := ⟨by decide +kernel, rfl⟩
theorem d30_43 : DAt B30 43 (.iconst 5) 1 44 := ⟨by decide +kernel, rfl⟩
theorem d30_44 : DAt B30 44 (.ireturn) 1 45 := ⟨by decide +kernel, rfl⟩
theorem d30_45 : DAt B30 45 (.aload_n 0) 1 46 := ⟨by decide +kernel, rfl⟩
theorem d30_46 : DAt B30 46 (.bipush 6) 2 48 := ⟨by decide +kernel, rfl⟩
theorem d30_48 : DAt B30 48 (.iload_n 1) 1 49 := ⟨by decide +kernel, rfl⟩
theorem d30_49 : DAt B30 49 (.invokevirtual 79) 3 52 := ⟨by decide +kernel, rfl⟩
theorem d30_52 : DAt B30 52 (.bipush 6) 2 54 := ⟨by decide +kernel, rfl⟩
theorem d30_54 : DAt B30 54 (.ireturn) 1 55 := ⟨by decide +kernel, rfl⟩
def B0 : Bdy := (x, code, maxLocals, ret, room_1)
theorem d0_0 : DAt B0 0 (.iload_n 0) 1 1 := ⟨at_0, rfl⟩
theorem d0_1 : DAt B0 1 (.bipush 7) 2 3 := ⟨at_1, rfl⟩
theorem d0_3 : DAt B0 3 (.iand) 1 4 := ⟨at_3, rfl⟩
theorem d0_4 : DAt B0 4 (.istore 4) 2 6 := ⟨at_4, rfl⟩
theorem d0_6 : DAt B0 6 (.iload_n 1) 1 7 := ⟨at_6, rfl⟩
theorem d0_7 : DAt B0 7 (.bipush 7) 2 9 := ⟨at_7, rfl⟩
theorem d0_9 : DAt B0 9 (.iand) 1 10 := ⟨at_9, rfl⟩
theorem d0_10 : DAt B0 10 (.istore 5) 2 12 := ⟨at_10, rfl⟩
theorem d0_12 : DAt B0 12 (.iload_n 2) 1 13 := ⟨at_12, rfl⟩
theorem d0_13 : DAt B0 13 (.invokestatic 7) 3 16 := ⟨at_13, rfl⟩
theorem d0_16 : DAt B0 16 (.istore 6) 2 18 := ⟨at_16, rfl⟩
theorem d0_18 : DAt B0 18 (.iload_n 3) 1 19 := ⟨at_18, rfl⟩
theorem d0_19 : DAt B0 19 (.invokestatic 7) 3 22 := ⟨at_19, rfl⟩
theorem d0_22 : DAt B0 22 (.istore 7) 2 24 := ⟨at_22, rfl⟩
theorem d0_24 : DAt B0 24 (.sipush 256) 3 27 := ⟨at_24, rfl⟩
theorem d0_27 : DAt B0 27 (.istore 8) 2 29 := ⟨at_27, rfl⟩
theorem d0_29 : DAt B0 29 (.sipush 256) 3 32 := ⟨at_29, rfl⟩
theorem d0_32 : DAt B0 32 (.istore 9) 2 34 := ⟨at_32, rfl⟩
theorem d0_34 : DAt B0 34 (.sipush 256) 3 37 := ⟨at_34, rfl⟩
theorem d0_37 : DAt B0 37 (.istore 10) 2 39 := ⟨at_37, rfl⟩
theorem d0_39 : DAt B0 39 (.iconst 0) 1 40 := ⟨at_39, rfl⟩
theorem d0_40 : DAt B0 40 (.istore 11) 2 42 := ⟨at_40, rfl⟩
theorem d0_42 : DAt B0 42 (.iload 11) 2 44 := ⟨at_42, rfl⟩
theorem d0_44 : DAt B0 44 (.iconst 4) 1 45 := ⟨at_44, rfl⟩
theorem d0_45 : DAt B0 45 (.if_icmp .ge 126) 3 48 := ⟨at_45, rfl⟩
theorem d0_48 : DAt B0 48 (.iload 11) 2 50 := ⟨at_48, rfl⟩
theorem d0_50 : DAt B0 50 (.iconst 1) 1 51 := ⟨at_50, rfl⟩
theorem d0_51 : DAt B0 51 (.iand) 1 52 := ⟨at_51, rfl⟩
theorem d0_52 : DAt B0 52 (.istore 12) 2 54 := ⟨at_52, rfl⟩
theorem d0_54 : DAt B0 54 (.iload 11) 2 56 := ⟨at_54, rfl⟩
theorem d0_56 : DAt B0 56 (.iconst 1) 1 57 := ⟨at_56, rfl⟩
theorem d0_57 : DAt B0 57 (.ishr) 1 58 := ⟨at_57, rfl⟩
theorem d0_58 : DAt B0 58 (.iconst 1) 1 59 := ⟨at_58, rfl⟩
theorem d0_59 : DAt B0 59 (.iand) 1 60 := ⟨at_59, rfl⟩
theorem d0_60 : DAt B0 60 (.istore 13) 2 62 := ⟨at_60, rfl⟩
theorem d0_62 : DAt B0 62 (.iload 4) 2 64 := ⟨at_62, rfl⟩
theorem d0_64 : DAt B0 64 (.iload 5) 2 66 := ⟨at_64, rfl⟩
theorem d0_66 : DAt B0 66 (.if_icmp .ne 13) 3 69 := ⟨at_66, rfl⟩
theorem d0_69 : DAt B0 69 (.iload 12) 2 71 := ⟨at_69, rfl⟩
theorem d0_71 : DAt B0 71 (.iload 13) 2 73 := ⟨at_71, rfl⟩
theorem d0_73 : DAt B0 73 (.if_icmp .eq 6) 3 76 := ⟨at_73, rfl⟩
theorem d0_76 : DAt B0 76 (.goto 89) 3 79 := ⟨at_76, rfl⟩
theorem d0_79 : DAt B0 79 (.iload 12) 2 81 := ⟨at_79, rfl⟩
theorem d0_81 : DAt B0 81 (.iload 4) 2 83 := ⟨at_81, rfl⟩
theorem d0_83 : DAt B0 83 (.ishl) 1 84 := ⟨at_83, rfl⟩
theorem d0_84 : DAt B0 84 (.iload 13) 2 86 := ⟨at_84, rfl⟩
theorem d0_86 : DAt B0 86 (.iload 5) 2 88 := ⟨at_86, rfl⟩
theorem d0_88 : DAt B0 88 (.ishl) 1 89 := ⟨at_88, rfl⟩
theorem d0_89 : DAt B0 89 (.ior) 1 90 := ⟨at_89, rfl⟩
theorem d0_90 : DAt B0 90 (.istore 14) 2 92 := ⟨at_90, rfl⟩
theorem d0_92 : DAt B0 92 (.iload 6) 2 94 := ⟨at_92, rfl⟩
theorem d0_94 : DAt B0 94 (.iload 12) 2 96 := ⟨at_94, rfl⟩
theorem d0_96 : DAt B0 96 (.iload 13) 2 98 := ⟨at_96, rfl⟩
theorem d0_98 : DAt B0 98 (.invokestatic 13) 3 101 := ⟨at_98, rfl⟩
theorem d0_101 : DAt B0 101 (.istore 15) 2 103 := ⟨at_101, rfl⟩
theorem d0_103 : DAt B0 103 (.iload 7) 2 105 := ⟨at_103, rfl⟩
theorem d0_105 : DAt B0 105 (.iload 13) 2 107 := ⟨at_105, rfl⟩
theorem d0_107 : DAt B0 107 (.iload 12) 2 109 := ⟨at_107, rfl⟩
theorem d0_109 : DAt B0 109 (.invokestatic 13) 3 112 := ⟨at_109, rfl⟩
theorem d0_112 : DAt B0 112 (.istore 16) 2 114 := ⟨at_112, rfl⟩
theorem d0_114 : DAt B0 114 (.iload 15) 2 116 := ⟨at_114, rfl⟩
theorem d0_116 : DAt B0 116 (.ifCond .ne 14) 3 119 := ⟨at_116, rfl⟩
theorem d0_119 : DAt B0 119 (.iload 14) 2 121 := ⟨at_119, rfl⟩
theorem d0_121 : DAt B0 121 (.iload 8) 2 123 := ⟨at_121, rfl⟩
theorem d0_123 : DAt B0 123 (.if_icmp .ge 7) 3 126 := ⟨at_123, rfl⟩
theorem d0_126 : DAt B0 126 (.iload 14) 2 128 := ⟨at_126, rfl⟩
theorem d0_128 : DAt B0 128 (.istore 8) 2 130 := ⟨at_128, rfl⟩
theorem d0_130 : DAt B0 130 (.iload 15) 2 132 := ⟨at_130, rfl⟩
theorem d0_132 : DAt B0 132 (.iconst 1) 1 133 := ⟨at_132, rfl⟩
theorem d0_133 : DAt B0 133 (.if_icmp .ne 14) 3 136 := ⟨at_133, rfl⟩
theorem d0_136 : DAt B0 136 (.iload 14) 2 138 := ⟨at_136, rfl⟩
theorem d0_138 : DAt B0 138 (.iload 9) 2 140 := ⟨at_138, rfl⟩
theorem d0_140 : DAt B0 140 (.if_icmp .ge 7) 3 143 := ⟨at_140, rfl⟩
theorem d0_143 : DAt B0 143 (.iload 14) 2 145 := ⟨at_143, rfl⟩
theorem d0_145 : DAt B0 145 (.istore 9) 2 147 := ⟨at_145, rfl⟩
theorem d0_147 : DAt B0 147 (.iload 15) 2 149 := ⟨at_147, rfl⟩
theorem d0_149 : DAt B0 149 (.iload 16) 2 151 := ⟨at_149, rfl⟩
theorem d0_151 : DAt B0 151 (.if_icmp .eq 14) 3 154 := ⟨at_151, rfl⟩
theorem d0_154 : DAt B0 154 (.iload 14) 2 156 := ⟨at_154, rfl⟩
theorem d0_156 : DAt B0 156 (.iload 10) 2 158 := ⟨at_156, rfl⟩
theorem d0_158 : DAt B0 158 (.if_icmp .ge 7) 3 161 := ⟨at_158, rfl⟩
theorem d0_161 : DAt B0 161 (.iload 14) 2 163 := ⟨at_161, rfl⟩
theorem d0_163 : DAt B0 163 (.istore 10) 2 165 := ⟨at_163, rfl⟩
theorem d0_165 : DAt B0 165 (.iinc 11 1) 3 168 := ⟨at_165, rfl⟩
theorem d0_168 : DAt B0 168 (.goto (-126)) 3 171 := ⟨at_168, rfl⟩
theorem d0_171 : DAt B0 171 (.new 17) 3 174 := ⟨at_171, rfl⟩
theorem d0_174 : DAt B0 174 (.dup) 1 175 := ⟨at_174, rfl⟩
theorem d0_175 : DAt B0 175 (.bipush 8) 2 177 := ⟨at_175, rfl⟩
theorem d0_177 : DAt B0 177 (.invokespecial 19) 3 180 := ⟨at_177, rfl⟩
theorem d0_180 : DAt B0 180 (.astore 11) 2 182 := ⟨at_180, rfl⟩
theorem d0_182 : DAt B0 182 (.aload 11) 2 184 := ⟨at_182, rfl⟩
theorem d0_184 : DAt B0 184 (.iload 4) 2 186 := ⟨at_184, rfl⟩
theorem d0_186 : DAt B0 186 (.invokevirtual 22) 3 189 := ⟨at_186, rfl⟩
theorem d0_189 : DAt B0 189 (.istore 12) 2 191 := ⟨at_189, rfl⟩
theorem d0_191 : DAt B0 191 (.aload 11) 2 193 := ⟨at_191, rfl⟩
theorem d0_193 : DAt B0 193 (.iload 5) 2 195 := ⟨at_193, rfl⟩
theorem d0_195 : DAt B0 195 (.invokevirtual 22) 3 198 := ⟨at_195, rfl⟩
theorem d0_198 : DAt B0 198 (.istore 13) 2 200 := ⟨at_198, rfl⟩
theorem d0_200 : DAt B0 200 (.aload 11) 2 202 := ⟨at_200, rfl⟩
theorem d0_202 : DAt B0 202 (.iload 6) 2 204 := ⟨at_202, rfl⟩
theorem d0_204 : DAt B0 204 (.invokevirtual 22) 3 207 := ⟨at_204, rfl⟩
theorem d0_207 : DAt B0 207 (.istore 14) 2 209 := ⟨at_207, rfl⟩
theorem d0_209 : DAt B0 209 (.aload 11) 2 211 := ⟨at_209, rfl⟩
theorem d0_211 : DAt B0 211 (.invokevirtual 25) 3 214 := ⟨at_211, rfl⟩
theorem d0_214 : DAt B0 214 (.istore 15) 2 216 := ⟨at_214, rfl⟩
theorem d0_216 : DAt B0 216 (.aload 11) 2 218 := ⟨at_216, rfl⟩
theorem d0_218 : DAt B0 218 (.invokevirtual 29) 3 221 := ⟨at_218, rfl⟩
theorem d0_221 : DAt B0 221 (.istore 16) 2 223 := ⟨at_221, rfl⟩
theorem d0_223 : DAt B0 223 (.aload 11) 2 225 := ⟨at_223, rfl⟩
theorem d0_225 : DAt B0 225 (.invokevirtual 32) 3 228 := ⟨at_225, rfl⟩
theorem d0_228 : DAt B0 228 (.istore 17) 2 230 := ⟨at_228, rfl⟩
theorem d0_230 : DAt B0 230 (.aload 11) 2 232 := ⟨at_230, rfl⟩
theorem d0_232 : DAt B0 232 (.invokevirtual 35) 3 235 := ⟨at_232, rfl⟩
theorem d0_235 : DAt B0 235 (.istore 18) 2 237 := ⟨at_235, rfl⟩
theorem d0_237 : DAt B0 237 (.aload 11) 2 239 := ⟨at_237, rfl⟩
theorem d0_239 : DAt B0 239 (.invokevirtual 29) 3 242 := ⟨at_239, rfl⟩
theorem d0_242 : DAt B0 242 (.istore 19) 2 244 := ⟨at_242, rfl⟩
theorem d0_244 : DAt B0 244 (.aload 11) 2 246 := ⟨at_244, rfl⟩
theorem d0_246 : DAt B0 246 (.invokevirtual 32) 3 249 := ⟨at_246, rfl⟩
theorem d0_249 : DAt B0 249 (.istore 20) 2 251 := ⟨at_249, rfl⟩
theorem d0_251 : DAt B0 251 (.aload 11) 2 253 := ⟨at_251, rfl⟩
theorem d0_253 : DAt B0 253 (.invokevirtual 38) 3 256 := ⟨at_253, rfl⟩
theorem d0_256 : DAt B0 256 (.istore 21) 2 258 := ⟨at_256, rfl⟩
theorem d0_258 : DAt B0 258 (.aload 11) 2 260 := ⟨at_258, rfl⟩
theorem d0_260 : DAt B0 260 (.invokevirtual 41) 3 263 := ⟨at_260, rfl⟩
theorem d0_263 : DAt B0 263 (.istore 22) 2 265 := ⟨at_263, rfl⟩
theorem d0_265 : DAt B0 265 (.aload 11) 2 267 := ⟨at_265, rfl⟩
theorem d0_267 : DAt B0 267 (.invokevirtual 44) 3 270 := ⟨at_267, rfl⟩
theorem d0_270 : DAt B0 270 (.aload 11) 2 272 := ⟨at_270, rfl⟩
theorem d0_272 : DAt B0 272 (.iload 5) 2 274 := ⟨at_272, rfl⟩
theorem d0_274 : DAt B0 274 (.invokevirtual 22) 3 277 := ⟨at_274, rfl⟩
theorem d0_277 : DAt B0 277 (.istore 23) 2 279 := ⟨at_277, rfl⟩
theorem d0_279 : DAt B0 279 (.aload 11) 2 281 := ⟨at_279, rfl⟩
theorem d0_281 : DAt B0 281 (.iload 4) 2 283 := ⟨at_281, rfl⟩
theorem d0_283 : DAt B0 283 (.invokevirtual 22) 3 286 := ⟨at_283, rfl⟩
theorem d0_286 : DAt B0 286 (.istore 24) 2 288 := ⟨at_286, rfl⟩
theorem d0_288 : DAt B0 288 (.aload 11) 2 290 := ⟨at_288, rfl⟩
theorem d0_290 : DAt B0 290 (.iload 7) 2 292 := ⟨at_290, rfl⟩
theorem d0_292 : DAt B0 292 (.invokevirtual 22) 3 295 := ⟨at_292, rfl⟩
theorem d0_295 : DAt B0 295 (.istore 25) 2 297 := ⟨at_295, rfl⟩
theorem d0_297 : DAt B0 297 (.aload 11) 2 299 := ⟨at_297, rfl⟩
theorem d0_299 : DAt B0 299 (.invokevirtual 47) 3 302 := ⟨at_299, rfl⟩
theorem d0_302 : DAt B0 302 (.istore 26) 2 304 := ⟨at_302, rfl⟩
theorem d0_304 : DAt B0 304 (.aload 11) 2 306 := ⟨at_304, rfl⟩
theorem d0_306 : DAt B0 306 (.invokevirtual 29) 3 309 := ⟨at_306, rfl⟩
theorem d0_309 : DAt B0 309 (.istore 27) 2 311 := ⟨at_309, rfl⟩
theorem d0_311 : DAt B0 311 (.aload 11) 2 313 := ⟨at_311, rfl⟩
theorem d0_313 : DAt B0 313 (.invokevirtual 32) 3 316 := ⟨at_313, rfl⟩
theorem d0_316 : DAt B0 316 (.istore 28) 2 318 := ⟨at_316, rfl⟩
theorem d0_318 : DAt B0 318 (.iload 8) 2 320 := ⟨at_318, rfl⟩
theorem d0_320 : DAt B0 320 (.sipush 256) 3 323 := ⟨at_320, rfl⟩
theorem d0_323 : DAt B0 323 (.if_icmp .ne 7) 3 326 := ⟨at_323, rfl⟩
theorem d0_326 : DAt B0 326 (.iconst 1) 1 327 := ⟨at_326, rfl⟩
theorem d0_327 : DAt B0 327 (.goto 4) 3 330 := ⟨at_327, rfl⟩
theorem d0_330 : DAt B0 330 (.iconst 2) 1 331 := ⟨at_330, rfl⟩
theorem d0_331 : DAt B0 331 (.istore 29) 2 333 := ⟨at_331, rfl⟩
theorem d0_333 : DAt B0 333 (.iload 8) 2 335 := ⟨at_333, rfl⟩
theorem d0_335 : DAt B0 335 (.sipush 256) 3 338 := ⟨at_335, rfl⟩
theorem d0_338 : DAt B0 338 (.if_icmp .ne 7) 3 341 := ⟨at_338, rfl⟩
theorem d0_341 : DAt B0 341 (.iconst (-1)) 1 342 := ⟨at_341, rfl⟩
theorem d0_342 : DAt B0 342 (.goto 5) 3 345 := ⟨at_342, rfl⟩
theorem d0_345 : DAt B0 345 (.iload 8) 2 347 := ⟨at_345, rfl⟩
theorem d0_347 : DAt B0 347 (.istore 30) 2 349 := ⟨at_347, rfl⟩
theorem d0_349 : DAt B0 349 (.iload 9) 2 351 := ⟨at_349, rfl⟩
theorem d0_351 : DAt B0 351 (.sipush 256) 3 354 := ⟨at_351, rfl⟩
theorem d0_354 : DAt B0 354 (.if_icmp .ne 7) 3 357 := ⟨at_354, rfl⟩
theorem d0_357 : DAt B0 357 (.iconst 4) 1 358 := ⟨at_357, rfl⟩
theorem d0_358 : DAt B0 358 (.goto 4) 3 361 := ⟨at_358, rfl⟩
theorem d0_361 : DAt B0 361 (.iconst 3) 1 362 := ⟨at_361, rfl⟩
theorem d0_362 : DAt B0 362 (.istore 31) 2 364 := ⟨at_362, rfl⟩
theorem d0_364 : DAt B0 364 (.iload 9) 2 366 := ⟨at_364, rfl⟩
theorem d0_366 : DAt B0 366 (.sipush 256) 3 369 := ⟨at_366, rfl⟩
theorem d0_369 : DAt B0 369 (.if_icmp .ne 7) 3 372 := ⟨at_369, rfl⟩
theorem d0_372 : DAt B0 372 (.iconst (-1)) 1 373 := ⟨at_372, rfl⟩
theorem d0_373 : DAt B0 373 (.goto 5) 3 376 := ⟨at_373, rfl⟩
theorem d0_376 : DAt B0 376 (.iload 9) 2 378 := ⟨at_376, rfl⟩
theorem d0_378 : DAt B0 378 (.istore 32) 2 380 := ⟨at_378, rfl⟩
theorem d0_380 : DAt B0 380 (.iload 10) 2 382 := ⟨at_380, rfl⟩
theorem d0_382 : DAt B0 382 (.sipush 256) 3 385 := ⟨at_382, rfl⟩
theorem d0_385 : DAt B0 385 (.if_icmp .ne 7) 3 388 := ⟨at_385, rfl⟩
theorem d0_388 : DAt B0 388 (.iconst 5) 1 389 := ⟨at_388, rfl⟩
theorem d0_389 : DAt B0 389 (.goto 5) 3 392 := ⟨at_389, rfl⟩
theorem d0_392 : DAt B0 392 (.bipush 6) 2 394 := ⟨at_392, rfl⟩
theorem d0_394 : DAt B0 394 (.istore 33) 2 396 := ⟨at_394, rfl⟩
theorem d0_396 : DAt B0 396 (.iload 10) 2 398 := ⟨at_396, rfl⟩
theorem d0_398 : DAt B0 398 (.sipush 256) 3 401 := ⟨at_398, rfl⟩
theorem d0_401 : DAt B0 401 (.if_icmp .ne 7) 3 404 := ⟨at_401, rfl⟩
theorem d0_404 : DAt B0 404 (.iconst (-1)) 1 405 := ⟨at_404, rfl⟩
theorem d0_405 : DAt B0 405 (.goto 5) 3 408 := ⟨at_405, rfl⟩
theorem d0_408 : DAt B0 408 (.iload 10) 2 410 := ⟨at_408, rfl⟩
theorem d0_410 : DAt B0 410 (.istore 34) 2 412 := ⟨at_410, rfl⟩
theorem d0_412 : DAt B0 412 (.iload 12) 2 414 := ⟨at_412, rfl⟩
theorem d0_414 : DAt B0 414 (.ifCond .ne 32) 3 417 := ⟨at_414, rfl⟩
theorem d0_417 : DAt B0 417 (.iload 13) 2 419 := ⟨at_417, rfl⟩
theorem d0_419 : DAt B0 419 (.ifCond .ne 27) 3 422 := ⟨at_419, rfl⟩
theorem d0_422 : DAt B0 422 (.iload 14) 2 424 := ⟨at_422, rfl⟩
theorem d0_424 : DAt B0 424 (.ifCond .ne 22) 3 427 := ⟨at_424, rfl⟩
theorem d0_427 : DAt B0 427 (.iload 23) 2 429 := ⟨at_427, rfl⟩
theorem d0_429 : DAt B0 429 (.ifCond .ne 17) 3 432 := ⟨at_429, rfl⟩
theorem d0_432 : DAt B0 432 (.iload 24) 2 434 := ⟨at_432, rfl⟩
theorem d0_434 : DAt B0 434 (.ifCond .ne 12) 3 437 := ⟨at_434, rfl⟩
theorem d0_437 : DAt B0 437 (.iload 25) 2 439 := ⟨at_437, rfl⟩
theorem d0_439 : DAt B0 439 (.ifCond .ne 7) 3 442 := ⟨at_439, rfl⟩
theorem d0_442 : DAt B0 442 (.iconst 1) 1 443 := ⟨at_442, rfl⟩
theorem d0_443 : DAt B0 443 (.goto 4) 3 446 := ⟨at_443, rfl⟩
theorem d0_446 : DAt B0 446 (.iconst 0) 1 447 := ⟨at_446, rfl⟩
theorem d0_447 : DAt B0 447 (.istore 35) 2 449 := ⟨at_447, rfl⟩
theorem d0_449 : DAt B0 449 (.iload 35) 2 451 := ⟨at_449, rfl⟩
theorem d0_451 : DAt B0 451 (.ifCond .eq 81) 3 454 := ⟨at_451, rfl⟩
theorem d0_454 : DAt B0 454 (.iload 15) 2 456 := ⟨at_454, rfl⟩
theorem d0_456 : DAt B0 456 (.iload 29) 2 458 := ⟨at_456, rfl⟩
theorem d0_458 : DAt B0 458 (.if_icmp .ne 74) 3 461 := ⟨at_458, rfl⟩
theorem d0_461 : DAt B0 461 (.iload 16) 2 463 := ⟨at_461, rfl⟩
theorem d0_463 : DAt B0 463 (.iload 29) 2 465 := ⟨at_463, rfl⟩
theorem d0_465 : DAt B0 465 (.if_icmp .ne 67) 3 468 := ⟨at_465, rfl⟩
theorem d0_468 : DAt B0 468 (.iload 17) 2 470 := ⟨at_468, rfl⟩
theorem d0_470 : DAt B0 470 (.iload 30) 2 472 := ⟨at_470, rfl⟩
theorem d0_472 : DAt B0 472 (.if_icmp .ne 60) 3 475 := ⟨at_472, rfl⟩
theorem d0_475 : DAt B0 475 (.iload 18) 2 477 := ⟨at_475, rfl⟩
theorem d0_477 : DAt B0 477 (.iload 31) 2 479 := ⟨at_477, rfl⟩
theorem d0_479 : DAt B0 479 (.if_icmp .ne 53) 3 482 := ⟨at_479, rfl⟩
theorem d0_482 : DAt B0 482 (.iload 19) 2 484 := ⟨at_482, rfl⟩
theorem d0_484 : DAt B0 484 (.iload 31) 2 486 := ⟨at_484, rfl⟩
theorem d0_486 : DAt B0 486 (.if_icmp .ne 46) 3 489 := ⟨at_486, rfl⟩
theorem d0_489 : DAt B0 489 (.iload 20) 2 491 := ⟨at_489, rfl⟩
theorem d0_491 : DAt B0 491 (.iload 32) 2 493 := ⟨at_491, rfl⟩
theorem d0_493 : DAt B0 493 (.if_icmp .ne 39) 3 496 := ⟨at_493, rfl⟩
theorem d0_496 : DAt B0 496 (.iload 21) 2 498 := ⟨at_496, rfl⟩
theorem d0_498 : DAt B0 498 (.ifCond .ne 34) 3 501 := ⟨at_498, rfl⟩
theorem d0_501 : DAt B0 501 (.iload 22) 2 503 := ⟨at_501, rfl⟩
theorem d0_503 : DAt B0 503 (.iconst 3) 1 504 := ⟨at_503, rfl⟩
theorem d0_504 : DAt B0 504 (.if_icmp .ne 28) 3 507 := ⟨at_504, rfl⟩
theorem d0_507 : DAt B0 507 (.iload 26) 2 509 := ⟨at_507, rfl⟩
theorem d0_509 : DAt B0 509 (.iload 33) 2 511 := ⟨at_509, rfl⟩
theorem d0_511 : DAt B0 511 (.if_icmp .ne 21) 3 514 := ⟨at_511, rfl⟩
theorem d0_514 : DAt B0 514 (.iload 27) 2 516 := ⟨at_514, rfl⟩
theorem d0_516 : DAt B0 516 (.iload 33) 2 518 := ⟨at_516, rfl⟩
theorem d0_518 : DAt B0 518 (.if_icmp .ne 14) 3 521 := ⟨at_518, rfl⟩
theorem d0_521 : DAt B0 521 (.iload 28) 2 523 := ⟨at_521, rfl⟩
theorem d0_523 : DAt B0 523 (.iload 34) 2 525 := ⟨at_523, rfl⟩
theorem d0_525 : DAt B0 525 (.if_icmp .ne 7) 3 528 := ⟨at_525, rfl⟩
theorem d0_528 : DAt B0 528 (.iconst 1) 1 529 := ⟨at_528, rfl⟩
theorem d0_529 : DAt B0 529 (.goto 4) 3 532 := ⟨at_529, rfl⟩
theorem d0_532 : DAt B0 532 (.iconst 0) 1 533 := ⟨at_532, rfl⟩
theorem d0_533 : DAt B0 533 (.ireturn) 1 534 := ⟨at_533, rfl⟩
theorem ar1 : arity B1 1 := ⟨[.int], some .int, by decide +kernel, rfl⟩
theorem ar2 : arity B2 3 := ⟨[.int, .int, .int], some .int, by decide +kernel, rfl⟩
theorem ar3 : arity B3 1 := ⟨[.int], none, by decide +kernel, rfl⟩
theorem ar4 : arity B4 0 := ⟨[], none, by decide +kernel, rfl⟩
theorem ar5 : arity B5 1 := ⟨[.int], some .int, by decide +kernel, rfl⟩
theorem ar6 : arity B6 1 := ⟨[.int], some .int, by decide +kernel, rfl⟩
theorem ar7 : arity B7 0 := ⟨[], some .int, by decide +kernel, rfl⟩
theorem ar8 : arity B8 0 := ⟨[], some .boolean, by decide +kernel, rfl⟩
theorem ar9 : arity B9 0 := ⟨[], none, by decide +kernel, rfl⟩
theorem ar10 : arity B10 2 := ⟨[.int, .int], some .int, by decide +kernel, rfl⟩
theorem ar11 : arity B11 2 := ⟨[.int, .int], none, by decide +kernel, rfl⟩
theorem ar12 : arity B12 2 := ⟨[.int, .int], some .long, by decide +kernel, rfl⟩
theorem ar13 : arity B13 2 := ⟨[.int, .int], some .long, by decide +kernel, rfl⟩
theorem ar14 : arity B14 2 := ⟨[.int, .int], none, by decide +kernel, rfl⟩
theorem ar15 : arity B15 3 := ⟨[.int, .long, .long], some .long, by decide +kernel, rfl⟩
theorem ar16 : arity B16 1 := ⟨[.int], none, by decide +kernel, rfl⟩
theorem ar17 : arity B17 0 := ⟨[], none, by decide +kernel, rfl⟩
theorem ar18 : arity B18 0 := ⟨[], some .int, by decide +kernel, rfl⟩
theorem ar19 : arity B19 1 := ⟨[.long], some .int, by decide +kernel, rfl⟩
theorem ar20 : arity B20 2 := ⟨[.int, .int], none, by decide +kernel, rfl⟩
theorem ar21 : arity B21 0 := ⟨[], some .int, by decide +kernel, rfl⟩
theorem ar22 : arity B22 0 := ⟨[], some .int, by decide +kernel, rfl⟩
theorem ar23 : arity B23 0 := ⟨[], some .int, by decide +kernel, rfl⟩
theorem ar24 : arity B24 0 := ⟨[], none, by decide +kernel, rfl⟩
theorem ar25 : arity B25 0 := ⟨[], some .int, by decide +kernel, rfl⟩
theorem ar26 : arity B26 0 := ⟨[], none, by decide +kernel, rfl⟩
theorem ar27 : arity B27 0 := ⟨[], none, by decide +kernel, rfl⟩
theorem ar28 : arity B28 0 := ⟨[], some .int, by decide +kernel, rfl⟩
theorem ar29 : arity B29 0 := ⟨[], none, by decide +kernel, rfl⟩
theorem ar30 : arity B30 0 := ⟨[], some .int, by decide +kernel, rfl⟩
theorem ar31 : arity B31 0 := ⟨[], none, by decide +kernel, rfl⟩
theorem cw1 : code_w B1 := ⟨mem1 3 rfl, mem1 2 rfl, by decide⟩
theorem cw2 : code_w B2 := ⟨mem1 6 rfl, mem1 2 rfl, by decide⟩
theorem cw3 : code_w B3 := ⟨mem1 12 rfl, mem1 9 rfl, by decide⟩
theorem cw4 : code_w B4 := ⟨mem1 45 rfl, mem1 9 rfl, by decide⟩
theorem cw5 : code_w B5 := ⟨mem1 54 rfl, mem1 9 rfl, by decide⟩
theorem cw6 : code_w B6 := ⟨mem1 58 rfl, mem1 9 rfl, by decide⟩
theorem cw7 : code_w B7 := ⟨mem1 63 rfl, mem1 9 rfl, by decide⟩
theorem cw8 : code_w B8 := ⟨mem1 67 rfl, mem1 9 rfl, by decide⟩
theorem cw9 : code_w B9 := ⟨mem1 71 rfl, mem1 9 rfl, by decide⟩
theorem cw10 : code_w B10 := ⟨mem1 75 rfl, mem1 9 rfl, by decide⟩
theorem cw11 : code_w B11 := ⟨mem1 79 rfl, mem1 9 rfl, by decide⟩
theorem cw12 : code_w B12 := ⟨mem1 83 rfl, mem1 9 rfl, by decide⟩
theorem cw13 : code_w B13 := ⟨mem1 87 rfl, mem1 9 rfl, by decide⟩
theorem cw14 : code_w B14 := ⟨mem1 93 rfl, mem1 9 rfl, by decide⟩
theorem cw15 : code_w B15 := ⟨mem1 97 rfl, mem1 9 rfl, by decide⟩
theorem cw16 : code_w B16 := ⟨mem1 102 rfl, mem1 9 rfl, by decide⟩
theorem cw17 : code_w B17 := ⟨mem1 106 rfl, mem1 9 rfl, by decide⟩
theorem cw18 : code_w B18 := ⟨mem1 110 rfl, mem1 9 rfl, by decide⟩
theorem cw19 : code_w B19 := ⟨mem1 114 rfl, mem1 9 rfl, by decide⟩
theorem cw20 : code_w B20 := ⟨mem1 118 rfl, mem1 9 rfl, by decide⟩
theorem cw21 : code_w B21 := ⟨mem1 123 rfl, mem1 9 rfl, by decide⟩
theorem cw22 : code_w B22 := ⟨mem1 128 rfl, mem1 9 rfl, by decide⟩
theorem cw23 : code_w B23 := ⟨mem1 133 rfl, mem1 9 rfl, by decide⟩
theorem cw24 : code_w B24 := ⟨mem1 137 rfl, mem1 9 rfl, by decide⟩
theorem cw25 : code_w B25 := ⟨mem1 142 rfl, mem1 9 rfl, by decide⟩
theorem cw26 : code_w B26 := ⟨mem1 146 rfl, mem1 9 rfl, by decide⟩
theorem cw27 : code_w B27 := ⟨mem1 150 rfl, mem1 9 rfl, by decide⟩
theorem cw28 : code_w B28 := ⟨mem1 155 rfl, mem1 9 rfl, by decide⟩
theorem cw29 : code_w B29 := ⟨mem1 160 rfl, mem1 9 rfl, by decide⟩
theorem cw30 : code_w B30 := ⟨mem1 165 rfl, mem1 9 rfl, by decide⟩
theorem cw31 : code_w B31 := ⟨mem1 169 rfl, mem1 9 rfl, by decide⟩
theorem rk0_1_0 : room_ok B0 B1 0 := by decide
theorem rk0_2_0 : room_ok B0 B2 0 := by decide
theorem rk0_5_0 : room_ok B0 B5 0 := by decide
theorem rk0_7_0 : room_ok B0 B7 0 := by decide
theorem rk0_21_0 : room_ok B0 B21 0 := by decide
theorem rk0_22_0 : room_ok B0 B22 0 := by decide
theorem rk0_23_0 : room_ok B0 B23 0 := by decide
theorem rk0_25_0 : room_ok B0 B25 0 := by decide
theorem rk0_28_0 : room_ok B0 B28 0 := by decide
theorem rk0_29_0 : room_ok B0 B29 0 := by decide
theorem rk0_30_0 : room_ok B0 B30 0 := by decide
theorem rk3_4_0 : room_ok B3 B4 0 := by decide
theorem rk5_4_0 : room_ok B5 B4 0 := by decide
theorem rk5_6_0 : room_ok B5 B6 0 := by decide
theorem rk7_8_0 : room_ok B7 B8 0 := by decide
theorem rk7_9_0 : room_ok B7 B9 0 := by decide
theorem rk7_17_0 : room_ok B7 B17 0 := by decide
theorem rk7_18_0 : room_ok B7 B18 0 := by decide
theorem rk7_20_0 : room_ok B7 B20 0 := by decide
theorem rk9_10_0 : room_ok B9 B10 0 := by decide
theorem rk9_16_0 : room_ok B9 B16 0 := by decide
theorem rk10_6_0 : room_ok B10 B6 0 := by decide
theorem rk10_11_0 : room_ok B10 B11 0 := by decide
theorem rk10_14_0 : room_ok B10 B14 0 := by decide
theorem rk11_12_2 : room_ok B11 B12 2 := by decide
theorem rk12_13_0 : room_ok B12 B13 0 := by decide
theorem rk14_15_2 : room_ok B14 B15 2 := by decide
theorem rk18_19_1 : room_ok B18 B19 1 := by decide
theorem rk23_8_0 : room_ok B23 B8 0 := by decide
theorem rk23_9_0 : room_ok B23 B9 0 := by decide
theorem rk23_18_0 : room_ok B23 B18 0 := by decide
theorem rk23_20_0 : room_ok B23 B20 0 := by decide
theorem rk23_24_0 : room_ok B23 B24 0 := by decide
theorem rk25_4_0 : room_ok B25 B4 0 := by decide
theorem rk25_8_0 : room_ok B25 B8 0 := by decide
theorem rk25_9_0 : room_ok B25 B9 0 := by decide
theorem rk25_26_0 : room_ok B25 B26 0 := by decide
theorem rk25_27_0 : room_ok B25 B27 0 := by decide
theorem rk29_4_0 : room_ok B29 B4 0 := by decide
theorem rk30_8_0 : room_ok B30 B8 0 := by decide
theorem rk30_9_0 : room_ok B30 B9 0 := by decide
theorem rk30_18_0 : room_ok B30 B18 0 := by decide
theorem rk30_20_0 : room_ok B30 B20 0 := by decide
theorem rk30_31_0 : room_ok B30 B31 0 := by decide
def L_pick (i0 : Int32) : Option (Int32) :=
  if (i0 % (5 : Int32)) < (0 : Int32) then
    some ((11 : Int32) + ((i0 % (5 : Int32)) + (5 : Int32)))
  else
    some ((11 : Int32) + (i0 % (5 : Int32)))
set_option maxRecDepth 65536 in
set_option maxHeartbeats 4000000 in
theorem L_pick_p {C : Ctx} {G : AH} {res : Int32} (i0 : Int32) (hf : L_pick i0 = some res) : Runs C B1 0 0 0 [vi i0, vn] [] G (Ans (some (.int res)) G) := by
  delta L_pick at hf
  refine Runs.iloadN d1_0 rfl <| Runs.iconst d1_1 ci_5 <| Runs.irem d1_2 (by decide) <| Runs.istoreN (P' := [vi i0, vi (i0 % (5 : Int32))]) d1_3 (by decide) rfl <| Runs.iloadN d1_4 rfl <| ?_
  refine ite_el hf (fun hc1 hf => ?_) (fun hc1 hf => ?_)
  · refine Runs.ifN d1_5 (tlt hc1).2.1 <| ?_
    obtain rfl := Option.some.inj hf
    exact Runs.iloadN d1_8 rfl <| Runs.iconst d1_9 ci_5 <| Runs.iadd d1_10 <| Runs.istoreN (P' := [vi i0, vi ((i0 % (5 : Int32)) + (5 : Int32))]) d1_11 (by decide) rfl <| Runs.bipush d1_12 cb_11 <| Runs.iloadN d1_14 rfl <| Runs.iadd d1_15 <| Runs.retI d1_16 rfl ⟨by decide, by decide⟩ ⟨rfl, rfl⟩
  · refine Runs.ifY (pc' := 12) d1_5 (flt hc1).2.1 (by decide) <| ?_
    obtain rfl := Option.some.inj hf
    exact Runs.bipush d1_12 cb_11 <| Runs.iloadN d1_14 rfl <| Runs.iadd d1_15 <| Runs.retI d1_16 rfl ⟨by decide, by decide⟩ ⟨rfl, rfl⟩
theorem L_pick_pay {C : Ctx} {G : AH} {res : Int32} {i0 : Int32} (hf : L_pick i0 = some res) : Pays C B1 [.int i0] G (Ans (some (.int res)) G) :=
  Pays.of pnL (Nat.le_of_ble_eq_true rfl) (P := [vi i0, vn]) 1 rfl (L_pick_p i0 hf)
def L_f (i0 : Int32) (i1 : Int32) (i2 : Int32) : Option (Int32) :=
  if i0 = (11 : Int32) then
    some (i1 &&& i2)
  else
    if i0 = (12 : Int32) then
      some (i1 ||| i2)
    else
      if i0 = (13 : Int32) then
        some (((1 : Int32) - i1) ||| i2)
      else
        if i0 = (14 : Int32) then
          if i1 = i2 then
            some (1 : Int32)
          else
            some (0 : Int32)
        else
          if i1 = i2 then
            some (0 : Int32)
          else
            some (1 : Int32)
set_option maxRecDepth 65536 in
set_option maxHeartbeats 4000000 in
theorem L_f_p {C : Ctx} {G : AH} {res : Int32} (i0 : Int32) (i1 : Int32) (i2 : Int32) (hf : L_f i0 i1 i2 = some res) : Runs C B2 0 0 0 [vi i0, vi i1, vi i2] [] G (Ans (some (.int res)) G) := by
  delta L_f at hf
  refine Runs.iloadN d2_0 rfl <| Runs.bipush d2_1 cb_11 <| ?_
  refine ite_el hf (fun hc1 hf => ?_) (fun hc1 hf => ?_)
  · refine Runs.icN d2_3 (teq hc1).2 <| ?_
    obtain rfl := Option.some.inj hf
    exact Runs.iloadN d2_6 rfl <| Runs.iloadN d2_7 rfl <| Runs.iand d2_8 <| Runs.retI d2_9 rfl ⟨by decide, by decide⟩ ⟨rfl, rfl⟩
  · refine Runs.icY (pc' := 10) d2_3 (feq hc1).2 (by decide) <| ?_
    refine Runs.iloadN d2_10 rfl <| Runs.bipush d2_11 cb_12 <| ?_
    refine ite_el hf (fun hc2 hf => ?_) (fun hc2 hf => ?_)
    · refine Runs.icN d2_13 (teq hc2).2 <| ?_
      obtain rfl := Option.some.inj hf
      exact Runs.iloadN d2_16 rfl <| Runs.iloadN d2_17 rfl <| Runs.ior d2_18 <| Runs.retI d2_19 rfl ⟨by decide, by decide⟩ ⟨rfl, rfl⟩
    · refine Runs.icY (pc' := 20) d2_13 (feq hc2).2 (by decide) <| ?_
      refine Runs.iloadN d2_20 rfl <| Runs.bipush d2_21 cb_13 <| ?_
      refine ite_el hf (fun hc3 hf => ?_) (fun hc3 hf => ?_)
      · refine Runs.icN d2_23 (teq hc3).2 <| ?_
        obtain rfl := Option.some.inj hf
        exact Runs.iconst d2_26 ci_1 <| Runs.iloadN d2_27 rfl <| Runs.isub d2_28 <| Runs.iloadN d2_29 rfl <| Runs.ior d2_30 <| Runs.retI d2_31 rfl ⟨by decide, by decide⟩ ⟨rfl, rfl⟩
      · refine Runs.icY (pc' := 32) d2_23 (feq hc3).2 (by decide) <| ?_
        refine Runs.iloadN d2_32 rfl <| Runs.bipush d2_33 cb_14 <| ?_
        refine ite_el hf (fun hc4 hf => ?_) (fun hc4 hf => ?_)
        · refine Runs.icN d2_35 (teq hc4).2 <| ?_
          refine Runs.iloadN d2_38 rfl <| Runs.iloadN d2_39 rfl <| ?_
          refine ite_el hf (fun hc5 hf => ?_) (fun hc5 hf => ?_)
          · refine Runs.icN d2_40 (teq hc5).2 <| ?_
            obtain rfl := Option.some.inj hf
            exact Runs.iconst d2_43 ci_1 <| Runs.goto (pc' := 48) d2_44 (by decide) <| Runs.retI d2_48 rfl ⟨by decide, by decide⟩ ⟨rfl, rfl⟩
          · refine Runs.icY (pc' := 47) d2_40 (feq hc5).2 (by decide) <| ?_
            obtain rfl := Option.some.inj hf
            exact Runs.iconst d2_47 ci_0 <| Runs.retI d2_48 rfl ⟨by decide, by decide⟩ ⟨rfl, rfl⟩
        · refine Runs.icY (pc' := 49) d2_35 (feq hc4).2 (by decide) <| ?_
          refine Runs.iloadN d2_49 rfl <| Runs.iloadN d2_50 rfl <| ?_
          refine ite_el hf (fun hc6 hf => ?_) (fun hc6 hf => ?_)
          · refine Runs.icY (pc' := 58) d2_51 (teq hc6).1 (by decide) <| ?_
            obtain rfl := Option.some.inj hf
            exact Runs.iconst d2_58 ci_0 <| Runs.retI d2_59 rfl ⟨by decide, by decide⟩ ⟨rfl, rfl⟩
          · refine Runs.icN d2_51 (feq hc6).1 <| ?_
            obtain rfl := Option.some.inj hf
            exact Runs.iconst d2_54 ci_1 <| Runs.goto (pc' := 59) d2_55 (by decide) <| Runs.retI d2_59 rfl ⟨by decide, by decide⟩ ⟨rfl, rfl⟩
theorem L_f_pay {C : Ctx} {G : AH} {res : Int32} {i0 : Int32} {i1 : Int32} {i2 : Int32} (hf : L_f i0 i1 i2 = some res) : Pays C B2 [.int i0, .int i1, .int i2] G (Ans (some (.int res)) G) :=
  Pays.of pnL (Nat.le_of_ble_eq_true rfl) (P := [vi i0, vi i1, vi i2]) 0 rfl (L_f_p i0 i1 i2 hf)
def X_resetResult (ob : Rec) : Option (Rec) :=
  some (sI (sI ob 5 (0 : Int32)) 6 (-1 : Int32))
set_option maxRecDepth 65536 in
set_option maxHeartbeats 4000000 in
theorem X_resetResult_p {C : Ctx} {top : Nat} {a : Nat} {H : List (Nat × Nat × Rec)} {res : Rec} (ob : Rec) (hf : X_resetResult ob = some res) : Runs C B4 0 0 0 [vr a] [] (top, (a, 6, ob) :: H) (Ans none (top, (a, 6, res) :: H)) := by
  delta X_resetResult at hf
  obtain rfl := Option.some.inj hf
  exact Runs.aloadN d4_0 rfl <| Runs.iconst d4_1 ci_0 <| Runs.putI d4_2 w46 fS_5 (Or.inl w47) <| Runs.aloadN d4_5 rfl <| Runs.iconst d4_6 ci_m1 <| Runs.putI d4_7 w48 fS_6 (Or.inl w49) <| Runs.retV d4_10 rfl ⟨by decide, by decide⟩ ⟨rfl, rfl⟩
theorem X_resetResult_pay {C : Ctx} {top : Nat} {a : Nat} {H : List (Nat × Nat × Rec)} {res : Rec} {ob : Rec} (hf : X_resetResult ob = some res) : Pays C B4 [.ref a] (top, (a, 6, ob) :: H) (Ans none (top, (a, 6, res) :: H)) :=
  Pays.of pnK (Nat.le_of_ble_eq_true rfl) (P := [vr a]) 0 rfl (X_resetResult_p ob hf)
def X_init_b70 (ob : Rec) (i2 : Int32) : Option (Rec) :=
  (X_resetResult (sI (sI (sI (sI (sI (sI ob 0 i2) 1 (0 : Int32)) 2 (0 : Int32)) 3 (0 : Int32)) 4 (0 : Int32)) 7 (0 : Int32))).bind fun q2 =>
  some q2
set_option maxRecDepth 65536 in
set_option maxHeartbeats 4000000 in
theorem X_init_b70_p {C : Ctx} {a : Nat} {H : List (Nat × Nat × Rec)} {res : Rec} (ob : Rec) (i2 : Int32) (hf : X_init_b70 ob i2 = some res) : Runs C B3 6 204 70 [vr a, vn, vi i2] [] (a + 1 + 6, (a, 6, ob) :: H) (Ans none (a + 1 + 6, (a, 6, res) :: H)) := by
  delta X_init_b70 at hf
  refine Runs.aloadN d3_70 rfl <| Runs.iloadN d3_71 rfl <| Runs.putI d3_72 w30 fS_0 (Or.inl w31) <| Runs.aloadN d3_75 rfl <| Runs.iconst d3_76 ci_0 <| Runs.putI d3_77 w32 fS_1 (Or.inl w33) <| Runs.aloadN d3_80 rfl <| Runs.iconst d3_81 ci_0 <| Runs.putI d3_82 w34 fS_2 (Or.inl w35) <| Runs.aloadN d3_85 rfl <| Runs.iconst d3_86 ci_0 <| Runs.putI d3_87 w36 fS_3 (Or.inl w37) <| ?_
  refine Runs.aloadN d3_90 rfl <| Runs.iconst d3_91 ci_0 <| Runs.putZ (y := (0 : Int32)) d3_92 w38 fS_4 (Or.inl w39) rfl <| Runs.aloadN d3_95 rfl <| Runs.iconst d3_96 ci_0 <| Runs.putZ (y := (0 : Int32)) d3_97 w40 fS_7 (Or.inl w41) rfl <| Runs.aloadN d3_100 rfl <| ?_
  refine bind_el hf fun q2 hg3 hf => ?_
  obtain rfl := Option.some.inj hf
  exact Runs.callP (N := B4) (W := 0) (as := []) (S' := []) d3_101 w42 w43 w44 rfl cw4 ar4 rk3_4_0 (by decide) rfl rfl (X_resetResult_pay hg3) <| ans0 <| Runs.retV d3_104 rfl ⟨by decide, by decide⟩ ⟨rfl, rfl⟩
def X_init_b61 (ob : Rec) (i2 : Int32) : Option (Rec) :=
  if (32 : Int32) < i2 then
    X_init_b70 ob (32 : Int32)
  else
    X_init_b70 ob i2
set_option maxRecDepth 65536 in
set_option maxHeartbeats 4000000 in
theorem X_init_b61_p {C : Ctx} {a : Nat} {H : List (Nat × Nat × Rec)} {res : Rec} (ob : Rec) (i2 : Int32) (hf : X_init_b61 ob i2 = some res) : Runs C B3 6 204 61 [vr a, vn, vi i2] [] (a + 1 + 6, (a, 6, ob) :: H) (Ans none (a + 1 + 6, (a, 6, res) :: H)) := by
  delta X_init_b61 at hf
  refine Runs.iloadN d3_61 rfl <| Runs.bipush d3_62 cb_32 <| ?_
  refine ite_el hf (fun hc1 hf => ?_) (fun hc1 hf => ?_)
  · refine Runs.icN d3_64 (tlt hc1).2.2.2 <| ?_
    exact Runs.bipush d3_67 cb_32 <| Runs.istoreN (P' := [vr a, vn, vi (32 : Int32)]) d3_69 (by decide) rfl <| X_init_b70_p ob (32 : Int32) hf
  · exact Runs.icY (pc' := 70) d3_64 (flt hc1).2.2.2 (by decide) <| X_init_b70_p ob i2 hf
def X_init (i1 : Int32) : Option (Rec) :=
  if i1 < (8 : Int32) then
    X_init_b61 zrec (8 : Int32)
  else
    X_init_b61 zrec i1
set_option maxRecDepth 65536 in
set_option maxHeartbeats 4000000 in
theorem X_init_p {C : Ctx} {a : Nat} {H : List (Nat × Nat × Rec)} {res : Rec} (i1 : Int32) (hf : X_init i1 = some res) : Runs C B3 0 0 0 [vr a, vi i1, vn] [] (a + 1, (a, 0, zrec) :: H) (Ans none (a + 1 + 6, (a, 6, res) :: H)) := by
  delta X_init at hf
  refine Runs.aloadN d3_0 rfl <| Runs.initO (W := 0) d3_1 w13 w14 w15 rfl (by decide) <| Runs.aloadN d3_4 rfl <| Runs.bipush d3_5 cb_32 <| Runs.newArr (j' := 1) (top' := a + 1 + 1) (k' := 1) (n' := 32) d3_7 d3_9 fA_0 w17 rfl w16 (Or.inr ⟨rfl, rfl⟩) rfl (by decide) ⟨by decide, by decide⟩ ⟨fun _ => rfl, fun _ => rfl⟩ rfl rfl rfl (by decide) <| Runs.aloadN d3_12 rfl <| Runs.bipush d3_13 cb_32 <| Runs.newArr (j' := 2) (top' := a + 1 + 2) (k' := 2) (n' := 64) d3_15 d3_17 fA_1 w19 rfl w16 (Or.inr ⟨rfl, rfl⟩) rfl (by decide) ⟨by decide, by decide⟩ ⟨fun _ => rfl, fun _ => rfl⟩ rfl rfl rfl (by decide) <| Runs.aloadN d3_20 rfl <| Runs.sipush d3_21 cs_128 <| Runs.newArr (j' := 3) (top' := a + 1 + 3) (k' := 3) (n' := 192) d3_24 d3_26 fA_2 w22 rfl w21 (Or.inr ⟨rfl, rfl⟩) rfl (by decide) ⟨by decide, by decide⟩ ⟨fun _ => rfl, fun _ => rfl⟩ rfl rfl rfl (by decide) <| Runs.aloadN d3_29 rfl <| ?_
  refine Runs.iconst d3_30 ci_4 <| Runs.newArr (j' := 4) (top' := a + 1 + 4) (k' := 4) (n' := 196) d3_31 d3_33 fA_3 w24 rfl w21 (Or.inr ⟨rfl, rfl⟩) rfl (by decide) ⟨by decide, by decide⟩ ⟨fun _ => rfl, fun _ => rfl⟩ rfl rfl rfl (by decide) <| Runs.aloadN d3_36 rfl <| Runs.iconst d3_37 ci_4 <| Runs.newArr (j' := 5) (top' := a + 1 + 5) (k' := 5) (n' := 200) d3_38 d3_40 fA_4 w26 rfl w21 (Or.inr ⟨rfl, rfl⟩) rfl (by decide) ⟨by decide, by decide⟩ ⟨fun _ => rfl, fun _ => rfl⟩ rfl rfl rfl (by decide) <| Runs.aloadN d3_43 rfl <| Runs.iconst d3_44 ci_4 <| Runs.newArr (j' := 6) (top' := a + 1 + 6) (k' := 6) (n' := 204) d3_45 d3_47 fA_5 w28 rfl w21 (Or.inr ⟨rfl, rfl⟩) rfl (by decide) ⟨by decide, by decide⟩ ⟨fun _ => rfl, fun _ => rfl⟩ rfl rfl rfl (by decide) <| Runs.iloadN d3_50 rfl <| Runs.istoreN (P' := [vr a, vi i1, vi i1]) d3_51 (by decide) rfl <| Runs.iloadN d3_52 rfl <| Runs.bipush d3_53 cb_8 <| ?_
  refine ite_el hf (fun hc4 hf => ?_) (fun hc4 hf => ?_)
  · refine Runs.icN d3_55 (tlt hc4).2.1 <| ?_
    exact Runs.bipush d3_58 cb_8 <| Runs.istoreN (P' := [vr a, vi i1, vi (8 : Int32)]) d3_60 (by decide) rfl <| Runs.forget [true, false, true] rfl <| X_init_b61_p zrec (8 : Int32) hf
  · exact Runs.icY (pc' := 61) d3_55 (flt hc4).2.1 (by decide) <| Runs.forget [true, false, true] rfl <| X_init_b61_p zrec i1 hf
theorem X_init_pay {C : Ctx} {a : Nat} {H : List (Nat × Nat × Rec)} {res : Rec} {i1 : Int32} (hf : X_init i1 = some res) : Pays C B3 [.ref a, .int i1] (a + 1, (a, 0, zrec) :: H) (Ans none (a + 1 + 6, (a, 6, res) :: H)) :=
  Pays.of pnK (Nat.le_of_ble_eq_true rfl) (P := [vr a, vi i1, vn]) 1 rfl (X_init_p i1 hf)
def X_arity (ob : Rec) (i1 : Int32) : Option (Int32) :=
  if (9 : Int32) < i1 then
    if i1 = (10 : Int32) then
      some (1 : Int32)
    else
      some (2 : Int32)
  else
    some (0 : Int32)
set_option maxRecDepth 65536 in
set_option maxHeartbeats 4000000 in
theorem X_arity_p {C : Ctx} {top : Nat} {a : Nat} {H : List (Nat × Nat × Rec)} {ob : Rec} {res : Int32} (i1 : Int32) (hf : X_arity ob i1 = some res) : Runs C B6 0 0 0 [vr a, vi i1] [] (top, (a, 6, ob) :: H) (Ans (some (.int res)) (top, (a, 6, ob) :: H)) := by
  delta X_arity at hf
  refine Runs.iloadN d6_0 rfl <| Runs.bipush d6_1 cb_9 <| ?_
  refine ite_el hf (fun hc1 hf => ?_) (fun hc1 hf => ?_)
  · refine Runs.icY (pc' := 8) d6_3 (tlt hc1).2.2.1 (by decide) <| ?_
    refine Runs.iloadN d6_8 rfl <| Runs.bipush d6_9 cb_10 <| ?_
    refine ite_el hf (fun hc2 hf => ?_) (fun hc2 hf => ?_)
    · refine Runs.icN d6_11 (teq hc2).2 <| ?_
      obtain rfl := Option.some.inj hf
      exact Runs.iconst d6_14 ci_1 <| Runs.retI d6_15 rfl ⟨by decide, by decide⟩ ⟨rfl, rfl⟩
    · refine Runs.icY (pc' := 16) d6_11 (feq hc2).2 (by decide) <| ?_
      obtain rfl := Option.some.inj hf
      exact Runs.iconst d6_16 ci_2 <| Runs.retI d6_17 rfl ⟨by decide, by decide⟩ ⟨rfl, rfl⟩
  · refine Runs.icN d6_3 (flt hc1).2.2.1 <| ?_
    obtain rfl := Option.some.inj hf
    exact Runs.iconst d6_6 ci_0 <| Runs.retI d6_7 rfl ⟨by decide, by decide⟩ ⟨rfl, rfl⟩
theorem X_arity_pay {C : Ctx} {top : Nat} {a : Nat} {H : List (Nat × Nat × Rec)} {ob : Rec} {res : Int32} {i1 : Int32} (hf : X_arity ob i1 = some res) : Pays C B6 [.ref a, .int i1] (top, (a, 6, ob) :: H) (Ans (some (.int res)) (top, (a, 6, ob) :: H)) :=
  Pays.of pnK (Nat.le_of_ble_eq_true rfl) (P := [vr a, vi i1]) 0 rfl (X_arity_p i1 hf)
def X_pushToken (ob : Rec) (i1 : Int32) : Option (Int32 × Rec) :=
  if i1 < (0 : Int32) then
    some ((-1 : Int32), ob)
  else
    if (15 : Int32) < i1 then
      some ((-1 : Int32), ob)
    else
      if (gI ob 1) < (gI ob 0) then
        (X_arity ob i1).bind fun r4 =>
        if (gI ob 2) < r4 then
          some ((-3 : Int32), ob)
        else
          chk (32 : Int32) (gI ob 1) <|
          (X_resetResult (sI (sI (sI (sA ob 0 (gI ob 1) i1) 1 ((gI ob 1) + (1 : Int32))) 2 (((gI ob 2) + (1 : Int32)) - r4)) 7 (0 : Int32))).bind fun q8 =>
          some ((0 : Int32), q8)
      else
        some ((-2 : Int32), ob)
set_option maxRecDepth 65536 in
set_option maxHeartbeats 4000000 in
theorem X_pushToken_p {C : Ctx} {top : Nat} {a : Nat} {H : List (Nat × Nat × Rec)} {res : Int32 × Rec} (ob : Rec) (i1 : Int32) (hf : X_pushToken ob i1 = some res) : Runs C B5 0 0 0 [vr a, vi i1, vn] [] (top, (a, 6, ob) :: H) (Ans (some (.int res.1)) (top, (a, 6, res.2) :: H)) := by
  delta X_pushToken at hf
  refine Runs.iloadN d5_0 rfl <| ?_
  refine ite_el hf (fun hc1 hf => ?_) (fun hc1 hf => ?_)
  · refine Runs.ifY (pc' := 10) d5_1 (tlt hc1).1 (by decide) <| ?_
    obtain rfl := Option.some.inj hf
    exact Runs.iconst d5_10 ci_m1 <| Runs.retI d5_11 rfl ⟨by decide, by decide⟩ ⟨rfl, rfl⟩
  · refine Runs.ifN d5_1 (flt hc1).1 <| ?_
    refine Runs.iloadN d5_4 rfl <| Runs.bipush d5_5 cb_15 <| ?_
    refine ite_el hf (fun hc2 hf => ?_) (fun hc2 hf => ?_)
    · refine Runs.icN d5_7 (tlt hc2).2.2.2 <| ?_
      obtain rfl := Option.some.inj hf
      exact Runs.iconst d5_10 ci_m1 <| Runs.retI d5_11 rfl ⟨by decide, by decide⟩ ⟨rfl, rfl⟩
    · refine Runs.icY (pc' := 12) d5_7 (flt hc2).2.2.2 (by decide) <| ?_
      refine Runs.aloadN d5_12 rfl <| Runs.getI d5_13 w32 fS_1 <| Runs.aloadN d5_16 rfl <| Runs.getI d5_17 w30 fS_0 <| ?_
      refine ite_el hf (fun hc3 hf => ?_) (fun hc3 hf => ?_)
      · refine Runs.icY (pc' := 26) d5_20 (tlt hc3).1 (by decide) <| ?_
        refine Runs.aloadN d5_26 rfl <| Runs.iloadN d5_27 rfl <| ?_
        refine bind_el hf fun r4 hg5 hf => ?_
        refine Runs.callP (N := B6) (W := 0) (as := [.int i1]) (S' := []) d5_28 w55 w56 w57 rfl cw6 ar6 rk5_6_0 (by decide) rfl rfl (X_arity_pay hg5) <| ans1 <| Runs.istoreN (P' := [vr a, vi i1, vi r4]) d5_31 (by decide) rfl <| Runs.iloadN d5_32 rfl <| Runs.aloadN d5_33 rfl <| Runs.getI d5_34 w34 fS_2 <| ?_
        refine ite_el hf (fun hc6 hf => ?_) (fun hc6 hf => ?_)
        · refine Runs.icN d5_37 (tlt hc6).2.2.2 <| ?_
          obtain rfl := Option.some.inj hf
          exact Runs.bipush d5_40 cb_m3 <| Runs.retI d5_42 rfl ⟨by decide, by decide⟩ ⟨rfl, rfl⟩
        · refine Runs.icY (pc' := 43) d5_37 (flt hc6).2.2.2 (by decide) <| ?_
          refine Runs.aloadN d5_43 rfl <| Runs.getA d5_44 fA_0 w17 (by decide) <| Runs.aloadN d5_47 rfl <| Runs.getI d5_48 w32 fS_1 <| Runs.iloadN d5_51 rfl <| ?_
          refine chk_el hf fun hi7 hf => ?_
          refine Runs.iastoreA d5_52 fA_0 (by decide) hi7 <| Runs.aloadN d5_53 rfl <| Runs.aloadN d5_54 rfl <| Runs.getI d5_55 w32 fS_1 <| Runs.iconst d5_58 ci_1 <| Runs.iadd d5_59 <| Runs.putI d5_60 w32 fS_1 (Or.inl w33) <| Runs.aloadN d5_63 rfl <| Runs.aloadN d5_64 rfl <| Runs.getI d5_65 w34 fS_2 <| Runs.iconst d5_68 ci_1 <| Runs.iadd d5_69 <| ?_
          refine Runs.iloadN d5_70 rfl <| Runs.isub d5_71 <| Runs.putI d5_72 w34 fS_2 (Or.inl w35) <| Runs.aloadN d5_75 rfl <| Runs.iconst d5_76 ci_0 <| Runs.putZ (y := (0 : Int32)) d5_77 w40 fS_7 (Or.inl w41) rfl <| Runs.aloadN d5_80 rfl <| ?_
          refine bind_el hf fun q8 hg9 hf => ?_
          obtain rfl := Option.some.inj hf
          exact Runs.callP (N := B4) (W := 0) (as := []) (S' := []) d5_81 w42 w43 w44 rfl cw4 ar4 rk5_4_0 (by decide) rfl rfl (X_resetResult_pay hg9) <| ans0 <| Runs.iconst d5_84 ci_0 <| Runs.retI d5_85 rfl ⟨by decide, by decide⟩ ⟨rfl, rfl⟩
      · refine Runs.icN d5_20 (flt hc3).1 <| ?_
        obtain rfl := Option.some.inj hf
        exact Runs.bipush d5_23 cb_m2 <| Runs.retI d5_25 rfl ⟨by decide, by decide⟩ ⟨rfl, rfl⟩
theorem X_pushToken_pay {C : Ctx} {top : Nat} {a : Nat} {H : List (Nat × Nat × Rec)} {res : Int32 × Rec} {ob : Rec} {i1 : Int32} (hf : X_pushToken ob i1 = some res) : Pays C B5 [.ref a, .int i1] (top, (a, 6, ob) :: H) (Ans (some (.int res.1)) (top, (a, 6, res.2) :: H)) :=
  Pays.of pnK (Nat.le_of_ble_eq_true rfl) (P := [vr a, vi i1, vn]) 1 rfl (X_pushToken_p ob i1 hf)
def X_completeF (ob : Rec) : Option (Int32) :=
  if (gI ob 2) = (1 : Int32) then
    some (1 : Int32)
  else
    some (0 : Int32)
set_option maxRecDepth 65536 in
set_option maxHeartbeats 4000000 in
theorem X_completeF_p {C : Ctx} {top : Nat} {a : Nat} {H : List (Nat × Nat × Rec)} {ob : Rec} {res : Int32} (hf : X_completeF ob = some res) : Runs C B8 0 0 0 [vr a] [] (top, (a, 6, ob) :: H) (Ans (some (.int res)) (top, (a, 6, ob) :: H)) := by
  delta X_completeF at hf
  refine Runs.aloadN d8_0 rfl <| Runs.getI d8_1 w34 fS_2 <| Runs.iconst d8_4 ci_1 <| ?_
  refine ite_el hf (fun hc1 hf => ?_) (fun hc1 hf => ?_)
  · refine Runs.icN d8_5 (teq hc1).2 <| ?_
    obtain rfl := Option.some.inj hf
    exact Runs.iconst d8_8 ci_1 <| Runs.goto (pc' := 13) d8_9 (by decide) <| Runs.retZ (y := (1 : Int32)) d8_13 rfl ⟨by decide, by decide⟩ rfl ⟨rfl, rfl⟩
  · refine Runs.icY (pc' := 12) d8_5 (feq hc1).2 (by decide) <| ?_
    obtain rfl := Option.some.inj hf
    exact Runs.iconst d8_12 ci_0 <| Runs.retZ (y := (0 : Int32)) d8_13 rfl ⟨by decide, by decide⟩ rfl ⟨rfl, rfl⟩
theorem X_completeF_pay {C : Ctx} {top : Nat} {a : Nat} {H : List (Nat × Nat × Rec)} {ob : Rec} {res : Int32} (hf : X_completeF ob = some res) : Pays C B8 [.ref a] (top, (a, 6, ob) :: H) (Ans (some (.int res)) (top, (a, 6, ob) :: H)) :=
  Pays.of pnK (Nat.le_of_ble_eq_true rfl) (P := [vr a]) 0 rfl (X_completeF_p hf)
def X_varWord (ob : Rec) (i1 : Int32) (i2 : Int32) : Option (Int64) :=
  if i1 = (0 : Int32) then
    some (-6148914691236517206 : Int64)
  else
  if i1 = (1 : Int32) then
    some (-3689348814741910324 : Int64)
  else
  if i1 = (2 : Int32) then
    some (-1085102592571150096 : Int64)
  else
  if i1 = (3 : Int32) then
    some (-71777214294589696 : Int64)
  else
  if i1 = (4 : Int32) then
    some (-281470681808896 : Int64)
  else
  if i1 = (5 : Int32) then
    some (-4294967296 : Int64)
  else
  if i1 = (6 : Int32) then
    if (i2 &&& (1 : Int32)) = (0 : Int32) then
      some (0 : Int64)
    else
      some (-1 : Int64)
  else
    if (i2 &&& (2 : Int32)) = (0 : Int32) then
      some (0 : Int64)
    else
      some (-1 : Int64)
set_option maxRecDepth 65536 in
set_option maxHeartbeats 4000000 in
theorem X_varWord_p {C : Ctx} {top : Nat} {a : Nat} {H : List (Nat × Nat × Rec)} {ob : Rec} {res : Int64} (i1 : Int32) (i2 : Int32) (hf : X_varWord ob i1 i2 = some res) : Runs C B13 0 0 0 [vr a, vi i1, vi i2] [] (top, (a, 6, ob) :: H) (Ans (some (.long res)) (top, (a, 6, ob) :: H)) := by
  delta X_varWord at hf
  refine Runs.iloadN d13_0 rfl <| ?_
  refine ite_el hf (fun hc1 hf => ?_) (fun hc1 hf => ?_)
  · refine Runs.tswI (pc' := 44) d13_1 (by rw [hc1]; decide) (by rw [hc1]; rfl) (by decide) <| ?_
    obtain rfl := Option.some.inj hf
    exact Runs.ldc2 d13_44 w88 <| Runs.retJ d13_47 rfl ⟨by decide, by decide⟩ ⟨rfl, rfl⟩
  refine ite_el hf (fun hc2 hf => ?_) (fun hc2 hf => ?_)
  · refine Runs.tswI (pc' := 48) d13_1 (by rw [hc2]; decide) (by rw [hc2]; rfl) (by decide) <| ?_
    obtain rfl := Option.some.inj hf
    exact Runs.ldc2 d13_48 w172 <| Runs.retJ d13_51 rfl ⟨by decide, by decide⟩ ⟨rfl, rfl⟩
  refine ite_el hf (fun hc3 hf => ?_) (fun hc3 hf => ?_)
  · refine Runs.tswI (pc' := 52) d13_1 (by rw [hc3]; decide) (by rw [hc3]; rfl) (by decide) <| ?_
    obtain rfl := Option.some.inj hf
    exact Runs.ldc2 d13_52 w171 <| Runs.retJ d13_55 rfl ⟨by decide, by decide⟩ ⟨rfl, rfl⟩
  refine ite_el hf (fun hc4 hf => ?_) (fun hc4 hf => ?_)
  · refine Runs.tswI (pc' := 56) d13_1 (by rw [hc4]; decide) (by rw [hc4]; rfl) (by decide) <| ?_
    obtain rfl := Option.some.inj hf
    exact Runs.ldc2 d13_56 w89 <| Runs.retJ d13_59 rfl ⟨by decide, by decide⟩ ⟨rfl, rfl⟩
  refine ite_el hf (fun hc5 hf => ?_) (fun hc5 hf => ?_)
  · refine Runs.tswI (pc' := 60) d13_1 (by rw [hc5]; decide) (by rw [hc5]; rfl) (by decide) <| ?_
    obtain rfl := Option.some.inj hf
    exact Runs.ldc2 d13_60 w170 <| Runs.retJ d13_63 rfl ⟨by decide, by decide⟩ ⟨rfl, rfl⟩
  refine ite_el hf (fun hc6 hf => ?_) (fun hc6 hf => ?_)
  · refine Runs.tswI (pc' := 64) d13_1 (by rw [hc6]; decide) (by rw [hc6]; rfl) (by decide) <| ?_
    obtain rfl := Option.some.inj hf
    exact Runs.ldc2 d13_64 w173 <| Runs.retJ d13_67 rfl ⟨by decide, by decide⟩ ⟨rfl, rfl⟩
  refine ite_el hf (fun hc7 hf => ?_) (fun hc7 hf => ?_)
  · refine Runs.tswI (pc' := 68) d13_1 (by rw [hc7]; decide) (by rw [hc7]; rfl) (by decide) <| ?_
    refine Runs.iloadN d13_68 rfl <| Runs.iconst d13_69 ci_1 <| Runs.iand d13_70 <| ?_
    refine ite_el hf (fun hc8 hf => ?_) (fun hc8 hf => ?_)
    · refine Runs.ifY (pc' := 80) d13_71 (teq hc8).1 (by decide) <| ?_
      obtain rfl := Option.some.inj hf
      exact Runs.lconst d13_80 cl_0 <| Runs.retJ d13_81 rfl ⟨by decide, by decide⟩ ⟨rfl, rfl⟩
    · refine Runs.ifN d13_71 (feq hc8).1 <| ?_
      obtain rfl := Option.some.inj hf
      exact Runs.ldc2 d13_74 w98 <| Runs.goto (pc' := 81) d13_77 (by decide) <| Runs.retJ d13_81 rfl ⟨by decide, by decide⟩ ⟨rfl, rfl⟩
  refine Runs.tswO (pc' := 82) d13_1 (by have u0 : Int32.toInt i1 ≠ 0 := fun u => hc1 (Int32.toInt_inj.mp (u.trans (by decide))); have u1 : Int32.toInt i1 ≠ 1 := fun u => hc2 (Int32.toInt_inj.mp (u.trans (by decide))); have u2 : Int32.toInt i1 ≠ 2 := fun u => hc3 (Int32.toInt_inj.mp (u.trans (by decide))); have u3 : Int32.toInt i1 ≠ 3 := fun u => hc4 (Int32.toInt_inj.mp (u.trans (by decide))); have u4 : Int32.toInt i1 ≠ 4 := fun u => hc5 (Int32.toInt_inj.mp (u.trans (by decide))); have u5 : Int32.toInt i1 ≠ 5 := fun u => hc6 (Int32.toInt_inj.mp (u.trans (by decide))); have u6 : Int32.toInt i1 ≠ 6 := fun u => hc7 (Int32.toInt_inj.mp (u.trans (by decide))); omega) (by decide) <| ?_
  refine Runs.iloadN d13_82 rfl <| Runs.iconst d13_83 ci_2 <| Runs.iand d13_84 <| ?_
  refine ite_el hf (fun hc9 hf => ?_) (fun hc9 hf => ?_)
  · refine Runs.ifY (pc' := 94) d13_85 (teq hc9).1 (by decide) <| ?_
    obtain rfl := Option.some.inj hf
    exact Runs.lconst d13_94 cl_0 <| Runs.retJ d13_95 rfl ⟨by decide, by decide⟩ ⟨rfl, rfl⟩
  · refine Runs.ifN d13_85 (feq hc9).1 <| ?_
    obtain rfl := Option.some.inj hf
    exact Runs.ldc2 d13_88 w98 <| Runs.goto (pc' := 95) d13_91 (by decide) <| Runs.retJ d13_95 rfl ⟨by decide, by decide⟩ ⟨rfl, rfl⟩
theorem X_varWord_pay {C : Ctx} {top : Nat} {a : Nat} {H : List (Nat × Nat × Rec)} {ob : Rec} {res : Int64} {i1 : Int32} {i2 : Int32} (hf : X_varWord ob i1 i2 = some res) : Pays C B13 [.ref a, .int i1, .int i2] (top, (a, 6, ob) :: H) (Ans (some (.long res)) (top, (a, 6, ob) :: H)) :=
  Pays.of pnK (Nat.le_of_ble_eq_true rfl) (P := [vr a, vi i1, vi i2]) 0 rfl (X_varWord_p i1 i2 hf)
def X_leafWord (ob : Rec) (i1 : Int32) (i2 : Int32) : Option (Int64) :=
  if i1 = (8 : Int32) then
    some (0 : Int64)
  else
    if i1 = (9 : Int32) then
      some (-1 : Int64)
    else
      (X_varWord ob i1 i2).bind fun r3 =>
      some r3
set_option maxRecDepth 65536 in
set_option maxHeartbeats 4000000 in
theorem X_leafWord_p {C : Ctx} {top : Nat} {a : Nat} {H : List (Nat × Nat × Rec)} {ob : Rec} {res : Int64} (i1 : Int32) (i2 : Int32) (hf : X_leafWord ob i1 i2 = some res) : Runs C B12 0 0 0 [vr a, vi i1, vi i2] [] (top, (a, 6, ob) :: H) (Ans (some (.long res)) (top, (a, 6, ob) :: H)) := by
  delta X_leafWord at hf
  refine Runs.iloadN d12_0 rfl <| Runs.bipush d12_1 cb_8 <| ?_
  refine ite_el hf (fun hc1 hf => ?_) (fun hc1 hf => ?_)
  · refine Runs.icN d12_3 (teq hc1).2 <| ?_
    obtain rfl := Option.some.inj hf
    exact Runs.lconst d12_6 cl_0 <| Runs.retJ d12_7 rfl ⟨by decide, by decide⟩ ⟨rfl, rfl⟩
  · refine Runs.icY (pc' := 8) d12_3 (feq hc1).2 (by decide) <| ?_
    refine Runs.iloadN d12_8 rfl <| Runs.bipush d12_9 cb_9 <| ?_
    refine ite_el hf (fun hc2 hf => ?_) (fun hc2 hf => ?_)
    · refine Runs.icN d12_11 (teq hc2).2 <| ?_
      obtain rfl := Option.some.inj hf
      exact Runs.ldc2 d12_14 w98 <| Runs.retJ d12_17 rfl ⟨by decide, by decide⟩ ⟨rfl, rfl⟩
    · refine Runs.icY (pc' := 18) d12_11 (feq hc2).2 (by decide) <| ?_
      refine Runs.aloadN d12_18 rfl <| Runs.iloadN d12_19 rfl <| Runs.iloadN d12_20 rfl <| ?_
      refine bind_el hf fun r3 hg4 hf => ?_
      obtain rfl := Option.some.inj hf
      exact Runs.callP (N := B13) (W := 0) (as := [.int i1, .int i2]) (S' := []) d12_21 w84 w85 w86 rfl cw13 ar13 rk12_13_0 (by decide) rfl rfl (X_varWord_pay hg4) <| ans1 <| Runs.retJ d12_24 rfl ⟨by decide, by decide⟩ ⟨rfl, rfl⟩
theorem X_leafWord_pay {C : Ctx} {top : Nat} {a : Nat} {H : List (Nat × Nat × Rec)} {ob : Rec} {res : Int64} {i1 : Int32} {i2 : Int32} (hf : X_leafWord ob i1 i2 = some res) : Pays C B12 [.ref a, .int i1, .int i2] (top, (a, 6, ob) :: H) (Ans (some (.long res)) (top, (a, 6, ob) :: H)) :=
  Pays.of pnK (Nat.le_of_ble_eq_true rfl) (P := [vr a, vi i1, vi i2]) 0 rfl (X_leafWord_p i1 i2 hf)
def X_pushLeaf_w7 (NF : Nat) (k7 : Rec → Int32 → Int32 → Int32 → Option (Rec)) (ob : Rec) (i1 : Int32) (i3 : Int32) (i4 : Int32) : Option (Rec) :=
  if i4 < (4 : Int32) then
    (X_leafWord ob i1 i4).bind fun r2 =>
    chk (128 : Int32) (i3 + i4) <|
    k7 (sJ ob 2 (i3 + i4) r2) i1 i3 (i4 + (1 : Int32))
  else
    some ob
def X_pushLeaf_l7 (NF : Nat) : Nat → Rec → Int32 → Int32 → Int32 → Option (Rec)
  | 0, _, _, _, _ => none
  | n + 1, ob, i1, i3, i4 => X_pushLeaf_w7 NF (X_pushLeaf_l7 NF n) ob i1 i3 i4
set_option maxRecDepth 65536 in
set_option maxHeartbeats 4000000 in
theorem X_pushLeaf_w7_p {C : Ctx} {top : Nat} {a : Nat} {H : List (Nat × Nat × Rec)} {res : Rec} {NF : Nat} (k7 : Rec → Int32 → Int32 → Int32 → Option (Rec)) (hk7 : ∀ (ob : Rec) (i1 : Int32) (i3 : Int32) (i4 : Int32), k7 ob i1 i3 i4 = some res → Runs C B11 0 0 7 [vr a, vi i1, vn, vi i3, vi i4] [] (top, (a, 6, ob) :: H) (Ans none (top, (a, 6, res) :: H))) (ob : Rec) (i1 : Int32) (i3 : Int32) (i4 : Int32) (hf : X_pushLeaf_w7 NF k7 ob i1 i3 i4 = some res) : Runs C B11 0 0 7 [vr a, vi i1, vn, vi i3, vi i4] [] (top, (a, 6, ob) :: H) (Ans none (top, (a, 6, res) :: H)) := by
  delta X_pushLeaf_w7 at hf
  refine Runs.iload d11_7 rfl <| Runs.iconst d11_9 ci_4 <| ?_
  refine ite_el hf (fun hc1 hf => ?_) (fun hc1 hf => ?_)
  · refine Runs.icN d11_10 (tlt hc1).2.1 <| ?_
    refine Runs.aloadN d11_13 rfl <| Runs.getA d11_14 fA_2 w22 (by decide) <| Runs.iloadN d11_17 rfl <| Runs.iload d11_18 rfl <| Runs.iadd d11_20 <| Runs.aloadN d11_21 rfl <| Runs.iloadN d11_22 rfl <| Runs.iload d11_23 rfl <| ?_
    refine bind_el hf fun r2 hg3 hf => ?_
    refine Runs.callP (N := B12) (W := 2) (as := [.int i1, .int i4]) (S' := [.int (i3 + i4), .ref (a + 1 + 2)]) d11_25 w80 w81 w82 rfl cw12 ar12 rk11_12_2 (by decide) rfl rfl (X_leafWord_pay hg3) <| ans1 <| ?_
    refine chk_el hf fun hi4 hf => ?_
    exact Runs.lastoreA d11_28 fA_2 (by decide) hi4 <| Runs.iinc (P' := [vr a, vi i1, vn, vi i3, vi (i4 + (1 : Int32))]) d11_29 ci_1 rfl (by decide) rfl <| Runs.goto (pc' := 7) d11_32 (by decide) <| hk7 (sJ ob 2 (i3 + i4) r2) i1 i3 (i4 + (1 : Int32)) hf
  · refine Runs.icY (pc' := 35) d11_10 (flt hc1).2.1 (by decide) <| ?_
    obtain rfl := Option.some.inj hf
    exact Runs.retV d11_35 rfl ⟨by decide, by decide⟩ ⟨rfl, rfl⟩
theorem X_pushLeaf_l7_p {C : Ctx} {top : Nat} {a : Nat} {H : List (Nat × Nat × Rec)} {res : Rec} {NF : Nat} (n : Nat) (ob : Rec) (i1 : Int32) (i3 : Int32) (i4 : Int32) (hf : X_pushLeaf_l7 NF n ob i1 i3 i4 = some res) : Runs C B11 0 0 7 [vr a, vi i1, vn, vi i3, vi i4] [] (top, (a, 6, ob) :: H) (Ans none (top, (a, 6, res) :: H)) := by
  induction n generalizing ob i1 i3 i4 with
  | zero => cases (show (none : Option (Rec)) = some res from hf)
  | succ n ih => exact X_pushLeaf_w7_p (X_pushLeaf_l7 NF n) (fun ob i1 i3 i4 h => ih _ _ _ _ h) ob i1 i3 i4 hf
def X_pushLeaf (NF : Nat) (ob : Rec) (i1 : Int32) (i2 : Int32) : Option (Rec) :=
  X_pushLeaf_l7 NF NF ob i1 (i2 * (4 : Int32)) (0 : Int32)
set_option maxRecDepth 65536 in
set_option maxHeartbeats 4000000 in
theorem X_pushLeaf_p {C : Ctx} {top : Nat} {a : Nat} {H : List (Nat × Nat × Rec)} {res : Rec} {NF : Nat} (ob : Rec) (i1 : Int32) (i2 : Int32) (hf : X_pushLeaf NF ob i1 i2 = some res) : Runs C B11 0 0 0 [vr a, vi i1, vi i2, vn, vn] [] (top, (a, 6, ob) :: H) (Ans none (top, (a, 6, res) :: H)) := by
  delta X_pushLeaf at hf
  exact Runs.iloadN d11_0 rfl <| Runs.iconst d11_1 ci_4 <| Runs.imul d11_2 <| Runs.istoreN (P' := [vr a, vi i1, vi i2, vi (i2 * (4 : Int32)), vn]) d11_3 (by decide) rfl <| Runs.iconst d11_4 ci_0 <| Runs.istore (P' := [vr a, vi i1, vi i2, vi (i2 * (4 : Int32)), vi (0 : Int32)]) d11_5 (by decide) rfl <| Runs.forget [true, true, false, true, true] rfl <| X_pushLeaf_l7_p NF ob i1 (i2 * (4 : Int32)) (0 : Int32) hf
theorem X_pushLeaf_pay {C : Ctx} {top : Nat} {a : Nat} {H : List (Nat × Nat × Rec)} {res : Rec} {NF : Nat} {ob : Rec} {i1 : Int32} {i2 : Int32} (hf : X_pushLeaf NF ob i1 i2 = some res) : Pays C B11 [.ref a, .int i1, .int i2] (top, (a, 6, ob) :: H) (Ans none (top, (a, 6, res) :: H)) :=
  Pays.of pnK (Nat.le_of_ble_eq_true rfl) (P := [vr a, vi i1, vi i2, vn, vn]) 2 rfl (X_pushLeaf_p ob i1 i2 hf)
def X_combine (ob : Rec) (i1 : Int32) (l2 : Int64) (l4 : Int64) : Option (Int64) :=
  if i1 = (11 : Int32) then
    some (l2 &&& l4)
  else
  if i1 = (12 : Int32) then
    some (l2 ||| l4)
  else
  if i1 = (13 : Int32) then
    some ((l2 ^^^ (-1 : Int64)) ||| l4)
  else
  if i1 = (14 : Int32) then
    some ((l2 ^^^ l4) ^^^ (-1 : Int64))
  else
    some (l2 ^^^ l4)
set_option maxRecDepth 65536 in
set_option maxHeartbeats 4000000 in
theorem X_combine_p {C : Ctx} {top : Nat} {a : Nat} {H : List (Nat × Nat × Rec)} {ob : Rec} {res : Int64} (i1 : Int32) (l2 : Int64) (l4 : Int64) (hf : X_combine ob i1 l2 l4 = some res) : Runs C B15 0 0 0 [vr a, vi i1, vl l2, v2, vl l4, v2] [] (top, (a, 6, ob) :: H) (Ans (some (.long res)) (top, (a, 6, ob) :: H)) := by
  delta X_combine at hf
  refine Runs.iloadN d15_0 rfl <| ?_
  refine ite_el hf (fun hc1 hf => ?_) (fun hc1 hf => ?_)
  · refine Runs.tswI (pc' := 32) d15_1 (by rw [hc1]; decide) (by rw [hc1]; rfl) (by decide) <| ?_
    obtain rfl := Option.some.inj hf
    exact Runs.lloadN d15_32 rfl <| Runs.lload d15_33 rfl <| Runs.land d15_35 <| Runs.retJ d15_36 rfl ⟨by decide, by decide⟩ ⟨rfl, rfl⟩
  refine ite_el hf (fun hc2 hf => ?_) (fun hc2 hf => ?_)
  · refine Runs.tswI (pc' := 37) d15_1 (by rw [hc2]; decide) (by rw [hc2]; rfl) (by decide) <| ?_
    obtain rfl := Option.some.inj hf
    exact Runs.lloadN d15_37 rfl <| Runs.lload d15_38 rfl <| Runs.lor d15_40 <| Runs.retJ d15_41 rfl ⟨by decide, by decide⟩ ⟨rfl, rfl⟩
  refine ite_el hf (fun hc3 hf => ?_) (fun hc3 hf => ?_)
  · refine Runs.tswI (pc' := 42) d15_1 (by rw [hc3]; decide) (by rw [hc3]; rfl) (by decide) <| ?_
    obtain rfl := Option.some.inj hf
    exact Runs.lloadN d15_42 rfl <| Runs.ldc2 d15_43 w98 <| Runs.lxor d15_46 <| Runs.lload d15_47 rfl <| Runs.lor d15_49 <| Runs.retJ d15_50 rfl ⟨by decide, by decide⟩ ⟨rfl, rfl⟩
  refine ite_el hf (fun hc4 hf => ?_) (fun hc4 hf => ?_)
  · refine Runs.tswI (pc' := 51) d15_1 (by rw [hc4]; decide) (by rw [hc4]; rfl) (by decide) <| ?_
    obtain rfl := Option.some.inj hf
    exact Runs.lloadN d15_51 rfl <| Runs.lload d15_52 rfl <| Runs.lxor d15_54 <| Runs.ldc2 d15_55 w98 <| Runs.lxor d15_58 <| Runs.retJ d15_59 rfl ⟨by decide, by decide⟩ ⟨rfl, rfl⟩
  refine Runs.tswO (pc' := 60) d15_1 (by have u0 : Int32.toInt i1 ≠ 11 := fun u => hc1 (Int32.toInt_inj.mp (u.trans (by decide))); have u1 : Int32.toInt i1 ≠ 12 := fun u => hc2 (Int32.toInt_inj.mp (u.trans (by decide))); have u2 : Int32.toInt i1 ≠ 13 := fun u => hc3 (Int32.toInt_inj.mp (u.trans (by decide))); have u3 : Int32.toInt i1 ≠ 14 := fun u => hc4 (Int32.toInt_inj.mp (u.trans (by decide))); omega) (by decide) <| ?_
  obtain rfl := Option.some.inj hf
  exact Runs.lloadN d15_60 rfl <| Runs.lload d15_61 rfl <| Runs.lxor d15_63 <| Runs.retJ d15_64 rfl ⟨by decide, by decide⟩ ⟨rfl, rfl⟩
theorem X_combine_pay {C : Ctx} {top : Nat} {a : Nat} {H : List (Nat × Nat × Rec)} {ob : Rec} {res : Int64} {i1 : Int32} {l2 : Int64} {l4 : Int64} (hf : X_combine ob i1 l2 l4 = some res) : Pays C B15 [.ref a, .int i1, .long l2, .long l4] (top, (a, 6, ob) :: H) (Ans (some (.long res)) (top, (a, 6, ob) :: H)) :=
  Pays.of pnK (Nat.le_of_ble_eq_true rfl) (P := [vr a, vi i1, vl l2, v2, vl l4, v2]) 0 rfl (X_combine_p i1 l2 l4 hf)
def X_combineSlots_w7 (NF : Nat) (k7 : Rec → Int32 → Int32 → Int32 → Option (Rec)) (ob : Rec) (i1 : Int32) (i3 : Int32) (i4 : Int32) : Option (Rec) :=
  if i4 < (4 : Int32) then
    chk (128 : Int32) (i3 + i4) <|
    chk (128 : Int32) ((i3 + (4 : Int32)) + i4) <|
    (X_combine ob i1 (gJ ob 2 (i3 + i4)) (gJ ob 2 ((i3 + (4 : Int32)) + i4))).bind fun r4 =>
    chk (128 : Int32) (i3 + i4) <|
    k7 (sJ ob 2 (i3 + i4) r4) i1 i3 (i4 + (1 : Int32))
  else
    some ob
def X_combineSlots_l7 (NF : Nat) : Nat → Rec → Int32 → Int32 → Int32 → Option (Rec)
  | 0, _, _, _, _ => none
  | n + 1, ob, i1, i3, i4 => X_combineSlots_w7 NF (X_combineSlots_l7 NF n) ob i1 i3 i4
set_option maxRecDepth 65536 in
set_option maxHeartbeats 4000000 in
theorem X_combineSlots_w7_p {C : Ctx} {top : Nat} {a : Nat} {H : List (Nat × Nat × Rec)} {res : Rec} {NF : Nat} (k7 : Rec → Int32 → Int32 → Int32 → Option (Rec)) (hk7 : ∀ (ob : Rec) (i1 : Int32) (i3 : Int32) (i4 : Int32), k7 ob i1 i3 i4 = some res → Runs C B14 0 0 7 [vr a, vi i1, vn, vi i3, vi i4, vn, vn, vn, vn] [] (top, (a, 6, ob) :: H) (Ans none (top, (a, 6, res) :: H))) (ob : Rec) (i1 : Int32) (i3 : Int32) (i4 : Int32) (hf : X_combineSlots_w7 NF k7 ob i1 i3 i4 = some res) : Runs C B14 0 0 7 [vr a, vi i1, vn, vi i3, vi i4, vn, vn, vn, vn] [] (top, (a, 6, ob) :: H) (Ans none (top, (a, 6, res) :: H)) := by
  delta X_combineSlots_w7 at hf
  refine Runs.iload d14_7 rfl <| Runs.iconst d14_9 ci_4 <| ?_
  refine ite_el hf (fun hc1 hf => ?_) (fun hc1 hf => ?_)
  · refine Runs.icN d14_10 (tlt hc1).2.1 <| ?_
    refine Runs.aloadN d14_13 rfl <| Runs.getA d14_14 fA_2 w22 (by decide) <| Runs.iloadN d14_17 rfl <| Runs.iload d14_18 rfl <| Runs.iadd d14_20 <| ?_
    refine chk_el hf fun hi2 hf => ?_
    refine Runs.laloadA d14_21 fA_2 (by decide) hi2 <| Runs.lstore (P' := [vr a, vi i1, vn, vi i3, vi i4, vl (gJ ob 2 (i3 + i4)), v2, vn, vn]) d14_22 (by decide) rfl <| Runs.aloadN d14_24 rfl <| Runs.getA d14_25 fA_2 w22 (by decide) <| Runs.iloadN d14_28 rfl <| Runs.iconst d14_29 ci_4 <| Runs.iadd d14_30 <| Runs.iload d14_31 rfl <| Runs.iadd d14_33 <| ?_
    refine chk_el hf fun hi3 hf => ?_
    refine Runs.laloadA d14_34 fA_2 (by decide) hi3 <| Runs.lstore (P' := [vr a, vi i1, vn, vi i3, vi i4, vl (gJ ob 2 (i3 + i4)), v2, vl (gJ ob 2 ((i3 + (4 : Int32)) + i4)), v2]) d14_35 (by decide) rfl <| Runs.aloadN d14_37 rfl <| Runs.getA d14_38 fA_2 w22 (by decide) <| Runs.iloadN d14_41 rfl <| Runs.iload d14_42 rfl <| Runs.iadd d14_44 <| Runs.aloadN d14_45 rfl <| Runs.iloadN d14_46 rfl <| Runs.lload d14_47 rfl <| Runs.lload d14_49 rfl <| ?_
    refine bind_el hf fun r4 hg5 hf => ?_
    refine Runs.callP (N := B15) (W := 2) (as := [.int i1, .long (gJ ob 2 (i3 + i4)), .long (gJ ob 2 ((i3 + (4 : Int32)) + i4))]) (S' := [.int (i3 + i4), .ref (a + 1 + 2)]) d14_51 w94 w95 w96 rfl cw15 ar15 rk14_15_2 (by decide) rfl rfl (X_combine_pay hg5) <| ans1 <| ?_
    refine chk_el hf fun hi6 hf => ?_
    exact Runs.lastoreA d14_54 fA_2 (by decide) hi6 <| Runs.iinc (P' := [vr a, vi i1, vn, vi i3, vi (i4 + (1 : Int32)), vl (gJ ob 2 (i3 + i4)), v2, vl (gJ ob 2 ((i3 + (4 : Int32)) + i4)), v2]) d14_55 ci_1 rfl (by decide) rfl <| Runs.goto (pc' := 7) d14_58 (by decide) <| Runs.forget [true, true, false, true, true, false, false, false, false] rfl <| hk7 (sJ ob 2 (i3 + i4) r4) i1 i3 (i4 + (1 : Int32)) hf
  · refine Runs.icY (pc' := 61) d14_10 (flt hc1).2.1 (by decide) <| ?_
    obtain rfl := Option.some.inj hf
    exact Runs.retV d14_61 rfl ⟨by decide, by decide⟩ ⟨rfl, rfl⟩
theorem X_combineSlots_l7_p {C : Ctx} {top : Nat} {a : Nat} {H : List (Nat × Nat × Rec)} {res : Rec} {NF : Nat} (n : Nat) (ob : Rec) (i1 : Int32) (i3 : Int32) (i4 : Int32) (hf : X_combineSlots_l7 NF n ob i1 i3 i4 = some res) : Runs C B14 0 0 7 [vr a, vi i1, vn, vi i3, vi i4, vn, vn, vn, vn] [] (top, (a, 6, ob) :: H) (Ans none (top, (a, 6, res) :: H)) := by
  induction n generalizing ob i1 i3 i4 with
  | zero => cases (show (none : Option (Rec)) = some res from hf)
  | succ n ih => exact X_combineSlots_w7_p (X_combineSlots_l7 NF n) (fun ob i1 i3 i4 h => ih _ _ _ _ h) ob i1 i3 i4 hf
def X_combineSlots (NF : Nat) (ob : Rec) (i1 : Int32) (i2 : Int32) : Option (Rec) :=
  X_combineSlots_l7 NF NF ob i1 (i2 * (4 : Int32)) (0 : Int32)
set_option maxRecDepth 65536 in
set_option maxHeartbeats 4000000 in
theorem X_combineSlots_p {C : Ctx} {top : Nat} {a : Nat} {H : List (Nat × Nat × Rec)} {res : Rec} {NF : Nat} (ob : Rec) (i1 : Int32) (i2 : Int32) (hf : X_combineSlots NF ob i1 i2 = some res) : Runs C B14 0 0 0 [vr a, vi i1, vi i2, vn, vn, vn, vn, vn, vn] [] (top, (a, 6, ob) :: H) (Ans none (top, (a, 6, res) :: H)) := by
  delta X_combineSlots at hf
  exact Runs.iloadN d14_0 rfl <| Runs.iconst d14_1 ci_4 <| Runs.imul d14_2 <| Runs.istoreN (P' := [vr a, vi i1, vi i2, vi (i2 * (4 : Int32)), vn, vn, vn, vn, vn]) d14_3 (by decide) rfl <| Runs.iconst d14_4 ci_0 <| Runs.istore (P' := [vr a, vi i1, vi i2, vi (i2 * (4 : Int32)), vi (0 : Int32), vn, vn, vn, vn]) d14_5 (by decide) rfl <| Runs.forget [true, true, false, true, true, false, false, false, false] rfl <| X_combineSlots_l7_p NF ob i1 (i2 * (4 : Int32)) (0 : Int32) hf
theorem X_combineSlots_pay {C : Ctx} {top : Nat} {a : Nat} {H : List (Nat × Nat × Rec)} {res : Rec} {NF : Nat} {ob : Rec} {i1 : Int32} {i2 : Int32} (hf : X_combineSlots NF ob i1 i2 = some res) : Pays C B14 [.ref a, .int i1, .int i2] (top, (a, 6, ob) :: H) (Ans none (top, (a, 6, res) :: H)) :=
  Pays.of pnK (Nat.le_of_ble_eq_true rfl) (P := [vr a, vi i1, vi i2, vn, vn, vn, vn, vn, vn]) 6 rfl (X_combineSlots_p ob i1 i2 hf)
def X_step (NF : Nat) (ob : Rec) (i1 : Int32) (i2 : Int32) : Option (Int32 × Rec) :=
  (X_arity ob i1).bind fun r1 =>
  if i2 < r1 then
    some (i2, ob)
  else
    if (32 : Int32) < i2 then
      some (i2, ob)
    else
      if r1 = (0 : Int32) then
        if i2 < (32 : Int32) then
          (X_pushLeaf NF ob i1 i2).bind fun q7 =>
          some ((i2 + (1 : Int32)), q7)
        else
          some (i2, ob)
      else
        if r1 = (1 : Int32) then
          none
        else
          (X_combineSlots NF ob i1 (i2 - (2 : Int32))).bind fun q10 =>
          some ((i2 - (1 : Int32)), q10)
set_option maxRecDepth 65536 in
set_option maxHeartbeats 4000000 in
theorem X_step_p {C : Ctx} {top : Nat} {a : Nat} {H : List (Nat × Nat × Rec)} {res : Int32 × Rec} {NF : Nat} (ob : Rec) (i1 : Int32) (i2 : Int32) (hf : X_step NF ob i1 i2 = some res) : Runs C B10 0 0 0 [vr a, vi i1, vi i2, vn] [] (top, (a, 6, ob) :: H) (Ans (some (.int res.1)) (top, (a, 6, res.2) :: H)) := by
  delta X_step at hf
  refine Runs.aloadN d10_0 rfl <| Runs.iloadN d10_1 rfl <| ?_
  refine bind_el hf fun r1 hg2 hf => ?_
  refine Runs.callP (N := B6) (W := 0) (as := [.int i1]) (S' := []) d10_2 w55 w56 w57 rfl cw6 ar6 rk10_6_0 (by decide) rfl rfl (X_arity_pay hg2) <| ans1 <| Runs.istoreN (P' := [vr a, vi i1, vi i2, vi r1]) d10_5 (by decide) rfl <| Runs.iloadN d10_6 rfl <| Runs.iloadN d10_7 rfl <| ?_
  refine ite_el hf (fun hc3 hf => ?_) (fun hc3 hf => ?_)
  · refine Runs.icY (pc' := 17) d10_8 (tlt hc3).2.2.1 (by decide) <| ?_
    obtain rfl := Option.some.inj hf
    exact Runs.iloadN d10_17 rfl <| Runs.retI d10_18 rfl ⟨by decide, by decide⟩ ⟨rfl, rfl⟩
  · refine Runs.icN d10_8 (flt hc3).2.2.1 <| ?_
    refine Runs.iloadN d10_11 rfl <| Runs.bipush d10_12 cb_32 <| ?_
    refine ite_el hf (fun hc4 hf => ?_) (fun hc4 hf => ?_)
    · refine Runs.icN d10_14 (tlt hc4).2.2.2 <| ?_
      obtain rfl := Option.some.inj hf
      exact Runs.iloadN d10_17 rfl <| Runs.retI d10_18 rfl ⟨by decide, by decide⟩ ⟨rfl, rfl⟩
    · refine Runs.icY (pc' := 19) d10_14 (flt hc4).2.2.2 (by decide) <| ?_
      refine Runs.iloadN d10_19 rfl <| ?_
      refine ite_el hf (fun hc5 hf => ?_) (fun hc5 hf => ?_)
      · refine Runs.ifN d10_20 (teq hc5).2 <| ?_
        refine Runs.iloadN d10_23 rfl <| Runs.bipush d10_24 cb_32 <| ?_
        refine ite_el hf (fun hc6 hf => ?_) (fun hc6 hf => ?_)
        · refine Runs.icY (pc' := 31) d10_26 (tlt hc6).1 (by decide) <| ?_
          refine Runs.aloadN d10_31 rfl <| Runs.iloadN d10_32 rfl <| Runs.iloadN d10_33 rfl <| ?_
          refine bind_el hf fun q7 hg8 hf => ?_
          obtain rfl := Option.some.inj hf
          exact Runs.callP (N := B11) (W := 0) (as := [.int i1, .int i2]) (S' := []) d10_34 w76 w77 w78 rfl cw11 ar11 rk10_11_0 (by decide) rfl rfl (X_pushLeaf_pay hg8) <| ans0 <| Runs.iloadN d10_37 rfl <| Runs.iconst d10_38 ci_1 <| Runs.iadd d10_39 <| Runs.retI d10_40 rfl ⟨by decide, by decide⟩ ⟨rfl, rfl⟩
        · refine Runs.icN d10_26 (flt hc6).1 <| ?_
          obtain rfl := Option.some.inj hf
          exact Runs.iloadN d10_29 rfl <| Runs.retI d10_30 rfl ⟨by decide, by decide⟩ ⟨rfl, rfl⟩
      · refine Runs.ifY (pc' := 41) d10_20 (feq hc5).2 (by decide) <| ?_
        refine Runs.iloadN d10_41 rfl <| Runs.iconst d10_42 ci_1 <| ?_
        refine ite_el hf (fun hc9 hf => ?_) (fun hc9 hf => ?_)
        · refine Runs.icN d10_43 (teq hc9).2 <| ?_
          cases hf
        · refine Runs.icY (pc' := 55) d10_43 (feq hc9).2 (by decide) <| ?_
          refine Runs.aloadN d10_55 rfl <| Runs.iloadN d10_56 rfl <| Runs.iloadN d10_57 rfl <| Runs.iconst d10_58 ci_2 <| Runs.isub d10_59 <| ?_
          refine bind_el hf fun q10 hg11 hf => ?_
          obtain rfl := Option.some.inj hf
          exact Runs.callP (N := B14) (W := 0) (as := [.int i1, .int (i2 - (2 : Int32))]) (S' := []) d10_60 w90 w91 w92 rfl cw14 ar14 rk10_14_0 (by decide) rfl rfl (X_combineSlots_pay hg11) <| ans0 <| Runs.iloadN d10_63 rfl <| Runs.iconst d10_64 ci_1 <| Runs.isub d10_65 <| Runs.retI d10_66 rfl ⟨by decide, by decide⟩ ⟨rfl, rfl⟩
theorem X_step_pay {C : Ctx} {top : Nat} {a : Nat} {H : List (Nat × Nat × Rec)} {res : Int32 × Rec} {NF : Nat} {ob : Rec} {i1 : Int32} {i2 : Int32} (hf : X_step NF ob i1 i2 = some res) : Pays C B10 [.ref a, .int i1, .int i2] (top, (a, 6, ob) :: H) (Ans (some (.int res.1)) (top, (a, 6, res.2) :: H)) :=
  Pays.of pnK (Nat.le_of_ble_eq_true rfl) (P := [vr a, vi i1, vi i2, vn]) 1 rfl (X_step_p ob i1 i2 hf)
def X_storeTopIntoF_w2 (NF : Nat) (k2 : Rec → Int32 → Int32 → Option (Rec)) (ob : Rec) (i1 : Int32) (i2 : Int32) : Option (Rec) :=
  if i2 < (4 : Int32) then
    if i1 < (1 : Int32) then
      chk (4 : Int32) i2 <|
      k2 (sJ ob 3 i2 (0 : Int64)) i1 (i2 + (1 : Int32))
    else
      if (32 : Int32) < i1 then
        chk (4 : Int32) i2 <|
        k2 (sJ ob 3 i2 (0 : Int64)) i1 (i2 + (1 : Int32))
      else
        chk (128 : Int32) (((i1 - (1 : Int32)) * (4 : Int32)) + i2) <|
        chk (4 : Int32) i2 <|
        k2 (sJ ob 3 i2 (gJ ob 2 (((i1 - (1 : Int32)) * (4 : Int32)) + i2))) i1 (i2 + (1 : Int32))
  else
    some ob
def X_storeTopIntoF_l2 (NF : Nat) : Nat → Rec → Int32 → Int32 → Option (Rec)
  | 0, _, _, _ => none
  | n + 1, ob, i1, i2 => X_storeTopIntoF_w2 NF (X_storeTopIntoF_l2 NF n) ob i1 i2
set_option maxRecDepth 65536 in
set_option maxHeartbeats 4000000 in
theorem X_storeTopIntoF_w2_p {C : Ctx} {top : Nat} {a : Nat} {H : List (Nat × Nat × Rec)} {res : Rec} {NF : Nat} (k2 : Rec → Int32 → Int32 → Option (Rec)) (hk2 : ∀ (ob : Rec) (i1 : Int32) (i2 : Int32), k2 ob i1 i2 = some res → Runs C B16 0 0 2 [vr a, vi i1, vi i2, vn, vn] [] (top, (a, 6, ob) :: H) (Ans none (top, (a, 6, res) :: H))) (ob : Rec) (i1 : Int32) (i2 : Int32) (hf : X_storeTopIntoF_w2 NF k2 ob i1 i2 = some res) : Runs C B16 0 0 2 [vr a, vi i1, vi i2, vn, vn] [] (top, (a, 6, ob) :: H) (Ans none (top, (a, 6, res) :: H)) := by
  delta X_storeTopIntoF_w2 at hf
  refine Runs.iloadN d16_2 rfl <| Runs.iconst d16_3 ci_4 <| ?_
  refine ite_el hf (fun hc1 hf => ?_) (fun hc1 hf => ?_)
  · refine Runs.icN d16_4 (tlt hc1).2.1 <| ?_
    refine Runs.lconst d16_7 cl_0 <| Runs.lstoreN (P' := [vr a, vi i1, vi i2, vl (0 : Int64), v2]) d16_8 (by decide) rfl <| Runs.iloadN d16_9 rfl <| Runs.iconst d16_10 ci_1 <| ?_
    refine ite_el hf (fun hc2 hf => ?_) (fun hc2 hf => ?_)
    · refine Runs.icY (pc' := 33) d16_11 (tlt hc2).1 (by decide) <| ?_
      refine Runs.aloadN d16_33 rfl <| Runs.getA d16_34 fA_3 w24 (by decide) <| Runs.iloadN d16_37 rfl <| Runs.lloadN d16_38 rfl <| ?_
      refine chk_el hf fun hi3 hf => ?_
      exact Runs.lastoreA d16_39 fA_3 (by decide) hi3 <| Runs.iinc (P' := [vr a, vi i1, vi (i2 + (1 : Int32)), vl (0 : Int64), v2]) d16_40 ci_1 rfl (by decide) rfl <| Runs.goto (pc' := 2) d16_43 (by decide) <| Runs.forget [true, true, true, false, false] rfl <| hk2 (sJ ob 3 i2 (0 : Int64)) i1 (i2 + (1 : Int32)) hf
    · refine Runs.icN d16_11 (flt hc2).1 <| ?_
      refine Runs.iloadN d16_14 rfl <| Runs.bipush d16_15 cb_32 <| ?_
      refine ite_el hf (fun hc4 hf => ?_) (fun hc4 hf => ?_)
      · refine Runs.icY (pc' := 33) d16_17 (tlt hc4).2.2.1 (by decide) <| ?_
        refine Runs.aloadN d16_33 rfl <| Runs.getA d16_34 fA_3 w24 (by decide) <| Runs.iloadN d16_37 rfl <| Runs.lloadN d16_38 rfl <| ?_
        refine chk_el hf fun hi5 hf => ?_
        exact Runs.lastoreA d16_39 fA_3 (by decide) hi5 <| Runs.iinc (P' := [vr a, vi i1, vi (i2 + (1 : Int32)), vl (0 : Int64), v2]) d16_40 ci_1 rfl (by decide) rfl <| Runs.goto (pc' := 2) d16_43 (by decide) <| Runs.forget [true, true, true, false, false] rfl <| hk2 (sJ ob 3 i2 (0 : Int64)) i1 (i2 + (1 : Int32)) hf
      · refine Runs.icN d16_17 (flt hc4).2.2.1 <| ?_
        refine Runs.aloadN d16_20 rfl <| Runs.getA d16_21 fA_2 w22 (by decide) <| Runs.iloadN d16_24 rfl <| Runs.iconst d16_25 ci_1 <| Runs.isub d16_26 <| Runs.iconst d16_27 ci_4 <| Runs.imul d16_28 <| Runs.iloadN d16_29 rfl <| Runs.iadd d16_30 <| ?_
        refine chk_el hf fun hi6 hf => ?_
        refine Runs.laloadA d16_31 fA_2 (by decide) hi6 <| Runs.lstoreN (P' := [vr a, vi i1, vi i2, vl (gJ ob 2 (((i1 - (1 : Int32)) * (4 : Int32)) + i2)), v2]) d16_32 (by decide) rfl <| Runs.aloadN d16_33 rfl <| Runs.getA d16_34 fA_3 w24 (by decide) <| Runs.iloadN d16_37 rfl <| Runs.lloadN d16_38 rfl <| ?_
        refine chk_el hf fun hi7 hf => ?_
        exact Runs.lastoreA d16_39 fA_3 (by decide) hi7 <| Runs.iinc (P' := [vr a, vi i1, vi (i2 + (1 : Int32)), vl (gJ ob 2 (((i1 - (1 : Int32)) * (4 : Int32)) + i2)), v2]) d16_40 ci_1 rfl (by decide) rfl <| Runs.goto (pc' := 2) d16_43 (by decide) <| Runs.forget [true, true, true, false, false] rfl <| hk2 (sJ ob 3 i2 (gJ ob 2 (((i1 - (1 : Int32)) * (4 : Int32)) + i2))) i1 (i2 + (1 : Int32)) hf
  · refine Runs.icY (pc' := 46) d16_4 (flt hc1).2.1 (by decide) <| ?_
    obtain rfl := Option.some.inj hf
    exact Runs.retV d16_46 rfl ⟨by decide, by decide⟩ ⟨rfl, rfl⟩
theorem X_storeTopIntoF_l2_p {C : Ctx} {top : Nat} {a : Nat} {H : List (Nat × Nat × Rec)} {res : Rec} {NF : Nat} (n : Nat) (ob : Rec) (i1 : Int32) (i2 : Int32) (hf : X_storeTopIntoF_l2 NF n ob i1 i2 = some res) : Runs C B16 0 0 2 [vr a, vi i1, vi i2, vn, vn] [] (top, (a, 6, ob) :: H) (Ans none (top, (a, 6, res) :: H)) := by
  induction n generalizing ob i1 i2 with
  | zero => cases (show (none : Option (Rec)) = some res from hf)
  | succ n ih => exact X_storeTopIntoF_w2_p (X_storeTopIntoF_l2 NF n) (fun ob i1 i2 h => ih _ _ _ h) ob i1 i2 hf
def X_storeTopIntoF (NF : Nat) (ob : Rec) (i1 : Int32) : Option (Rec) :=
  X_storeTopIntoF_l2 NF NF ob i1 (0 : Int32)
set_option maxRecDepth 65536 in
set_option maxHeartbeats 4000000 in
theorem X_storeTopIntoF_p {C : Ctx} {top : Nat} {a : Nat} {H : List (Nat × Nat × Rec)} {res : Rec} {NF : Nat} (ob : Rec) (i1 : Int32) (hf : X_storeTopIntoF NF ob i1 = some res) : Runs C B16 0 0 0 [vr a, vi i1, vn, vn, vn] [] (top, (a, 6, ob) :: H) (Ans none (top, (a, 6, res) :: H)) := by
  delta X_storeTopIntoF at hf
  exact Runs.iconst d16_0 ci_0 <| Runs.istoreN (P' := [vr a, vi i1, vi (0 : Int32), vn, vn]) d16_1 (by decide) rfl <| X_storeTopIntoF_l2_p NF ob i1 (0 : Int32) hf
theorem X_storeTopIntoF_pay {C : Ctx} {top : Nat} {a : Nat} {H : List (Nat × Nat × Rec)} {res : Rec} {NF : Nat} {ob : Rec} {i1 : Int32} (hf : X_storeTopIntoF NF ob i1 = some res) : Pays C B16 [.ref a, .int i1] (top, (a, 6, ob) :: H) (Ans none (top, (a, 6, res) :: H)) :=
  Pays.of pnK (Nat.le_of_ble_eq_true rfl) (P := [vr a, vi i1, vn, vn, vn]) 3 rfl (X_storeTopIntoF_p ob i1 hf)
def X_ensureTableF_w26 (NF : Nat) (k26 : Rec → Int32 → Int32 → Int32 → Option (Rec)) (ob : Rec) (i1 : Int32) (i2 : Int32) (i3 : Int32) : Option (Rec) :=
  if i3 < i1 then
    chk (32 : Int32) i3 <|
    bind2 (X_step NF ob (gA ob 0 i3) i2) fun r3 q4 =>
    k26 q4 i1 r3 (i3 + (1 : Int32))
  else
    (X_storeTopIntoF NF ob i2).bind fun q6 =>
    some (sI q6 7 (1 : Int32))
def X_ensureTableF_l26 (NF : Nat) : Nat → Rec → Int32 → Int32 → Int32 → Option (Rec)
  | 0, _, _, _, _ => none
  | n + 1, ob, i1, i2, i3 => X_ensureTableF_w26 NF (X_ensureTableF_l26 NF n) ob i1 i2 i3
set_option maxRecDepth 65536 in
set_option maxHeartbeats 4000000 in
theorem X_ensureTableF_w26_p {C : Ctx} {top : Nat} {a : Nat} {H : List (Nat × Nat × Rec)} {res : Rec} {NF : Nat} (k26 : Rec → Int32 → Int32 → Int32 → Option (Rec)) (hk26 : ∀ (ob : Rec) (i1 : Int32) (i2 : Int32) (i3 : Int32), k26 ob i1 i2 i3 = some res → Runs C B9 0 0 26 [vr a, vi i1, vi i2, vi i3] [] (top, (a, 6, ob) :: H) (Ans none (top, (a, 6, res) :: H))) (ob : Rec) (i1 : Int32) (i2 : Int32) (i3 : Int32) (hf : X_ensureTableF_w26 NF k26 ob i1 i2 i3 = some res) : Runs C B9 0 0 26 [vr a, vi i1, vi i2, vi i3] [] (top, (a, 6, ob) :: H) (Ans none (top, (a, 6, res) :: H)) := by
  delta X_ensureTableF_w26 at hf
  refine Runs.iloadN d9_26 rfl <| Runs.iloadN d9_27 rfl <| ?_
  refine ite_el hf (fun hc1 hf => ?_) (fun hc1 hf => ?_)
  · refine Runs.icN d9_28 (tlt hc1).2.1 <| ?_
    refine Runs.aloadN d9_31 rfl <| Runs.aloadN d9_32 rfl <| Runs.getA d9_33 fA_0 w17 (by decide) <| Runs.iloadN d9_36 rfl <| ?_
    refine chk_el hf fun hi2 hf => ?_
    refine Runs.ialoadA d9_37 fA_0 (by decide) hi2 <| Runs.iloadN d9_38 rfl <| ?_
    refine bind2_el hf fun r3 q4 hg5 hf => ?_
    exact Runs.callP (N := B10) (W := 0) (as := [.int (gA ob 0 i3), .int i2]) (S' := []) d9_39 w72 w73 w74 rfl cw10 ar10 rk9_10_0 (by decide) rfl rfl (X_step_pay hg5) <| ans1 <| Runs.istoreN (P' := [vr a, vi i1, vi r3, vi i3]) d9_42 (by decide) rfl <| Runs.iinc (P' := [vr a, vi i1, vi r3, vi (i3 + (1 : Int32))]) d9_43 ci_1 rfl (by decide) rfl <| Runs.goto (pc' := 26) d9_46 (by decide) <| hk26 q4 i1 r3 (i3 + (1 : Int32)) hf
  · refine Runs.icY (pc' := 49) d9_28 (flt hc1).2.1 (by decide) <| ?_
    refine Runs.aloadN d9_49 rfl <| Runs.iloadN d9_50 rfl <| ?_
    refine bind_el hf fun q6 hg7 hf => ?_
    obtain rfl := Option.some.inj hf
    exact Runs.callP (N := B16) (W := 0) (as := [.int i2]) (S' := []) d9_51 w99 w100 w101 rfl cw16 ar16 rk9_16_0 (by decide) rfl rfl (X_storeTopIntoF_pay hg7) <| ans0 <| Runs.aloadN d9_54 rfl <| Runs.iconst d9_55 ci_1 <| Runs.putZ (y := (1 : Int32)) d9_56 w40 fS_7 (Or.inl w41) rfl <| Runs.retV d9_59 rfl ⟨by decide, by decide⟩ ⟨rfl, rfl⟩
theorem X_ensureTableF_l26_p {C : Ctx} {top : Nat} {a : Nat} {H : List (Nat × Nat × Rec)} {res : Rec} {NF : Nat} (n : Nat) (ob : Rec) (i1 : Int32) (i2 : Int32) (i3 : Int32) (hf : X_ensureTableF_l26 NF n ob i1 i2 i3 = some res) : Runs C B9 0 0 26 [vr a, vi i1, vi i2, vi i3] [] (top, (a, 6, ob) :: H) (Ans none (top, (a, 6, res) :: H)) := by
  induction n generalizing ob i1 i2 i3 with
  | zero => cases (show (none : Option (Rec)) = some res from hf)
  | succ n ih => exact X_ensureTableF_w26_p (X_ensureTableF_l26 NF n) (fun ob i1 i2 i3 h => ih _ _ _ _ h) ob i1 i2 i3 hf
def X_ensureTableF (NF : Nat) (ob : Rec) : Option (Rec) :=
  if (gI ob 7) = (0 : Int32) then
    if (32 : Int32) < (gI ob 1) then
      X_ensureTableF_l26 NF NF ob (32 : Int32) (0 : Int32) (0 : Int32)
    else
      X_ensureTableF_l26 NF NF ob (gI ob 1) (0 : Int32) (0 : Int32)
  else
    some ob
set_option maxRecDepth 65536 in
set_option maxHeartbeats 4000000 in
theorem X_ensureTableF_p {C : Ctx} {top : Nat} {a : Nat} {H : List (Nat × Nat × Rec)} {res : Rec} {NF : Nat} (ob : Rec) (hf : X_ensureTableF NF ob = some res) : Runs C B9 0 0 0 [vr a, vn, vn, vn] [] (top, (a, 6, ob) :: H) (Ans none (top, (a, 6, res) :: H)) := by
  delta X_ensureTableF at hf
  refine Runs.aloadN d9_0 rfl <| Runs.getI d9_1 w40 fS_7 <| ?_
  refine ite_el hf (fun hc8 hf => ?_) (fun hc8 hf => ?_)
  · refine Runs.ifY (pc' := 8) d9_4 (teq hc8).1 (by decide) <| ?_
    refine Runs.aloadN d9_8 rfl <| Runs.getI d9_9 w32 fS_1 <| Runs.istoreN (P' := [vr a, vi (gI ob 1), vn, vn]) d9_12 (by decide) rfl <| Runs.iloadN d9_13 rfl <| Runs.bipush d9_14 cb_32 <| ?_
    refine ite_el hf (fun hc9 hf => ?_) (fun hc9 hf => ?_)
    · refine Runs.icN d9_16 (tlt hc9).2.2.2 <| ?_
      exact Runs.bipush d9_19 cb_32 <| Runs.istoreN (P' := [vr a, vi (32 : Int32), vn, vn]) d9_21 (by decide) rfl <| Runs.iconst d9_22 ci_0 <| Runs.istoreN (P' := [vr a, vi (32 : Int32), vi (0 : Int32), vn]) d9_23 (by decide) rfl <| Runs.iconst d9_24 ci_0 <| Runs.istoreN (P' := [vr a, vi (32 : Int32), vi (0 : Int32), vi (0 : Int32)]) d9_25 (by decide) rfl <| X_ensureTableF_l26_p NF ob (32 : Int32) (0 : Int32) (0 : Int32) hf
    · refine Runs.icY (pc' := 22) d9_16 (flt hc9).2.2.2 (by decide) <| ?_
      exact Runs.iconst d9_22 ci_0 <| Runs.istoreN (P' := [vr a, vi (gI ob 1), vi (0 : Int32), vn]) d9_23 (by decide) rfl <| Runs.iconst d9_24 ci_0 <| Runs.istoreN (P' := [vr a, vi (gI ob 1), vi (0 : Int32), vi (0 : Int32)]) d9_25 (by decide) rfl <| X_ensureTableF_l26_p NF ob (gI ob 1) (0 : Int32) (0 : Int32) hf
  · refine Runs.ifN d9_4 (feq hc8).1 <| ?_
    obtain rfl := Option.some.inj hf
    exact Runs.retV d9_7 rfl ⟨by decide, by decide⟩ ⟨rfl, rfl⟩
theorem X_ensureTableF_pay {C : Ctx} {top : Nat} {a : Nat} {H : List (Nat × Nat × Rec)} {res : Rec} {NF : Nat} {ob : Rec} (hf : X_ensureTableF NF ob = some res) : Pays C B9 [.ref a] (top, (a, 6, ob) :: H) (Ans none (top, (a, 6, res) :: H)) :=
  Pays.of pnK (Nat.le_of_ble_eq_true rfl) (P := [vr a, vn, vn, vn]) 3 rfl (X_ensureTableF_p ob hf)
def X_loadWorkNegatedF_w2 (NF : Nat) (k2 : Rec → Int32 → Option (Rec)) (ob : Rec) (i1 : Int32) : Option (Rec) :=
  if i1 < (4 : Int32) then
    chk (4 : Int32) i1 <|
    chk (4 : Int32) i1 <|
    k2 (sJ ob 5 i1 ((gJ ob 3 i1) ^^^ (-1 : Int64))) (i1 + (1 : Int32))
  else
    some ob
def X_loadWorkNegatedF_l2 (NF : Nat) : Nat → Rec → Int32 → Option (Rec)
  | 0, _, _ => none
  | n + 1, ob, i1 => X_loadWorkNegatedF_w2 NF (X_loadWorkNegatedF_l2 NF n) ob i1
set_option maxRecDepth 65536 in
set_option maxHeartbeats 4000000 in
theorem X_loadWorkNegatedF_w2_p {C : Ctx} {top : Nat} {a : Nat} {H : List (Nat × Nat × Rec)} {res : Rec} {NF : Nat} (k2 : Rec → Int32 → Option (Rec)) (hk2 : ∀ (ob : Rec) (i1 : Int32), k2 ob i1 = some res → Runs C B17 0 0 2 [vr a, vi i1] [] (top, (a, 6, ob) :: H) (Ans none (top, (a, 6, res) :: H))) (ob : Rec) (i1 : Int32) (hf : X_loadWorkNegatedF_w2 NF k2 ob i1 = some res) : Runs C B17 0 0 2 [vr a, vi i1] [] (top, (a, 6, ob) :: H) (Ans none (top, (a, 6, res) :: H)) := by
  delta X_loadWorkNegatedF_w2 at hf
  refine Runs.iloadN d17_2 rfl <| Runs.iconst d17_3 ci_4 <| ?_
  refine ite_el hf (fun hc1 hf => ?_) (fun hc1 hf => ?_)
  · refine Runs.icN d17_4 (tlt hc1).2.1 <| ?_
    refine Runs.aloadN d17_7 rfl <| Runs.getA d17_8 fA_5 w28 (by decide) <| Runs.iloadN d17_11 rfl <| Runs.aloadN d17_12 rfl <| Runs.getA d17_13 fA_3 w24 (by decide) <| Runs.iloadN d17_16 rfl <| ?_
    refine chk_el hf fun hi2 hf => ?_
    refine Runs.laloadA d17_17 fA_3 (by decide) hi2 <| Runs.ldc2 d17_18 w98 <| Runs.lxor d17_21 <| ?_
    refine chk_el hf fun hi3 hf => ?_
    exact Runs.lastoreA d17_22 fA_5 (by decide) hi3 <| Runs.iinc (P' := [vr a, vi (i1 + (1 : Int32))]) d17_23 ci_1 rfl (by decide) rfl <| Runs.goto (pc' := 2) d17_26 (by decide) <| hk2 (sJ ob 5 i1 ((gJ ob 3 i1) ^^^ (-1 : Int64))) (i1 + (1 : Int32)) hf
  · refine Runs.icY (pc' := 29) d17_4 (flt hc1).2.1 (by decide) <| ?_
    obtain rfl := Option.some.inj hf
    exact Runs.retV d17_29 rfl ⟨by decide, by decide⟩ ⟨rfl, rfl⟩
theorem X_loadWorkNegatedF_l2_p {C : Ctx} {top : Nat} {a : Nat} {H : List (Nat × Nat × Rec)} {res : Rec} {NF : Nat} (n : Nat) (ob : Rec) (i1 : Int32) (hf : X_loadWorkNegatedF_l2 NF n ob i1 = some res) : Runs C B17 0 0 2 [vr a, vi i1] [] (top, (a, 6, ob) :: H) (Ans none (top, (a, 6, res) :: H)) := by
  induction n generalizing ob i1 with
  | zero => cases (show (none : Option (Rec)) = some res from hf)
  | succ n ih => exact X_loadWorkNegatedF_w2_p (X_loadWorkNegatedF_l2 NF n) (fun ob i1 h => ih _ _ h) ob i1 hf
def X_loadWorkNegatedF (NF : Nat) (ob : Rec) : Option (Rec) :=
  X_loadWorkNegatedF_l2 NF NF ob (0 : Int32)
set_option maxRecDepth 65536 in
set_option maxHeartbeats 4000000 in
theorem X_loadWorkNegatedF_p {C : Ctx} {top : Nat} {a : Nat} {H : List (Nat × Nat × Rec)} {res : Rec} {NF : Nat} (ob : Rec) (hf : X_loadWorkNegatedF NF ob = some res) : Runs C B17 0 0 0 [vr a, vn] [] (top, (a, 6, ob) :: H) (Ans none (top, (a, 6, res) :: H)) := by
  delta X_loadWorkNegatedF at hf
  exact Runs.iconst d17_0 ci_0 <| Runs.istoreN (P' := [vr a, vi (0 : Int32)]) d17_1 (by decide) rfl <| X_loadWorkNegatedF_l2_p NF ob (0 : Int32) hf
theorem X_loadWorkNegatedF_pay {C : Ctx} {top : Nat} {a : Nat} {H : List (Nat × Nat × Rec)} {res : Rec} {NF : Nat} {ob : Rec} (hf : X_loadWorkNegatedF NF ob = some res) : Pays C B17 [.ref a] (top, (a, 6, ob) :: H) (Ans none (top, (a, 6, res) :: H)) :=
  Pays.of pnK (Nat.le_of_ble_eq_true rfl) (P := [vr a, vn]) 1 rfl (X_loadWorkNegatedF_p ob hf)
def X_lowestBit_b49 (NF : Nat) (ob : Rec) (k23 : Int64 → Int32 → Int32 → Int32 → Option (Int32)) (l3 : Int64) (i5 : Int32) (i6 : Int32) (i7 : Int32) (t0 : Int64) : Option (Int32) :=
  if (l3 &&& t0) = (0 : Int64) then
    k23 ((l3.toUInt64 >>> (i6 &&& 0x3f).toInt64.toUInt64).toInt64) (i5 + i6) (i6 >>> ((1 : Int32) &&& 31)) (i7 + (1 : Int32))
  else
    k23 l3 i5 (i6 >>> ((1 : Int32) &&& 31)) (i7 + (1 : Int32))
set_option maxRecDepth 65536 in
set_option maxHeartbeats 4000000 in
theorem X_lowestBit_b49_p {C : Ctx} {top : Nat} {a : Nat} {H : List (Nat × Nat × Rec)} {ob : Rec} {res : Int32} {NF : Nat} (k23 : Int64 → Int32 → Int32 → Int32 → Option (Int32)) (hk23 : ∀ (l3 : Int64) (i5 : Int32) (i6 : Int32) (i7 : Int32), k23 l3 i5 i6 i7 = some res → Runs C B19 0 0 23 [vn, vn, vn, vl l3, v2, vi i5, vi i6, vi i7, vn, vn] [] (top, (a, 6, ob) :: H) (Ans (some (.int res)) (top, (a, 6, ob) :: H))) (l3 : Int64) (i5 : Int32) (i6 : Int32) (i7 : Int32) (t0 : Int64) (hf : X_lowestBit_b49 NF ob k23 l3 i5 i6 i7 t0 = some res) : Runs C B19 0 0 49 [vn, vn, vn, vl l3, v2, vi i5, vi i6, vi i7, vn, vn] [.long t0] (top, (a, 6, ob) :: H) (Ans (some (.int res)) (top, (a, 6, ob) :: H)) := by
  delta X_lowestBit_b49 at hf
  refine Runs.lstore (P' := [vn, vn, vn, vl l3, v2, vi i5, vi i6, vi i7, vl t0, v2]) d19_49 (by decide) rfl <| Runs.lloadN d19_51 rfl <| Runs.lload d19_52 rfl <| Runs.land d19_54 <| Runs.lconst d19_55 cl_0 <| Runs.lcmp d19_56 <| ?_
  refine ite_el hf (fun hc3 hf => ?_) (fun hc3 hf => ?_)
  · refine Runs.ifN d19_57 (teq ((lw_eq _ _).mpr hc3)).2 <| ?_
    refine Runs.iload d19_60 rfl <| Runs.iload d19_62 rfl <| Runs.iadd d19_64 <| Runs.istore (P' := [vn, vn, vn, vl l3, v2, vi (i5 + i6), vi i6, vi i7, vl t0, v2]) d19_65 (by decide) rfl <| Runs.lloadN d19_67 rfl <| Runs.iload d19_68 rfl <| Runs.lushr d19_70 <| Runs.lstoreN (P' := [vn, vn, vn, vl ((l3.toUInt64 >>> (i6 &&& 0x3f).toInt64.toUInt64).toInt64), v2, vi (i5 + i6), vi i6, vi i7, vl t0, v2]) d19_71 (by decide) rfl <| Runs.iload d19_72 rfl <| Runs.iconst d19_74 ci_1 <| Runs.ishr d19_75 <| Runs.istore (P' := [vn, vn, vn, vl ((l3.toUInt64 >>> (i6 &&& 0x3f).toInt64.toUInt64).toInt64), v2, vi (i5 + i6), vi (i6 >>> ((1 : Int32) &&& 31)), vi i7, vl t0, v2]) d19_76 (by decide) rfl <| ?_
    exact Runs.iinc (P' := [vn, vn, vn, vl ((l3.toUInt64 >>> (i6 &&& 0x3f).toInt64.toUInt64).toInt64), v2, vi (i5 + i6), vi (i6 >>> ((1 : Int32) &&& 31)), vi (i7 + (1 : Int32)), vl t0, v2]) d19_78 ci_1 rfl (by decide) rfl <| Runs.goto (pc' := 23) d19_81 (by decide) <| Runs.forget [false, false, false, true, true, true, true, true, false, false] rfl <| hk23 ((l3.toUInt64 >>> (i6 &&& 0x3f).toInt64.toUInt64).toInt64) (i5 + i6) (i6 >>> ((1 : Int32) &&& 31)) (i7 + (1 : Int32)) hf
  · refine Runs.ifY (pc' := 72) d19_57 (feq (fun u => hc3 ((lw_eq _ _).mp u))).2 (by decide) <| ?_
    exact Runs.iload d19_72 rfl <| Runs.iconst d19_74 ci_1 <| Runs.ishr d19_75 <| Runs.istore (P' := [vn, vn, vn, vl l3, v2, vi i5, vi (i6 >>> ((1 : Int32) &&& 31)), vi i7, vl t0, v2]) d19_76 (by decide) rfl <| Runs.iinc (P' := [vn, vn, vn, vl l3, v2, vi i5, vi (i6 >>> ((1 : Int32) &&& 31)), vi (i7 + (1 : Int32)), vl t0, v2]) d19_78 ci_1 rfl (by decide) rfl <| Runs.goto (pc' := 23) d19_81 (by decide) <| Runs.forget [false, false, false, true, true, true, true, true, false, false] rfl <| hk23 l3 i5 (i6 >>> ((1 : Int32) &&& 31)) (i7 + (1 : Int32)) hf
def X_lowestBit_w23 (NF : Nat) (ob : Rec) (k23 : Int64 → Int32 → Int32 → Int32 → Option (Int32)) (l3 : Int64) (i5 : Int32) (i6 : Int32) (i7 : Int32) : Option (Int32) :=
  if i7 < (6 : Int32) then
    if i6 < (64 : Int32) then
      X_lowestBit_b49 NF ob k23 l3 i5 i6 i7 (((1 : Int64) <<< (i6 &&& 0x3f).toInt64) - (1 : Int64))
    else
      X_lowestBit_b49 NF ob k23 l3 i5 i6 i7 (-1 : Int64)
  else
    some i5
def X_lowestBit_l23 (NF : Nat) (ob : Rec) : Nat → Int64 → Int32 → Int32 → Int32 → Option (Int32)
  | 0, _, _, _, _ => none
  | n + 1, l3, i5, i6, i7 => X_lowestBit_w23 NF ob (X_lowestBit_l23 NF ob n) l3 i5 i6 i7
set_option maxRecDepth 65536 in
set_option maxHeartbeats 4000000 in
theorem X_lowestBit_w23_p {C : Ctx} {top : Nat} {a : Nat} {H : List (Nat × Nat × Rec)} {ob : Rec} {res : Int32} {NF : Nat} (k23 : Int64 → Int32 → Int32 → Int32 → Option (Int32)) (hk23 : ∀ (l3 : Int64) (i5 : Int32) (i6 : Int32) (i7 : Int32), k23 l3 i5 i6 i7 = some res → Runs C B19 0 0 23 [vn, vn, vn, vl l3, v2, vi i5, vi i6, vi i7, vn, vn] [] (top, (a, 6, ob) :: H) (Ans (some (.int res)) (top, (a, 6, ob) :: H))) (l3 : Int64) (i5 : Int32) (i6 : Int32) (i7 : Int32) (hf : X_lowestBit_w23 NF ob k23 l3 i5 i6 i7 = some res) : Runs C B19 0 0 23 [vn, vn, vn, vl l3, v2, vi i5, vi i6, vi i7, vn, vn] [] (top, (a, 6, ob) :: H) (Ans (some (.int res)) (top, (a, 6, ob) :: H)) := by
  delta X_lowestBit_w23 at hf
  refine Runs.iload d19_23 rfl <| Runs.bipush d19_25 cb_6 <| ?_
  refine ite_el hf (fun hc1 hf => ?_) (fun hc1 hf => ?_)
  · refine Runs.icN d19_27 (tlt hc1).2.1 <| ?_
    refine Runs.iload d19_30 rfl <| Runs.bipush d19_32 cb_64 <| ?_
    refine ite_el hf (fun hc2 hf => ?_) (fun hc2 hf => ?_)
    · refine Runs.icY (pc' := 43) d19_34 (tlt hc2).1 (by decide) <| ?_
      exact Runs.lconst d19_43 cl_1 <| Runs.iload d19_44 rfl <| Runs.lshl d19_46 <| Runs.lconst d19_47 cl_1 <| Runs.lsub d19_48 <| X_lowestBit_b49_p k23 hk23 l3 i5 i6 i7 (((1 : Int64) <<< (i6 &&& 0x3f).toInt64) - (1 : Int64)) hf
    · refine Runs.icN d19_34 (flt hc2).1 <| ?_
      exact Runs.ldc2 d19_37 w98 <| Runs.goto (pc' := 49) d19_40 (by decide) <| X_lowestBit_b49_p k23 hk23 l3 i5 i6 i7 (-1 : Int64) hf
  · refine Runs.icY (pc' := 84) d19_27 (flt hc1).2.1 (by decide) <| ?_
    obtain rfl := Option.some.inj hf
    exact Runs.iload d19_84 rfl <| Runs.retI d19_86 rfl ⟨by decide, by decide⟩ ⟨rfl, rfl⟩
theorem X_lowestBit_l23_p {C : Ctx} {top : Nat} {a : Nat} {H : List (Nat × Nat × Rec)} {ob : Rec} {res : Int32} {NF : Nat} (n : Nat) (l3 : Int64) (i5 : Int32) (i6 : Int32) (i7 : Int32) (hf : X_lowestBit_l23 NF ob n l3 i5 i6 i7 = some res) : Runs C B19 0 0 23 [vn, vn, vn, vl l3, v2, vi i5, vi i6, vi i7, vn, vn] [] (top, (a, 6, ob) :: H) (Ans (some (.int res)) (top, (a, 6, ob) :: H)) := by
  induction n generalizing l3 i5 i6 i7 with
  | zero => cases (show (none : Option (Int32)) = some res from hf)
  | succ n ih => exact X_lowestBit_w23_p (X_lowestBit_l23 NF ob n) (fun l3 i5 i6 i7 h => ih _ _ _ _ h) l3 i5 i6 i7 hf
def X_lowestBit (NF : Nat) (ob : Rec) (l1 : Int64) : Option (Int32) :=
  if l1 = (0 : Int64) then
    some (-1 : Int32)
  else
    X_lowestBit_l23 NF ob NF (l1 &&& (-l1)) (0 : Int32) (32 : Int32) (0 : Int32)
set_option maxRecDepth 65536 in
set_option maxHeartbeats 4000000 in
theorem X_lowestBit_p {C : Ctx} {top : Nat} {a : Nat} {H : List (Nat × Nat × Rec)} {ob : Rec} {res : Int32} {NF : Nat} (l1 : Int64) (hf : X_lowestBit NF ob l1 = some res) : Runs C B19 0 0 0 [vr a, vl l1, v2, vn, vn, vn, vn, vn, vn, vn] [] (top, (a, 6, ob) :: H) (Ans (some (.int res)) (top, (a, 6, ob) :: H)) := by
  delta X_lowestBit at hf
  refine Runs.lloadN d19_0 rfl <| Runs.lconst d19_1 cl_0 <| Runs.lcmp d19_2 <| ?_
  refine ite_el hf (fun hc4 hf => ?_) (fun hc4 hf => ?_)
  · refine Runs.ifN d19_3 (teq ((lw_eq _ _).mpr hc4)).2 <| ?_
    obtain rfl := Option.some.inj hf
    exact Runs.iconst d19_6 ci_m1 <| Runs.retI d19_7 rfl ⟨by decide, by decide⟩ ⟨rfl, rfl⟩
  · refine Runs.ifY (pc' := 8) d19_3 (feq (fun u => hc4 ((lw_eq _ _).mp u))).2 (by decide) <| ?_
    exact Runs.lloadN d19_8 rfl <| Runs.lloadN d19_9 rfl <| Runs.lneg d19_10 <| Runs.land d19_11 <| Runs.lstoreN (P' := [vr a, vl l1, v2, vl (l1 &&& (-l1)), v2, vn, vn, vn, vn, vn]) d19_12 (by decide) rfl <| Runs.iconst d19_13 ci_0 <| Runs.istore (P' := [vr a, vl l1, v2, vl (l1 &&& (-l1)), v2, vi (0 : Int32), vn, vn, vn, vn]) d19_14 (by decide) rfl <| Runs.bipush d19_16 cb_32 <| Runs.istore (P' := [vr a, vl l1, v2, vl (l1 &&& (-l1)), v2, vi (0 : Int32), vi (32 : Int32), vn, vn, vn]) d19_18 (by decide) rfl <| Runs.iconst d19_20 ci_0 <| Runs.istore (P' := [vr a, vl l1, v2, vl (l1 &&& (-l1)), v2, vi (0 : Int32), vi (32 : Int32), vi (0 : Int32), vn, vn]) d19_21 (by decide) rfl <| Runs.forget [false, false, false, true, true, true, true, true, false, false] rfl <| X_lowestBit_l23_p NF (l1 &&& (-l1)) (0 : Int32) (32 : Int32) (0 : Int32) hf
theorem X_lowestBit_pay {C : Ctx} {top : Nat} {a : Nat} {H : List (Nat × Nat × Rec)} {ob : Rec} {res : Int32} {NF : Nat} {l1 : Int64} (hf : X_lowestBit NF ob l1 = some res) : Pays C B19 [.ref a, .long l1] (top, (a, 6, ob) :: H) (Ans (some (.int res)) (top, (a, 6, ob) :: H)) :=
  Pays.of pnK (Nat.le_of_ble_eq_true rfl) (P := [vr a, vl l1, v2, vn, vn, vn, vn, vn, vn, vn]) 7 rfl (X_lowestBit_p l1 hf)
def X_firstSetInWork_w2 (NF : Nat) (ob : Rec) (k2 : Int32 → Option (Int32)) (i1 : Int32) : Option (Int32) :=
  if i1 < (4 : Int32) then
    chk (4 : Int32) i1 <|
    if (gJ ob 5 i1) = (0 : Int64) then
      k2 (i1 + (1 : Int32))
    else
      (X_lowestBit NF ob (gJ ob 5 i1)).bind fun r4 =>
      some ((i1 * (64 : Int32)) + r4)
  else
    some (-1 : Int32)
def X_firstSetInWork_l2 (NF : Nat) (ob : Rec) : Nat → Int32 → Option (Int32)
  | 0, _ => none
  | n + 1, i1 => X_firstSetInWork_w2 NF ob (X_firstSetInWork_l2 NF ob n) i1
set_option maxRecDepth 65536 in
set_option maxHeartbeats 4000000 in
theorem X_firstSetInWork_w2_p {C : Ctx} {top : Nat} {a : Nat} {H : List (Nat × Nat × Rec)} {ob : Rec} {res : Int32} {NF : Nat} (k2 : Int32 → Option (Int32)) (hk2 : ∀ (i1 : Int32), k2 i1 = some res → Runs C B18 0 0 2 [vr a, vi i1, vn, vn] [] (top, (a, 6, ob) :: H) (Ans (some (.int res)) (top, (a, 6, ob) :: H))) (i1 : Int32) (hf : X_firstSetInWork_w2 NF ob k2 i1 = some res) : Runs C B18 0 0 2 [vr a, vi i1, vn, vn] [] (top, (a, 6, ob) :: H) (Ans (some (.int res)) (top, (a, 6, ob) :: H)) := by
  delta X_firstSetInWork_w2 at hf
  refine Runs.iloadN d18_2 rfl <| Runs.iconst d18_3 ci_4 <| ?_
  refine ite_el hf (fun hc1 hf => ?_) (fun hc1 hf => ?_)
  · refine Runs.icN d18_4 (tlt hc1).2.1 <| ?_
    refine Runs.aloadN d18_7 rfl <| Runs.getA d18_8 fA_5 w28 (by decide) <| Runs.iloadN d18_11 rfl <| ?_
    refine chk_el hf fun hi2 hf => ?_
    refine Runs.laloadA d18_12 fA_5 (by decide) hi2 <| Runs.lstoreN (P' := [vr a, vi i1, vl (gJ ob 5 i1), v2]) d18_13 (by decide) rfl <| Runs.lloadN d18_14 rfl <| Runs.lconst d18_15 cl_0 <| Runs.lcmp d18_16 <| ?_
    refine ite_el hf (fun hc3 hf => ?_) (fun hc3 hf => ?_)
    · refine Runs.ifY (pc' := 31) d18_17 (teq ((lw_eq _ _).mpr hc3)).1 (by decide) <| ?_
      exact Runs.iinc (P' := [vr a, vi (i1 + (1 : Int32)), vl (gJ ob 5 i1), v2]) d18_31 ci_1 rfl (by decide) rfl <| Runs.goto (pc' := 2) d18_34 (by decide) <| Runs.forget [true, true, false, false] rfl <| hk2 (i1 + (1 : Int32)) hf
    · refine Runs.ifN d18_17 (feq (fun u => hc3 ((lw_eq _ _).mp u))).1 <| ?_
      refine Runs.iloadN d18_20 rfl <| Runs.bipush d18_21 cb_64 <| Runs.imul d18_23 <| Runs.aloadN d18_24 rfl <| Runs.lloadN d18_25 rfl <| ?_
      refine bind_el hf fun r4 hg5 hf => ?_
      obtain rfl := Option.some.inj hf
      exact Runs.callP (N := B19) (W := 1) (as := [.long (gJ ob 5 i1)]) (S' := [.int (i1 * (64 : Int32))]) d18_26 w111 w112 w113 rfl cw19 ar19 rk18_19_1 (by decide) rfl rfl (X_lowestBit_pay hg5) <| ans1 <| Runs.iadd d18_29 <| Runs.retI d18_30 rfl ⟨by decide, by decide⟩ ⟨rfl, rfl⟩
  · refine Runs.icY (pc' := 37) d18_4 (flt hc1).2.1 (by decide) <| ?_
    obtain rfl := Option.some.inj hf
    exact Runs.iconst d18_37 ci_m1 <| Runs.retI d18_38 rfl ⟨by decide, by decide⟩ ⟨rfl, rfl⟩
theorem X_firstSetInWork_l2_p {C : Ctx} {top : Nat} {a : Nat} {H : List (Nat × Nat × Rec)} {ob : Rec} {res : Int32} {NF : Nat} (n : Nat) (i1 : Int32) (hf : X_firstSetInWork_l2 NF ob n i1 = some res) : Runs C B18 0 0 2 [vr a, vi i1, vn, vn] [] (top, (a, 6, ob) :: H) (Ans (some (.int res)) (top, (a, 6, ob) :: H)) := by
  induction n generalizing i1 with
  | zero => cases (show (none : Option (Int32)) = some res from hf)
  | succ n ih => exact X_firstSetInWork_w2_p (X_firstSetInWork_l2 NF ob n) (fun i1 h => ih _ h) i1 hf
def X_firstSetInWork (NF : Nat) (ob : Rec) : Option (Int32) :=
  X_firstSetInWork_l2 NF ob NF (0 : Int32)
set_option maxRecDepth 65536 in
set_option maxHeartbeats 4000000 in
theorem X_firstSetInWork_p {C : Ctx} {top : Nat} {a : Nat} {H : List (Nat × Nat × Rec)} {ob : Rec} {res : Int32} {NF : Nat} (hf : X_firstSetInWork NF ob = some res) : Runs C B18 0 0 0 [vr a, vn, vn, vn] [] (top, (a, 6, ob) :: H) (Ans (some (.int res)) (top, (a, 6, ob) :: H)) := by
  delta X_firstSetInWork at hf
  exact Runs.iconst d18_0 ci_0 <| Runs.istoreN (P' := [vr a, vi (0 : Int32), vn, vn]) d18_1 (by decide) rfl <| X_firstSetInWork_l2_p NF (0 : Int32) hf
theorem X_firstSetInWork_pay {C : Ctx} {top : Nat} {a : Nat} {H : List (Nat × Nat × Rec)} {ob : Rec} {res : Int32} {NF : Nat} (hf : X_firstSetInWork NF ob = some res) : Pays C B18 [.ref a] (top, (a, 6, ob) :: H) (Ans (some (.int res)) (top, (a, 6, ob) :: H)) :=
  Pays.of pnK (Nat.le_of_ble_eq_true rfl) (P := [vr a, vn, vn, vn]) 3 rfl (X_firstSetInWork_p hf)
def X_setResult (ob : Rec) (i1 : Int32) (i2 : Int32) : Option (Rec) :=
  some (sI (sI ob 5 i1) 6 i2)
set_option maxRecDepth 65536 in
set_option maxHeartbeats 4000000 in
theorem X_setResult_p {C : Ctx} {top : Nat} {a : Nat} {H : List (Nat × Nat × Rec)} {res : Rec} (ob : Rec) (i1 : Int32) (i2 : Int32) (hf : X_setResult ob i1 i2 = some res) : Runs C B20 0 0 0 [vr a, vi i1, vi i2] [] (top, (a, 6, ob) :: H) (Ans none (top, (a, 6, res) :: H)) := by
  delta X_setResult at hf
  obtain rfl := Option.some.inj hf
  exact Runs.aloadN d20_0 rfl <| Runs.iloadN d20_1 rfl <| Runs.putI d20_2 w46 fS_5 (Or.inl w47) <| Runs.aloadN d20_5 rfl <| Runs.iloadN d20_6 rfl <| Runs.putI d20_7 w48 fS_6 (Or.inl w49) <| Runs.retV d20_10 rfl ⟨by decide, by decide⟩ ⟨rfl, rfl⟩
theorem X_setResult_pay {C : Ctx} {top : Nat} {a : Nat} {H : List (Nat × Nat × Rec)} {res : Rec} {ob : Rec} {i1 : Int32} {i2 : Int32} (hf : X_setResult ob i1 i2 = some res) : Pays C B20 [.ref a, .int i1, .int i2] (top, (a, 6, ob) :: H) (Ans none (top, (a, 6, res) :: H)) :=
  Pays.of pnK (Nat.le_of_ble_eq_true rfl) (P := [vr a, vi i1, vi i2]) 0 rfl (X_setResult_p ob i1 i2 hf)
def X_prove (NF : Nat) (ob : Rec) : Option (Int32 × Rec) :=
  (X_completeF ob).bind fun r1 =>
  if r1 = (0 : Int32) then
    some ((-5 : Int32), ob)
  else
    (X_ensureTableF NF ob).bind fun q4 =>
    (X_loadWorkNegatedF NF q4).bind fun q6 =>
    (X_firstSetInWork NF q6).bind fun r8 =>
    if r8 < (0 : Int32) then
      (X_setResult q6 (1 : Int32) (-1 : Int32)).bind fun q11 =>
      some ((1 : Int32), q11)
    else
      (X_setResult q6 (2 : Int32) r8).bind fun q13 =>
      some ((2 : Int32), q13)
set_option maxRecDepth 65536 in
set_option maxHeartbeats 4000000 in
theorem X_prove_p {C : Ctx} {top : Nat} {a : Nat} {H : List (Nat × Nat × Rec)} {res : Int32 × Rec} {NF : Nat} (ob : Rec) (hf : X_prove NF ob = some res) : Runs C B7 0 0 0 [vr a, vn] [] (top, (a, 6, ob) :: H) (Ans (some (.int res.1)) (top, (a, 6, res.2) :: H)) := by
  delta X_prove at hf
  refine Runs.aloadN d7_0 rfl <| ?_
  refine bind_el hf fun r1 hg2 hf => ?_
  refine Runs.callP (N := B8) (W := 0) (as := []) (S' := []) d7_1 w64 w65 w66 rfl cw8 ar8 rk7_8_0 (by decide) rfl rfl (X_completeF_pay hg2) <| ans1 <| ?_
  refine ite_el hf (fun hc3 hf => ?_) (fun hc3 hf => ?_)
  · refine Runs.ifN d7_4 (teq hc3).2 <| ?_
    obtain rfl := Option.some.inj hf
    exact Runs.bipush d7_7 cb_m5 <| Runs.retI d7_9 rfl ⟨by decide, by decide⟩ ⟨rfl, rfl⟩
  · refine Runs.ifY (pc' := 10) d7_4 (feq hc3).2 (by decide) <| ?_
    refine Runs.aloadN d7_10 rfl <| ?_
    refine bind_el hf fun q4 hg5 hf => ?_
    refine Runs.callP (N := B9) (W := 0) (as := []) (S' := []) d7_11 w68 w69 w70 rfl cw9 ar9 rk7_9_0 (by decide) rfl rfl (X_ensureTableF_pay hg5) <| ans0 <| Runs.aloadN d7_14 rfl <| ?_
    refine bind_el hf fun q6 hg7 hf => ?_
    refine Runs.callP (N := B17) (W := 0) (as := []) (S' := []) d7_15 w103 w104 w105 rfl cw17 ar17 rk7_17_0 (by decide) rfl rfl (X_loadWorkNegatedF_pay hg7) <| ans0 <| Runs.aloadN d7_18 rfl <| ?_
    refine bind_el hf fun r8 hg9 hf => ?_
    refine Runs.callP (N := B18) (W := 0) (as := []) (S' := []) d7_19 w107 w108 w109 rfl cw18 ar18 rk7_18_0 (by decide) rfl rfl (X_firstSetInWork_pay hg9) <| ans1 <| Runs.istoreN (P' := [vr a, vi r8]) d7_22 (by decide) rfl <| Runs.iloadN d7_23 rfl <| ?_
    refine ite_el hf (fun hc10 hf => ?_) (fun hc10 hf => ?_)
    · refine Runs.ifN d7_24 (tlt hc10).2.1 <| ?_
      refine Runs.aloadN d7_27 rfl <| Runs.iconst d7_28 ci_1 <| Runs.iconst d7_29 ci_m1 <| ?_
      refine bind_el hf fun q11 hg12 hf => ?_
      obtain rfl := Option.some.inj hf
      exact Runs.callP (N := B20) (W := 0) (as := [.int (1 : Int32), .int (-1 : Int32)]) (S' := []) d7_30 w115 w116 w117 rfl cw20 ar20 rk7_20_0 (by decide) rfl rfl (X_setResult_pay hg12) <| ans0 <| Runs.iconst d7_33 ci_1 <| Runs.retI d7_34 rfl ⟨by decide, by decide⟩ ⟨rfl, rfl⟩
    · refine Runs.ifY (pc' := 35) d7_24 (flt hc10).2.1 (by decide) <| ?_
      refine Runs.aloadN d7_35 rfl <| Runs.iconst d7_36 ci_2 <| Runs.iloadN d7_37 rfl <| ?_
      refine bind_el hf fun q13 hg14 hf => ?_
      obtain rfl := Option.some.inj hf
      exact Runs.callP (N := B20) (W := 0) (as := [.int (2 : Int32), .int r8]) (S' := []) d7_38 w115 w116 w117 rfl cw20 ar20 rk7_20_0 (by decide) rfl rfl (X_setResult_pay hg14) <| ans0 <| Runs.iconst d7_41 ci_2 <| Runs.retI d7_42 rfl ⟨by decide, by decide⟩ ⟨rfl, rfl⟩
theorem X_prove_pay {C : Ctx} {top : Nat} {a : Nat} {H : List (Nat × Nat × Rec)} {res : Int32 × Rec} {NF : Nat} {ob : Rec} (hf : X_prove NF ob = some res) : Pays C B7 [.ref a] (top, (a, 6, ob) :: H) (Ans (some (.int res.1)) (top, (a, 6, res.2) :: H)) :=
  Pays.of pnK (Nat.le_of_ble_eq_true rfl) (P := [vr a, vn]) 1 rfl (X_prove_p ob hf)
def X_lastResult (ob : Rec) : Option (Int32) :=
  some (gI ob 5)
set_option maxRecDepth 65536 in
set_option maxHeartbeats 4000000 in
theorem X_lastResult_p {C : Ctx} {top : Nat} {a : Nat} {H : List (Nat × Nat × Rec)} {ob : Rec} {res : Int32} (hf : X_lastResult ob = some res) : Runs C B21 0 0 0 [vr a] [] (top, (a, 6, ob) :: H) (Ans (some (.int res)) (top, (a, 6, ob) :: H)) := by
  delta X_lastResult at hf
  obtain rfl := Option.some.inj hf
  exact Runs.aloadN d21_0 rfl <| Runs.getI d21_1 w46 fS_5 <| Runs.retI d21_4 rfl ⟨by decide, by decide⟩ ⟨rfl, rfl⟩
theorem X_lastResult_pay {C : Ctx} {top : Nat} {a : Nat} {H : List (Nat × Nat × Rec)} {ob : Rec} {res : Int32} (hf : X_lastResult ob = some res) : Pays C B21 [.ref a] (top, (a, 6, ob) :: H) (Ans (some (.int res)) (top, (a, 6, ob) :: H)) :=
  Pays.of pnK (Nat.le_of_ble_eq_true rfl) (P := [vr a]) 0 rfl (X_lastResult_p hf)
def X_witness (ob : Rec) : Option (Int32) :=
  some (gI ob 6)
set_option maxRecDepth 65536 in
set_option maxHeartbeats 4000000 in
theorem X_witness_p {C : Ctx} {top : Nat} {a : Nat} {H : List (Nat × Nat × Rec)} {ob : Rec} {res : Int32} (hf : X_witness ob = some res) : Runs C B22 0 0 0 [vr a] [] (top, (a, 6, ob) :: H) (Ans (some (.int res)) (top, (a, 6, ob) :: H)) := by
  delta X_witness at hf
  obtain rfl := Option.some.inj hf
  exact Runs.aloadN d22_0 rfl <| Runs.getI d22_1 w48 fS_6 <| Runs.retI d22_4 rfl ⟨by decide, by decide⟩ ⟨rfl, rfl⟩
theorem X_witness_pay {C : Ctx} {top : Nat} {a : Nat} {H : List (Nat × Nat × Rec)} {ob : Rec} {res : Int32} (hf : X_witness ob = some res) : Pays C B22 [.ref a] (top, (a, 6, ob) :: H) (Ans (some (.int res)) (top, (a, 6, ob) :: H)) :=
  Pays.of pnK (Nat.le_of_ble_eq_true rfl) (P := [vr a]) 0 rfl (X_witness_p hf)
def X_loadWorkF_w2 (NF : Nat) (k2 : Rec → Int32 → Option (Rec)) (ob : Rec) (i1 : Int32) : Option (Rec) :=
  if i1 < (4 : Int32) then
    chk (4 : Int32) i1 <|
    chk (4 : Int32) i1 <|
    k2 (sJ ob 5 i1 (gJ ob 3 i1)) (i1 + (1 : Int32))
  else
    some ob
def X_loadWorkF_l2 (NF : Nat) : Nat → Rec → Int32 → Option (Rec)
  | 0, _, _ => none
  | n + 1, ob, i1 => X_loadWorkF_w2 NF (X_loadWorkF_l2 NF n) ob i1
set_option maxRecDepth 65536 in
set_option maxHeartbeats 4000000 in
theorem X_loadWorkF_w2_p {C : Ctx} {top : Nat} {a : Nat} {H : List (Nat × Nat × Rec)} {res : Rec} {NF : Nat} (k2 : Rec → Int32 → Option (Rec)) (hk2 : ∀ (ob : Rec) (i1 : Int32), k2 ob i1 = some res → Runs C B24 0 0 2 [vr a, vi i1] [] (top, (a, 6, ob) :: H) (Ans none (top, (a, 6, res) :: H))) (ob : Rec) (i1 : Int32) (hf : X_loadWorkF_w2 NF k2 ob i1 = some res) : Runs C B24 0 0 2 [vr a, vi i1] [] (top, (a, 6, ob) :: H) (Ans none (top, (a, 6, res) :: H)) := by
  delta X_loadWorkF_w2 at hf
  refine Runs.iloadN d24_2 rfl <| Runs.iconst d24_3 ci_4 <| ?_
  refine ite_el hf (fun hc1 hf => ?_) (fun hc1 hf => ?_)
  · refine Runs.icN d24_4 (tlt hc1).2.1 <| ?_
    refine Runs.aloadN d24_7 rfl <| Runs.getA d24_8 fA_5 w28 (by decide) <| Runs.iloadN d24_11 rfl <| Runs.aloadN d24_12 rfl <| Runs.getA d24_13 fA_3 w24 (by decide) <| Runs.iloadN d24_16 rfl <| ?_
    refine chk_el hf fun hi2 hf => ?_
    refine Runs.laloadA d24_17 fA_3 (by decide) hi2 <| ?_
    refine chk_el hf fun hi3 hf => ?_
    exact Runs.lastoreA d24_18 fA_5 (by decide) hi3 <| Runs.iinc (P' := [vr a, vi (i1 + (1 : Int32))]) d24_19 ci_1 rfl (by decide) rfl <| Runs.goto (pc' := 2) d24_22 (by decide) <| hk2 (sJ ob 5 i1 (gJ ob 3 i1)) (i1 + (1 : Int32)) hf
  · refine Runs.icY (pc' := 25) d24_4 (flt hc1).2.1 (by decide) <| ?_
    obtain rfl := Option.some.inj hf
    exact Runs.retV d24_25 rfl ⟨by decide, by decide⟩ ⟨rfl, rfl⟩
theorem X_loadWorkF_l2_p {C : Ctx} {top : Nat} {a : Nat} {H : List (Nat × Nat × Rec)} {res : Rec} {NF : Nat} (n : Nat) (ob : Rec) (i1 : Int32) (hf : X_loadWorkF_l2 NF n ob i1 = some res) : Runs C B24 0 0 2 [vr a, vi i1] [] (top, (a, 6, ob) :: H) (Ans none (top, (a, 6, res) :: H)) := by
  induction n generalizing ob i1 with
  | zero => cases (show (none : Option (Rec)) = some res from hf)
  | succ n ih => exact X_loadWorkF_w2_p (X_loadWorkF_l2 NF n) (fun ob i1 h => ih _ _ h) ob i1 hf
def X_loadWorkF (NF : Nat) (ob : Rec) : Option (Rec) :=
  X_loadWorkF_l2 NF NF ob (0 : Int32)
set_option maxRecDepth 65536 in
set_option maxHeartbeats 4000000 in
theorem X_loadWorkF_p {C : Ctx} {top : Nat} {a : Nat} {H : List (Nat × Nat × Rec)} {res : Rec} {NF : Nat} (ob : Rec) (hf : X_loadWorkF NF ob = some res) : Runs C B24 0 0 0 [vr a, vn] [] (top, (a, 6, ob) :: H) (Ans none (top, (a, 6, res) :: H)) := by
  delta X_loadWorkF at hf
  exact Runs.iconst d24_0 ci_0 <| Runs.istoreN (P' := [vr a, vi (0 : Int32)]) d24_1 (by decide) rfl <| X_loadWorkF_l2_p NF ob (0 : Int32) hf
theorem X_loadWorkF_pay {C : Ctx} {top : Nat} {a : Nat} {H : List (Nat × Nat × Rec)} {res : Rec} {NF : Nat} {ob : Rec} (hf : X_loadWorkF NF ob = some res) : Pays C B24 [.ref a] (top, (a, 6, ob) :: H) (Ans none (top, (a, 6, res) :: H)) :=
  Pays.of pnK (Nat.le_of_ble_eq_true rfl) (P := [vr a, vn]) 1 rfl (X_loadWorkF_p ob hf)
def X_satisfy (NF : Nat) (ob : Rec) : Option (Int32 × Rec) :=
  (X_completeF ob).bind fun r1 =>
  if r1 = (0 : Int32) then
    some ((-5 : Int32), ob)
  else
    (X_ensureTableF NF ob).bind fun q4 =>
    (X_loadWorkF NF q4).bind fun q6 =>
    (X_firstSetInWork NF q6).bind fun r8 =>
    if r8 < (0 : Int32) then
      (X_setResult q6 (4 : Int32) (-1 : Int32)).bind fun q11 =>
      some ((4 : Int32), q11)
    else
      (X_setResult q6 (3 : Int32) r8).bind fun q13 =>
      some ((3 : Int32), q13)
set_option maxRecDepth 65536 in
set_option maxHeartbeats 4000000 in
theorem X_satisfy_p {C : Ctx} {top : Nat} {a : Nat} {H : List (Nat × Nat × Rec)} {res : Int32 × Rec} {NF : Nat} (ob : Rec) (hf : X_satisfy NF ob = some res) : Runs C B23 0 0 0 [vr a, vn] [] (top, (a, 6, ob) :: H) (Ans (some (.int res.1)) (top, (a, 6, res.2) :: H)) := by
  delta X_satisfy at hf
  refine Runs.aloadN d23_0 rfl <| ?_
  refine bind_el hf fun r1 hg2 hf => ?_
  refine Runs.callP (N := B8) (W := 0) (as := []) (S' := []) d23_1 w64 w65 w66 rfl cw8 ar8 rk23_8_0 (by decide) rfl rfl (X_completeF_pay hg2) <| ans1 <| ?_
  refine ite_el hf (fun hc3 hf => ?_) (fun hc3 hf => ?_)
  · refine Runs.ifN d23_4 (teq hc3).2 <| ?_
    obtain rfl := Option.some.inj hf
    exact Runs.bipush d23_7 cb_m5 <| Runs.retI d23_9 rfl ⟨by decide, by decide⟩ ⟨rfl, rfl⟩
  · refine Runs.ifY (pc' := 10) d23_4 (feq hc3).2 (by decide) <| ?_
    refine Runs.aloadN d23_10 rfl <| ?_
    refine bind_el hf fun q4 hg5 hf => ?_
    refine Runs.callP (N := B9) (W := 0) (as := []) (S' := []) d23_11 w68 w69 w70 rfl cw9 ar9 rk23_9_0 (by decide) rfl rfl (X_ensureTableF_pay hg5) <| ans0 <| Runs.aloadN d23_14 rfl <| ?_
    refine bind_el hf fun q6 hg7 hf => ?_
    refine Runs.callP (N := B24) (W := 0) (as := []) (S' := []) d23_15 w134 w135 w136 rfl cw24 ar24 rk23_24_0 (by decide) rfl rfl (X_loadWorkF_pay hg7) <| ans0 <| Runs.aloadN d23_18 rfl <| ?_
    refine bind_el hf fun r8 hg9 hf => ?_
    refine Runs.callP (N := B18) (W := 0) (as := []) (S' := []) d23_19 w107 w108 w109 rfl cw18 ar18 rk23_18_0 (by decide) rfl rfl (X_firstSetInWork_pay hg9) <| ans1 <| Runs.istoreN (P' := [vr a, vi r8]) d23_22 (by decide) rfl <| Runs.iloadN d23_23 rfl <| ?_
    refine ite_el hf (fun hc10 hf => ?_) (fun hc10 hf => ?_)
    · refine Runs.ifN d23_24 (tlt hc10).2.1 <| ?_
      refine Runs.aloadN d23_27 rfl <| Runs.iconst d23_28 ci_4 <| Runs.iconst d23_29 ci_m1 <| ?_
      refine bind_el hf fun q11 hg12 hf => ?_
      obtain rfl := Option.some.inj hf
      exact Runs.callP (N := B20) (W := 0) (as := [.int (4 : Int32), .int (-1 : Int32)]) (S' := []) d23_30 w115 w116 w117 rfl cw20 ar20 rk23_20_0 (by decide) rfl rfl (X_setResult_pay hg12) <| ans0 <| Runs.iconst d23_33 ci_4 <| Runs.retI d23_34 rfl ⟨by decide, by decide⟩ ⟨rfl, rfl⟩
    · refine Runs.ifY (pc' := 35) d23_24 (flt hc10).2.1 (by decide) <| ?_
      refine Runs.aloadN d23_35 rfl <| Runs.iconst d23_36 ci_3 <| Runs.iloadN d23_37 rfl <| ?_
      refine bind_el hf fun q13 hg14 hf => ?_
      obtain rfl := Option.some.inj hf
      exact Runs.callP (N := B20) (W := 0) (as := [.int (3 : Int32), .int r8]) (S' := []) d23_38 w115 w116 w117 rfl cw20 ar20 rk23_20_0 (by decide) rfl rfl (X_setResult_pay hg14) <| ans0 <| Runs.iconst d23_41 ci_3 <| Runs.retI d23_42 rfl ⟨by decide, by decide⟩ ⟨rfl, rfl⟩
theorem X_satisfy_pay {C : Ctx} {top : Nat} {a : Nat} {H : List (Nat × Nat × Rec)} {res : Int32 × Rec} {NF : Nat} {ob : Rec} (hf : X_satisfy NF ob = some res) : Pays C B23 [.ref a] (top, (a, 6, ob) :: H) (Ans (some (.int res.1)) (top, (a, 6, res.2) :: H)) :=
  Pays.of pnK (Nat.le_of_ble_eq_true rfl) (P := [vr a, vn]) 1 rfl (X_satisfy_p ob hf)
def X_copyTokensToSaved_w16 (NF : Nat) (k16 : Rec → Int32 → Int32 → Option (Rec)) (ob : Rec) (i1 : Int32) (i2 : Int32) : Option (Rec) :=
  if i2 < i1 then
    chk (32 : Int32) i2 <|
    chk (32 : Int32) i2 <|
    k16 (sA ob 1 i2 (gA ob 0 i2)) i1 (i2 + (1 : Int32))
  else
    some (sI ob 3 i1)
def X_copyTokensToSaved_l16 (NF : Nat) : Nat → Rec → Int32 → Int32 → Option (Rec)
  | 0, _, _, _ => none
  | n + 1, ob, i1, i2 => X_copyTokensToSaved_w16 NF (X_copyTokensToSaved_l16 NF n) ob i1 i2
set_option maxRecDepth 65536 in
set_option maxHeartbeats 4000000 in
theorem X_copyTokensToSaved_w16_p {C : Ctx} {top : Nat} {a : Nat} {H : List (Nat × Nat × Rec)} {res : Rec} {NF : Nat} (k16 : Rec → Int32 → Int32 → Option (Rec)) (hk16 : ∀ (ob : Rec) (i1 : Int32) (i2 : Int32), k16 ob i1 i2 = some res → Runs C B26 0 0 16 [vr a, vi i1, vi i2] [] (top, (a, 6, ob) :: H) (Ans none (top, (a, 6, res) :: H))) (ob : Rec) (i1 : Int32) (i2 : Int32) (hf : X_copyTokensToSaved_w16 NF k16 ob i1 i2 = some res) : Runs C B26 0 0 16 [vr a, vi i1, vi i2] [] (top, (a, 6, ob) :: H) (Ans none (top, (a, 6, res) :: H)) := by
  delta X_copyTokensToSaved_w16 at hf
  refine Runs.iloadN d26_16 rfl <| Runs.iloadN d26_17 rfl <| ?_
  refine ite_el hf (fun hc1 hf => ?_) (fun hc1 hf => ?_)
  · refine Runs.icN d26_18 (tlt hc1).2.1 <| ?_
    refine Runs.aloadN d26_21 rfl <| Runs.getA d26_22 fA_1 w19 (by decide) <| Runs.iloadN d26_25 rfl <| Runs.aloadN d26_26 rfl <| Runs.getA d26_27 fA_0 w17 (by decide) <| Runs.iloadN d26_30 rfl <| ?_
    refine chk_el hf fun hi2 hf => ?_
    refine Runs.ialoadA d26_31 fA_0 (by decide) hi2 <| ?_
    refine chk_el hf fun hi3 hf => ?_
    exact Runs.iastoreA d26_32 fA_1 (by decide) hi3 <| Runs.iinc (P' := [vr a, vi i1, vi (i2 + (1 : Int32))]) d26_33 ci_1 rfl (by decide) rfl <| Runs.goto (pc' := 16) d26_36 (by decide) <| hk16 (sA ob 1 i2 (gA ob 0 i2)) i1 (i2 + (1 : Int32)) hf
  · refine Runs.icY (pc' := 39) d26_18 (flt hc1).2.1 (by decide) <| ?_
    obtain rfl := Option.some.inj hf
    exact Runs.aloadN d26_39 rfl <| Runs.iloadN d26_40 rfl <| Runs.putI d26_41 w36 fS_3 (Or.inl w37) <| Runs.retV d26_44 rfl ⟨by decide, by decide⟩ ⟨rfl, rfl⟩
theorem X_copyTokensToSaved_l16_p {C : Ctx} {top : Nat} {a : Nat} {H : List (Nat × Nat × Rec)} {res : Rec} {NF : Nat} (n : Nat) (ob : Rec) (i1 : Int32) (i2 : Int32) (hf : X_copyTokensToSaved_l16 NF n ob i1 i2 = some res) : Runs C B26 0 0 16 [vr a, vi i1, vi i2] [] (top, (a, 6, ob) :: H) (Ans none (top, (a, 6, res) :: H)) := by
  induction n generalizing ob i1 i2 with
  | zero => cases (show (none : Option (Rec)) = some res from hf)
  | succ n ih => exact X_copyTokensToSaved_w16_p (X_copyTokensToSaved_l16 NF n) (fun ob i1 i2 h => ih _ _ _ h) ob i1 i2 hf
def X_copyTokensToSaved (NF : Nat) (ob : Rec) : Option (Rec) :=
  if (32 : Int32) < (gI ob 1) then
    X_copyTokensToSaved_l16 NF NF ob (32 : Int32) (0 : Int32)
  else
    X_copyTokensToSaved_l16 NF NF ob (gI ob 1) (0 : Int32)
set_option maxRecDepth 65536 in
set_option maxHeartbeats 4000000 in
theorem X_copyTokensToSaved_p {C : Ctx} {top : Nat} {a : Nat} {H : List (Nat × Nat × Rec)} {res : Rec} {NF : Nat} (ob : Rec) (hf : X_copyTokensToSaved NF ob = some res) : Runs C B26 0 0 0 [vr a, vn, vn] [] (top, (a, 6, ob) :: H) (Ans none (top, (a, 6, res) :: H)) := by
  delta X_copyTokensToSaved at hf
  refine Runs.aloadN d26_0 rfl <| Runs.getI d26_1 w32 fS_1 <| Runs.istoreN (P' := [vr a, vi (gI ob 1), vn]) d26_4 (by decide) rfl <| Runs.iloadN d26_5 rfl <| Runs.bipush d26_6 cb_32 <| ?_
  refine ite_el hf (fun hc4 hf => ?_) (fun hc4 hf => ?_)
  · refine Runs.icN d26_8 (tlt hc4).2.2.2 <| ?_
    exact Runs.bipush d26_11 cb_32 <| Runs.istoreN (P' := [vr a, vi (32 : Int32), vn]) d26_13 (by decide) rfl <| Runs.iconst d26_14 ci_0 <| Runs.istoreN (P' := [vr a, vi (32 : Int32), vi (0 : Int32)]) d26_15 (by decide) rfl <| X_copyTokensToSaved_l16_p NF ob (32 : Int32) (0 : Int32) hf
  · refine Runs.icY (pc' := 14) d26_8 (flt hc4).2.2.2 (by decide) <| ?_
    exact Runs.iconst d26_14 ci_0 <| Runs.istoreN (P' := [vr a, vi (gI ob 1), vi (0 : Int32)]) d26_15 (by decide) rfl <| X_copyTokensToSaved_l16_p NF ob (gI ob 1) (0 : Int32) hf
theorem X_copyTokensToSaved_pay {C : Ctx} {top : Nat} {a : Nat} {H : List (Nat × Nat × Rec)} {res : Rec} {NF : Nat} {ob : Rec} (hf : X_copyTokensToSaved NF ob = some res) : Pays C B26 [.ref a] (top, (a, 6, ob) :: H) (Ans none (top, (a, 6, res) :: H)) :=
  Pays.of pnK (Nat.le_of_ble_eq_true rfl) (P := [vr a, vn, vn]) 2 rfl (X_copyTokensToSaved_p ob hf)
def X_copyTableFToS_w2 (NF : Nat) (k2 : Rec → Int32 → Option (Rec)) (ob : Rec) (i1 : Int32) : Option (Rec) :=
  if i1 < (4 : Int32) then
    chk (4 : Int32) i1 <|
    chk (4 : Int32) i1 <|
    k2 (sJ ob 4 i1 (gJ ob 3 i1)) (i1 + (1 : Int32))
  else
    some ob
def X_copyTableFToS_l2 (NF : Nat) : Nat → Rec → Int32 → Option (Rec)
  | 0, _, _ => none
  | n + 1, ob, i1 => X_copyTableFToS_w2 NF (X_copyTableFToS_l2 NF n) ob i1
set_option maxRecDepth 65536 in
set_option maxHeartbeats 4000000 in
theorem X_copyTableFToS_w2_p {C : Ctx} {top : Nat} {a : Nat} {H : List (Nat × Nat × Rec)} {res : Rec} {NF : Nat} (k2 : Rec → Int32 → Option (Rec)) (hk2 : ∀ (ob : Rec) (i1 : Int32), k2 ob i1 = some res → Runs C B27 0 0 2 [vr a, vi i1] [] (top, (a, 6, ob) :: H) (Ans none (top, (a, 6, res) :: H))) (ob : Rec) (i1 : Int32) (hf : X_copyTableFToS_w2 NF k2 ob i1 = some res) : Runs C B27 0 0 2 [vr a, vi i1] [] (top, (a, 6, ob) :: H) (Ans none (top, (a, 6, res) :: H)) := by
  delta X_copyTableFToS_w2 at hf
  refine Runs.iloadN d27_2 rfl <| Runs.iconst d27_3 ci_4 <| ?_
  refine ite_el hf (fun hc1 hf => ?_) (fun hc1 hf => ?_)
  · refine Runs.icN d27_4 (tlt hc1).2.1 <| ?_
    refine Runs.aloadN d27_7 rfl <| Runs.getA d27_8 fA_4 w26 (by decide) <| Runs.iloadN d27_11 rfl <| Runs.aloadN d27_12 rfl <| Runs.getA d27_13 fA_3 w24 (by decide) <| Runs.iloadN d27_16 rfl <| ?_
    refine chk_el hf fun hi2 hf => ?_
    refine Runs.laloadA d27_17 fA_3 (by decide) hi2 <| ?_
    refine chk_el hf fun hi3 hf => ?_
    exact Runs.lastoreA d27_18 fA_4 (by decide) hi3 <| Runs.iinc (P' := [vr a, vi (i1 + (1 : Int32))]) d27_19 ci_1 rfl (by decide) rfl <| Runs.goto (pc' := 2) d27_22 (by decide) <| hk2 (sJ ob 4 i1 (gJ ob 3 i1)) (i1 + (1 : Int32)) hf
  · refine Runs.icY (pc' := 25) d27_4 (flt hc1).2.1 (by decide) <| ?_
    obtain rfl := Option.some.inj hf
    exact Runs.retV d27_25 rfl ⟨by decide, by decide⟩ ⟨rfl, rfl⟩
theorem X_copyTableFToS_l2_p {C : Ctx} {top : Nat} {a : Nat} {H : List (Nat × Nat × Rec)} {res : Rec} {NF : Nat} (n : Nat) (ob : Rec) (i1 : Int32) (hf : X_copyTableFToS_l2 NF n ob i1 = some res) : Runs C B27 0 0 2 [vr a, vi i1] [] (top, (a, 6, ob) :: H) (Ans none (top, (a, 6, res) :: H)) := by
  induction n generalizing ob i1 with
  | zero => cases (show (none : Option (Rec)) = some res from hf)
  | succ n ih => exact X_copyTableFToS_w2_p (X_copyTableFToS_l2 NF n) (fun ob i1 h => ih _ _ h) ob i1 hf
def X_copyTableFToS (NF : Nat) (ob : Rec) : Option (Rec) :=
  X_copyTableFToS_l2 NF NF ob (0 : Int32)
set_option maxRecDepth 65536 in
set_option maxHeartbeats 4000000 in
theorem X_copyTableFToS_p {C : Ctx} {top : Nat} {a : Nat} {H : List (Nat × Nat × Rec)} {res : Rec} {NF : Nat} (ob : Rec) (hf : X_copyTableFToS NF ob = some res) : Runs C B27 0 0 0 [vr a, vn] [] (top, (a, 6, ob) :: H) (Ans none (top, (a, 6, res) :: H)) := by
  delta X_copyTableFToS at hf
  exact Runs.iconst d27_0 ci_0 <| Runs.istoreN (P' := [vr a, vi (0 : Int32)]) d27_1 (by decide) rfl <| X_copyTableFToS_l2_p NF ob (0 : Int32) hf
theorem X_copyTableFToS_pay {C : Ctx} {top : Nat} {a : Nat} {H : List (Nat × Nat × Rec)} {res : Rec} {NF : Nat} {ob : Rec} (hf : X_copyTableFToS NF ob = some res) : Pays C B27 [.ref a] (top, (a, 6, ob) :: H) (Ans none (top, (a, 6, res) :: H)) :=
  Pays.of pnK (Nat.le_of_ble_eq_true rfl) (P := [vr a, vn]) 1 rfl (X_copyTableFToS_p ob hf)
def X_save (NF : Nat) (ob : Rec) : Option (Int32 × Rec) :=
  (X_completeF ob).bind fun r1 =>
  if r1 = (0 : Int32) then
    some ((-5 : Int32), ob)
  else
    (X_copyTokensToSaved NF ob).bind fun q4 =>
    (X_ensureTableF NF q4).bind fun q6 =>
    (X_copyTableFToS NF q6).bind fun q8 =>
    (X_resetResult (sI q8 4 (1 : Int32))).bind fun q10 =>
    some ((0 : Int32), q10)
set_option maxRecDepth 65536 in
set_option maxHeartbeats 4000000 in
theorem X_save_p {C : Ctx} {top : Nat} {a : Nat} {H : List (Nat × Nat × Rec)} {res : Int32 × Rec} {NF : Nat} (ob : Rec) (hf : X_save NF ob = some res) : Runs C B25 0 0 0 [vr a] [] (top, (a, 6, ob) :: H) (Ans (some (.int res.1)) (top, (a, 6, res.2) :: H)) := by
  delta X_save at hf
  refine Runs.aloadN d25_0 rfl <| ?_
  refine bind_el hf fun r1 hg2 hf => ?_
  refine Runs.callP (N := B8) (W := 0) (as := []) (S' := []) d25_1 w64 w65 w66 rfl cw8 ar8 rk25_8_0 (by decide) rfl rfl (X_completeF_pay hg2) <| ans1 <| ?_
  refine ite_el hf (fun hc3 hf => ?_) (fun hc3 hf => ?_)
  · refine Runs.ifN d25_4 (teq hc3).2 <| ?_
    obtain rfl := Option.some.inj hf
    exact Runs.bipush d25_7 cb_m5 <| Runs.retI d25_9 rfl ⟨by decide, by decide⟩ ⟨rfl, rfl⟩
  · refine Runs.ifY (pc' := 10) d25_4 (feq hc3).2 (by decide) <| ?_
    refine Runs.aloadN d25_10 rfl <| ?_
    refine bind_el hf fun q4 hg5 hf => ?_
    refine Runs.callP (N := B26) (W := 0) (as := []) (S' := []) d25_11 w143 w144 w145 rfl cw26 ar26 rk25_26_0 (by decide) rfl rfl (X_copyTokensToSaved_pay hg5) <| ans0 <| Runs.aloadN d25_14 rfl <| ?_
    refine bind_el hf fun q6 hg7 hf => ?_
    refine Runs.callP (N := B9) (W := 0) (as := []) (S' := []) d25_15 w68 w69 w70 rfl cw9 ar9 rk25_9_0 (by decide) rfl rfl (X_ensureTableF_pay hg7) <| ans0 <| Runs.aloadN d25_18 rfl <| ?_
    refine bind_el hf fun q8 hg9 hf => ?_
    refine Runs.callP (N := B27) (W := 0) (as := []) (S' := []) d25_19 w147 w148 w149 rfl cw27 ar27 rk25_27_0 (by decide) rfl rfl (X_copyTableFToS_pay hg9) <| ans0 <| Runs.aloadN d25_22 rfl <| Runs.iconst d25_23 ci_1 <| Runs.putZ (y := (1 : Int32)) d25_24 w38 fS_4 (Or.inl w39) rfl <| Runs.aloadN d25_27 rfl <| ?_
    refine bind_el hf fun q10 hg11 hf => ?_
    obtain rfl := Option.some.inj hf
    exact Runs.callP (N := B4) (W := 0) (as := []) (S' := []) d25_28 w42 w43 w44 rfl cw4 ar4 rk25_4_0 (by decide) rfl rfl (X_resetResult_pay hg11) <| ans0 <| Runs.iconst d25_31 ci_0 <| Runs.retI d25_32 rfl ⟨by decide, by decide⟩ ⟨rfl, rfl⟩
theorem X_save_pay {C : Ctx} {top : Nat} {a : Nat} {H : List (Nat × Nat × Rec)} {res : Int32 × Rec} {NF : Nat} {ob : Rec} (hf : X_save NF ob = some res) : Pays C B25 [.ref a] (top, (a, 6, ob) :: H) (Ans (some (.int res.1)) (top, (a, 6, res.2) :: H)) :=
  Pays.of pnK (Nat.le_of_ble_eq_true rfl) (P := [vr a]) 0 rfl (X_save_p ob hf)
def X_savedLength (ob : Rec) : Option (Int32) :=
  if (gI ob 4) = (0 : Int32) then
    some (0 : Int32)
  else
    some (gI ob 3)
set_option maxRecDepth 65536 in
set_option maxHeartbeats 4000000 in
theorem X_savedLength_p {C : Ctx} {top : Nat} {a : Nat} {H : List (Nat × Nat × Rec)} {ob : Rec} {res : Int32} (hf : X_savedLength ob = some res) : Runs C B28 0 0 0 [vr a] [] (top, (a, 6, ob) :: H) (Ans (some (.int res)) (top, (a, 6, ob) :: H)) := by
  delta X_savedLength at hf
  refine Runs.aloadN d28_0 rfl <| Runs.getI d28_1 w38 fS_4 <| ?_
  refine ite_el hf (fun hc1 hf => ?_) (fun hc1 hf => ?_)
  · refine Runs.ifN d28_4 (teq hc1).2 <| ?_
    obtain rfl := Option.some.inj hf
    exact Runs.iconst d28_7 ci_0 <| Runs.retI d28_8 rfl ⟨by decide, by decide⟩ ⟨rfl, rfl⟩
  · refine Runs.ifY (pc' := 9) d28_4 (feq hc1).2 (by decide) <| ?_
    obtain rfl := Option.some.inj hf
    exact Runs.aloadN d28_9 rfl <| Runs.getI d28_10 w36 fS_3 <| Runs.retI d28_13 rfl ⟨by decide, by decide⟩ ⟨rfl, rfl⟩
theorem X_savedLength_pay {C : Ctx} {top : Nat} {a : Nat} {H : List (Nat × Nat × Rec)} {ob : Rec} {res : Int32} (hf : X_savedLength ob = some res) : Pays C B28 [.ref a] (top, (a, 6, ob) :: H) (Ans (some (.int res)) (top, (a, 6, ob) :: H)) :=
  Pays.of pnK (Nat.le_of_ble_eq_true rfl) (P := [vr a]) 0 rfl (X_savedLength_p hf)
def X_clear (ob : Rec) : Option (Rec) :=
  (X_resetResult (sI (sI (sI ob 1 (0 : Int32)) 2 (0 : Int32)) 7 (0 : Int32))).bind fun q1 =>
  some q1
set_option maxRecDepth 65536 in
set_option maxHeartbeats 4000000 in
theorem X_clear_p {C : Ctx} {top : Nat} {a : Nat} {H : List (Nat × Nat × Rec)} {res : Rec} (ob : Rec) (hf : X_clear ob = some res) : Runs C B29 0 0 0 [vr a] [] (top, (a, 6, ob) :: H) (Ans none (top, (a, 6, res) :: H)) := by
  delta X_clear at hf
  refine Runs.aloadN d29_0 rfl <| Runs.iconst d29_1 ci_0 <| Runs.putI d29_2 w32 fS_1 (Or.inl w33) <| Runs.aloadN d29_5 rfl <| Runs.iconst d29_6 ci_0 <| Runs.putI d29_7 w34 fS_2 (Or.inl w35) <| Runs.aloadN d29_10 rfl <| Runs.iconst d29_11 ci_0 <| Runs.putZ (y := (0 : Int32)) d29_12 w40 fS_7 (Or.inl w41) rfl <| Runs.aloadN d29_15 rfl <| ?_
  refine bind_el hf fun q1 hg2 hf => ?_
  obtain rfl := Option.some.inj hf
  exact Runs.callP (N := B4) (W := 0) (as := []) (S' := []) d29_16 w42 w43 w44 rfl cw4 ar4 rk29_4_0 (by decide) rfl rfl (X_resetResult_pay hg2) <| ans0 <| Runs.retV d29_19 rfl ⟨by decide, by decide⟩ ⟨rfl, rfl⟩
theorem X_clear_pay {C : Ctx} {top : Nat} {a : Nat} {H : List (Nat × Nat × Rec)} {res : Rec} {ob : Rec} (hf : X_clear ob = some res) : Pays C B29 [.ref a] (top, (a, 6, ob) :: H) (Ans none (top, (a, 6, res) :: H)) :=
  Pays.of pnK (Nat.le_of_ble_eq_true rfl) (P := [vr a]) 0 rfl (X_clear_p ob hf)
def X_loadWorkDifference_w2 (NF : Nat) (k2 : Rec → Int32 → Option (Rec)) (ob : Rec) (i1 : Int32) : Option (Rec) :=
  if i1 < (4 : Int32) then
    chk (4 : Int32) i1 <|
    chk (4 : Int32) i1 <|
    chk (4 : Int32) i1 <|
    k2 (sJ ob 5 i1 ((gJ ob 3 i1) ^^^ (gJ ob 4 i1))) (i1 + (1 : Int32))
  else
    some ob
def X_loadWorkDifference_l2 (NF : Nat) : Nat → Rec → Int32 → Option (Rec)
  | 0, _, _ => none
  | n + 1, ob, i1 => X_loadWorkDifference_w2 NF (X_loadWorkDifference_l2 NF n) ob i1
set_option maxRecDepth 65536 in
set_option maxHeartbeats 4000000 in
theorem X_loadWorkDifference_w2_p {C : Ctx} {top : Nat} {a : Nat} {H : List (Nat × Nat × Rec)} {res : Rec} {NF : Nat} (k2 : Rec → Int32 → Option (Rec)) (hk2 : ∀ (ob : Rec) (i1 : Int32), k2 ob i1 = some res → Runs C B31 0 0 2 [vr a, vi i1] [] (top, (a, 6, ob) :: H) (Ans none (top, (a, 6, res) :: H))) (ob : Rec) (i1 : Int32) (hf : X_loadWorkDifference_w2 NF k2 ob i1 = some res) : Runs C B31 0 0 2 [vr a, vi i1] [] (top, (a, 6, ob) :: H) (Ans none (top, (a, 6, res) :: H)) := by
  delta X_loadWorkDifference_w2 at hf
  refine Runs.iloadN d31_2 rfl <| Runs.iconst d31_3 ci_4 <| ?_
  refine ite_el hf (fun hc1 hf => ?_) (fun hc1 hf => ?_)
  · refine Runs.icN d31_4 (tlt hc1).2.1 <| ?_
    refine Runs.aloadN d31_7 rfl <| Runs.getA d31_8 fA_5 w28 (by decide) <| Runs.iloadN d31_11 rfl <| Runs.aloadN d31_12 rfl <| Runs.getA d31_13 fA_3 w24 (by decide) <| Runs.iloadN d31_16 rfl <| ?_
    refine chk_el hf fun hi2 hf => ?_
    refine Runs.laloadA d31_17 fA_3 (by decide) hi2 <| Runs.aloadN d31_18 rfl <| Runs.getA d31_19 fA_4 w26 (by decide) <| Runs.iloadN d31_22 rfl <| ?_
    refine chk_el hf fun hi3 hf => ?_
    refine Runs.laloadA d31_23 fA_4 (by decide) hi3 <| Runs.lxor d31_24 <| ?_
    refine chk_el hf fun hi4 hf => ?_
    exact Runs.lastoreA d31_25 fA_5 (by decide) hi4 <| Runs.iinc (P' := [vr a, vi (i1 + (1 : Int32))]) d31_26 ci_1 rfl (by decide) rfl <| Runs.goto (pc' := 2) d31_29 (by decide) <| hk2 (sJ ob 5 i1 ((gJ ob 3 i1) ^^^ (gJ ob 4 i1))) (i1 + (1 : Int32)) hf
  · refine Runs.icY (pc' := 32) d31_4 (flt hc1).2.1 (by decide) <| ?_
    obtain rfl := Option.some.inj hf
    exact Runs.retV d31_32 rfl ⟨by decide, by decide⟩ ⟨rfl, rfl⟩
theorem X_loadWorkDifference_l2_p {C : Ctx} {top : Nat} {a : Nat} {H : List (Nat × Nat × Rec)} {res : Rec} {NF : Nat} (n : Nat) (ob : Rec) (i1 : Int32) (hf : X_loadWorkDifference_l2 NF n ob i1 = some res) : Runs C B31 0 0 2 [vr a, vi i1] [] (top, (a, 6, ob) :: H) (Ans none (top, (a, 6, res) :: H)) := by
  induction n generalizing ob i1 with
  | zero => cases (show (none : Option (Rec)) = some res from hf)
  | succ n ih => exact X_loadWorkDifference_w2_p (X_loadWorkDifference_l2 NF n) (fun ob i1 h => ih _ _ h) ob i1 hf
def X_loadWorkDifference (NF : Nat) (ob : Rec) : Option (Rec) :=
  X_loadWorkDifference_l2 NF NF ob (0 : Int32)
set_option maxRecDepth 65536 in
set_option maxHeartbeats 4000000 in
theorem X_loadWorkDifference_p {C : Ctx} {top : Nat} {a : Nat} {H : List (Nat × Nat × Rec)} {res : Rec} {NF : Nat} (ob : Rec) (hf : X_loadWorkDifference NF ob = some res) : Runs C B31 0 0 0 [vr a, vn] [] (top, (a, 6, ob) :: H) (Ans none (top, (a, 6, res) :: H)) := by
  delta X_loadWorkDifference at hf
  exact Runs.iconst d31_0 ci_0 <| Runs.istoreN (P' := [vr a, vi (0 : Int32)]) d31_1 (by decide) rfl <| X_loadWorkDifference_l2_p NF ob (0 : Int32) hf
theorem X_loadWorkDifference_pay {C : Ctx} {top : Nat} {a : Nat} {H : List (Nat × Nat × Rec)} {res : Rec} {NF : Nat} {ob : Rec} (hf : X_loadWorkDifference NF ob = some res) : Pays C B31 [.ref a] (top, (a, 6, ob) :: H) (Ans none (top, (a, 6, res) :: H)) :=
  Pays.of pnK (Nat.le_of_ble_eq_true rfl) (P := [vr a, vn]) 1 rfl (X_loadWorkDifference_p ob hf)
def X_equivalent (NF : Nat) (ob : Rec) : Option (Int32 × Rec) :=
  (X_completeF ob).bind fun r1 =>
  if r1 = (0 : Int32) then
    some ((-5 : Int32), ob)
  else
    if (gI ob 4) = (0 : Int32) then
      some ((-6 : Int32), ob)
    else
      (X_ensureTableF NF ob).bind fun q5 =>
      (X_loadWorkDifference NF q5).bind fun q7 =>
      (X_firstSetInWork NF q7).bind fun r9 =>
      if r9 < (0 : Int32) then
        (X_setResult q7 (5 : Int32) (-1 : Int32)).bind fun q12 =>
        some ((5 : Int32), q12)
      else
        (X_setResult q7 (6 : Int32) r9).bind fun q14 =>
        some ((6 : Int32), q14)
set_option maxRecDepth 65536 in
set_option maxHeartbeats 4000000 in
theorem X_equivalent_p {C : Ctx} {top : Nat} {a : Nat} {H : List (Nat × Nat × Rec)} {res : Int32 × Rec} {NF : Nat} (ob : Rec) (hf : X_equivalent NF ob = some res) : Runs C B30 0 0 0 [vr a, vn] [] (top, (a, 6, ob) :: H) (Ans (some (.int res.1)) (top, (a, 6, res.2) :: H)) := by
  delta X_equivalent at hf
  refine Runs.aloadN d30_0 rfl <| ?_
  refine bind_el hf fun r1 hg2 hf => ?_
  refine Runs.callP (N := B8) (W := 0) (as := []) (S' := []) d30_1 w64 w65 w66 rfl cw8 ar8 rk30_8_0 (by decide) rfl rfl (X_completeF_pay hg2) <| ans1 <| ?_
  refine ite_el hf (fun hc3 hf => ?_) (fun hc3 hf => ?_)
  · refine Runs.ifN d30_4 (teq hc3).2 <| ?_
    obtain rfl := Option.some.inj hf
    exact Runs.bipush d30_7 cb_m5 <| Runs.retI d30_9 rfl ⟨by decide, by decide⟩ ⟨rfl, rfl⟩
  · refine Runs.ifY (pc' := 10) d30_4 (feq hc3).2 (by decide) <| ?_
    refine Runs.aloadN d30_10 rfl <| Runs.getI d30_11 w38 fS_4 <| ?_
    refine ite_el hf (fun hc4 hf => ?_) (fun hc4 hf => ?_)
    · refine Runs.ifN d30_14 (teq hc4).2 <| ?_
      obtain rfl := Option.some.inj hf
      exact Runs.bipush d30_17 cb_m6 <| Runs.retI d30_19 rfl ⟨by decide, by decide⟩ ⟨rfl, rfl⟩
    · refine Runs.ifY (pc' := 20) d30_14 (feq hc4).2 (by decide) <| ?_
      refine Runs.aloadN d30_20 rfl <| ?_
      refine bind_el hf fun q5 hg6 hf => ?_
      refine Runs.callP (N := B9) (W := 0) (as := []) (S' := []) d30_21 w68 w69 w70 rfl cw9 ar9 rk30_9_0 (by decide) rfl rfl (X_ensureTableF_pay hg6) <| ans0 <| Runs.aloadN d30_24 rfl <| ?_
      refine bind_el hf fun q7 hg8 hf => ?_
      refine Runs.callP (N := B31) (W := 0) (as := []) (S' := []) d30_25 w166 w167 w168 rfl cw31 ar31 rk30_31_0 (by decide) rfl rfl (X_loadWorkDifference_pay hg8) <| ans0 <| Runs.aloadN d30_28 rfl <| ?_
      refine bind_el hf fun r9 hg10 hf => ?_
      refine Runs.callP (N := B18) (W := 0) (as := []) (S' := []) d30_29 w107 w108 w109 rfl cw18 ar18 rk30_18_0 (by decide) rfl rfl (X_firstSetInWork_pay hg10) <| ans1 <| Runs.istoreN (P' := [vr a, vi r9]) d30_32 (by decide) rfl <| Runs.iloadN d30_33 rfl <| ?_
      refine ite_el hf (fun hc11 hf => ?_) (fun hc11 hf => ?_)
      · refine Runs.ifN d30_34 (tlt hc11).2.1 <| ?_
        refine Runs.aloadN d30_37 rfl <| Runs.iconst d30_38 ci_5 <| Runs.iconst d30_39 ci_m1 <| ?_
        refine bind_el hf fun q12 hg13 hf => ?_
        obtain rfl := Option.some.inj hf
        exact Runs.callP (N := B20) (W := 0) (as := [.int (5 : Int32), .int (-1 : Int32)]) (S' := []) d30_40 w115 w116 w117 rfl cw20 ar20 rk30_20_0 (by decide) rfl rfl (X_setResult_pay hg13) <| ans0 <| Runs.iconst d30_43 ci_5 <| Runs.retI d30_44 rfl ⟨by decide, by decide⟩ ⟨rfl, rfl⟩
      · refine Runs.ifY (pc' := 45) d30_34 (flt hc11).2.1 (by decide) <| ?_
        refine Runs.aloadN d30_45 rfl <| Runs.bipush d30_46 cb_6 <| Runs.iloadN d30_48 rfl <| ?_
        refine bind_el hf fun q14 hg15 hf => ?_
        obtain rfl := Option.some.inj hf
        exact Runs.callP (N := B20) (W := 0) (as := [.int (6 : Int32), .int r9]) (S' := []) d30_49 w115 w116 w117 rfl cw20 ar20 rk30_20_0 (by decide) rfl rfl (X_setResult_pay hg15) <| ans0 <| Runs.bipush d30_52 cb_6 <| Runs.retI d30_54 rfl ⟨by decide, by decide⟩ ⟨rfl, rfl⟩
theorem X_equivalent_pay {C : Ctx} {top : Nat} {a : Nat} {H : List (Nat × Nat × Rec)} {res : Int32 × Rec} {NF : Nat} {ob : Rec} (hf : X_equivalent NF ob = some res) : Pays C B30 [.ref a] (top, (a, 6, ob) :: H) (Ans (some (.int res.1)) (top, (a, 6, res.2) :: H)) :=
  Pays.of pnK (Nat.le_of_ble_eq_true rfl) (P := [vr a, vn]) 1 rfl (X_equivalent_p ob hf)
def L_law_b147 (NF : Nat) (k42 : Int32 → Int32 → Int32 → Int32 → Int32 → Int32 → Int32 → Int32 → Option (Int32)) (i4 : Int32) (i5 : Int32) (i6 : Int32) (i7 : Int32) (i8 : Int32) (i9 : Int32) (i10 : Int32) (i11 : Int32) (i14 : Int32) (i15 : Int32) (i16 : Int32) : Option (Int32) :=
  if i15 = i16 then
    k42 i4 i5 i6 i7 i8 i9 i10 (i11 + (1 : Int32))
  else
    if i14 < i10 then
      k42 i4 i5 i6 i7 i8 i9 i14 (i11 + (1 : Int32))
    else
      k42 i4 i5 i6 i7 i8 i9 i10 (i11 + (1 : Int32))
set_option maxRecDepth 65536 in
set_option maxHeartbeats 4000000 in
theorem L_law_b147_p {C : Ctx} {res : Int32} {NF : Nat} (k42 : Int32 → Int32 → Int32 → Int32 → Int32 → Int32 → Int32 → Int32 → Option (Int32)) (hk42 : ∀ (i4 : Int32) (i5 : Int32) (i6 : Int32) (i7 : Int32) (i8 : Int32) (i9 : Int32) (i10 : Int32) (i11 : Int32), k42 i4 i5 i6 i7 i8 i9 i10 i11 = some res → Runs C B0 0 0 42 [vn, vn, vn, vn, vi i4, vi i5, vi i6, vi i7, vi i8, vi i9, vi i10, vi i11, vn, vn, vn, vn, vn, vn, vn, vn, vn, vn, vn, vn, vn, vn, vn, vn, vn, vn, vn, vn, vn, vn, vn, vn] [] (C.2.2.1, []) (fun v _ => v = (some (.int res)))) (i4 : Int32) (i5 : Int32) (i6 : Int32) (i7 : Int32) (i8 : Int32) (i9 : Int32) (i10 : Int32) (i11 : Int32) (i14 : Int32) (i15 : Int32) (i16 : Int32) (hf : L_law_b147 NF k42 i4 i5 i6 i7 i8 i9 i10 i11 i14 i15 i16 = some res) : Runs C B0 0 0 147 [vn, vn, vn, vn, vi i4, vi i5, vi i6, vi i7, vi i8, vi i9, vi i10, vi i11, vn, vn, vi i14, vi i15, vi i16, vn, vn, vn, vn, vn, vn, vn, vn, vn, vn, vn, vn, vn, vn, vn, vn, vn, vn, vn] [] (C.2.2.1, []) (fun v _ => v = (some (.int res))) := by
  delta L_law_b147 at hf
  refine Runs.iload d0_147 rfl <| Runs.iload d0_149 rfl <| ?_
  refine ite_el hf (fun hc61 hf => ?_) (fun hc61 hf => ?_)
  · refine Runs.icY (pc' := 165) d0_151 (teq hc61).1 (by decide) <| ?_
    exact Runs.iinc (P' := [vn, vn, vn, vn, vi i4, vi i5, vi i6, vi i7, vi i8, vi i9, vi i10, vi (i11 + (1 : Int32)), vn, vn, vi i14, vi i15, vi i16, vn, vn, vn, vn, vn, vn, vn, vn, vn, vn, vn, vn, vn, vn, vn, vn, vn, vn, vn]) d0_165 ci_1 rfl (by decide) rfl <| Runs.goto (pc' := 42) d0_168 (by decide) <| Runs.forget [false, false, false, false, true, true, true, true, true, true, true, true, false, false, false, false, false, false, false, false, false, false, false, false, false, false, false, false, false, false, false, false, false, false, false, false] rfl <| hk42 i4 i5 i6 i7 i8 i9 i10 (i11 + (1 : Int32)) hf
  · refine Runs.icN d0_151 (feq hc61).1 <| ?_
    refine Runs.iload d0_154 rfl <| Runs.iload d0_156 rfl <| ?_
    refine ite_el hf (fun hc62 hf => ?_) (fun hc62 hf => ?_)
    · refine Runs.icN d0_158 (tlt hc62).2.1 <| ?_
      exact Runs.iload d0_161 rfl <| Runs.istore (P' := [vn, vn, vn, vn, vi i4, vi i5, vi i6, vi i7, vi i8, vi i9, vi i14, vi i11, vn, vn, vi i14, vi i15, vi i16, vn, vn, vn, vn, vn, vn, vn, vn, vn, vn, vn, vn, vn, vn, vn, vn, vn, vn, vn]) d0_163 (by decide) rfl <| Runs.iinc (P' := [vn, vn, vn, vn, vi i4, vi i5, vi i6, vi i7, vi i8, vi i9, vi i14, vi (i11 + (1 : Int32)), vn, vn, vi i14, vi i15, vi i16, vn, vn, vn, vn, vn, vn, vn, vn, vn, vn, vn, vn, vn, vn, vn, vn, vn, vn, vn]) d0_165 ci_1 rfl (by decide) rfl <| Runs.goto (pc' := 42) d0_168 (by decide) <| Runs.forget [false, false, false, false, true, true, true, true, true, true, true, true, false, false, false, false, false, false, false, false, false, false, false, false, false, false, false, false, false, false, false, false, false, false, false, false] rfl <| hk42 i4 i5 i6 i7 i8 i9 i14 (i11 + (1 : Int32)) hf
    · refine Runs.icY (pc' := 165) d0_158 (flt hc62).2.1 (by decide) <| ?_
      exact Runs.iinc (P' := [vn, vn, vn, vn, vi i4, vi i5, vi i6, vi i7, vi i8, vi i9, vi i10, vi (i11 + (1 : Int32)), vn, vn, vi i14, vi i15, vi i16, vn, vn, vn, vn, vn, vn, vn, vn, vn, vn, vn, vn, vn, vn, vn, vn, vn, vn, vn]) d0_165 ci_1 rfl (by decide) rfl <| Runs.goto (pc' := 42) d0_168 (by decide) <| Runs.forget [false, false, false, false, true, true, true, true, true, true, true, true, false, false, false, false, false, false, false, false, false, false, false, false, false, false, false, false, false, false, false, false, false, false, false, false] rfl <| hk42 i4 i5 i6 i7 i8 i9 i10 (i11 + (1 : Int32)) hf
def L_law_b130 (NF : Nat) (k42 : Int32 → Int32 → Int32 → Int32 → Int32 → Int32 → Int32 → Int32 → Option (Int32)) (i4 : Int32) (i5 : Int32) (i6 : Int32) (i7 : Int32) (i8 : Int32) (i9 : Int32) (i10 : Int32) (i11 : Int32) (i14 : Int32) (i15 : Int32) (i16 : Int32) : Option (Int32) :=
  if i15 = (1 : Int32) then
    if i14 < i9 then
      L_law_b147 NF k42 i4 i5 i6 i7 i8 i14 i10 i11 i14 i15 i16
    else
      L_law_b147 NF k42 i4 i5 i6 i7 i8 i9 i10 i11 i14 i15 i16
  else
    L_law_b147 NF k42 i4 i5 i6 i7 i8 i9 i10 i11 i14 i15 i16
set_option maxRecDepth 65536 in
set_option maxHeartbeats 4000000 in
theorem L_law_b130_p {C : Ctx} {res : Int32} {NF : Nat} (k42 : Int32 → Int32 → Int32 → Int32 → Int32 → Int32 → Int32 → Int32 → Option (Int32)) (hk42 : ∀ (i4 : Int32) (i5 : Int32) (i6 : Int32) (i7 : Int32) (i8 : Int32) (i9 : Int32) (i10 : Int32) (i11 : Int32), k42 i4 i5 i6 i7 i8 i9 i10 i11 = some res → Runs C B0 0 0 42 [vn, vn, vn, vn, vi i4, vi i5, vi i6, vi i7, vi i8, vi i9, vi i10, vi i11, vn, vn, vn, vn, vn, vn, vn, vn, vn, vn, vn, vn, vn, vn, vn, vn, vn, vn, vn, vn, vn, vn, vn, vn] [] (C.2.2.1, []) (fun v _ => v = (some (.int res)))) (i4 : Int32) (i5 : Int32) (i6 : Int32) (i7 : Int32) (i8 : Int32) (i9 : Int32) (i10 : Int32) (i11 : Int32) (i14 : Int32) (i15 : Int32) (i16 : Int32) (hf : L_law_b130 NF k42 i4 i5 i6 i7 i8 i9 i10 i11 i14 i15 i16 = some res) : Runs C B0 0 0 130 [vn, vn, vn, vn, vi i4, vi i5, vi i6, vi i7, vi i8, vi i9, vi i10, vi i11, vn, vn, vi i14, vi i15, vi i16, vn, vn, vn, vn, vn, vn, vn, vn, vn, vn, vn, vn, vn, vn, vn, vn, vn, vn, vn] [] (C.2.2.1, []) (fun v _ => v = (some (.int res))) := by
  delta L_law_b130 at hf
  refine Runs.iload d0_130 rfl <| Runs.iconst d0_132 ci_1 <| ?_
  refine ite_el hf (fun hc59 hf => ?_) (fun hc59 hf => ?_)
  · refine Runs.icN d0_133 (teq hc59).2 <| ?_
    refine Runs.iload d0_136 rfl <| Runs.iload d0_138 rfl <| ?_
    refine ite_el hf (fun hc60 hf => ?_) (fun hc60 hf => ?_)
    · refine Runs.icN d0_140 (tlt hc60).2.1 <| ?_
      exact Runs.iload d0_143 rfl <| Runs.istore (P' := [vn, vn, vn, vn, vi i4, vi i5, vi i6, vi i7, vi i8, vi i14, vi i10, vi i11, vn, vn, vi i14, vi i15, vi i16, vn, vn, vn, vn, vn, vn, vn, vn, vn, vn, vn, vn, vn, vn, vn, vn, vn, vn, vn]) d0_145 (by decide) rfl <| L_law_b147_p k42 hk42 i4 i5 i6 i7 i8 i14 i10 i11 i14 i15 i16 hf
    · exact Runs.icY (pc' := 147) d0_140 (flt hc60).2.1 (by decide) <| L_law_b147_p k42 hk42 i4 i5 i6 i7 i8 i9 i10 i11 i14 i15 i16 hf
  · exact Runs.icY (pc' := 147) d0_133 (feq hc59).2 (by decide) <| L_law_b147_p k42 hk42 i4 i5 i6 i7 i8 i9 i10 i11 i14 i15 i16 hf
def L_law_b79 (NF : Nat) (k42 : Int32 → Int32 → Int32 → Int32 → Int32 → Int32 → Int32 → Int32 → Option (Int32)) (i4 : Int32) (i5 : Int32) (i6 : Int32) (i7 : Int32) (i8 : Int32) (i9 : Int32) (i10 : Int32) (i11 : Int32) (i12 : Int32) (i13 : Int32) : Option (Int32) :=
  (L_f i6 i12 i13).bind fun r53 =>
  (L_f i7 i13 i12).bind fun r55 =>
  if r53 = (0 : Int32) then
    if ((i12 <<< (i4 &&& 31)) ||| (i13 <<< (i5 &&& 31))) < i8 then
      L_law_b130 NF k42 i4 i5 i6 i7 ((i12 <<< (i4 &&& 31)) ||| (i13 <<< (i5 &&& 31))) i9 i10 i11 ((i12 <<< (i4 &&& 31)) ||| (i13 <<< (i5 &&& 31))) r53 r55
    else
      L_law_b130 NF k42 i4 i5 i6 i7 i8 i9 i10 i11 ((i12 <<< (i4 &&& 31)) ||| (i13 <<< (i5 &&& 31))) r53 r55
  else
    L_law_b130 NF k42 i4 i5 i6 i7 i8 i9 i10 i11 ((i12 <<< (i4 &&& 31)) ||| (i13 <<< (i5 &&& 31))) r53 r55
set_option maxRecDepth 65536 in
set_option maxHeartbeats 4000000 in
theorem L_law_b79_p {C : Ctx} {res : Int32} {NF : Nat} (k42 : Int32 → Int32 → Int32 → Int32 → Int32 → Int32 → Int32 → Int32 → Option (Int32)) (hk42 : ∀ (i4 : Int32) (i5 : Int32) (i6 : Int32) (i7 : Int32) (i8 : Int32) (i9 : Int32) (i10 : Int32) (i11 : Int32), k42 i4 i5 i6 i7 i8 i9 i10 i11 = some res → Runs C B0 0 0 42 [vn, vn, vn, vn, vi i4, vi i5, vi i6, vi i7, vi i8, vi i9, vi i10, vi i11, vn, vn, vn, vn, vn, vn, vn, vn, vn, vn, vn, vn, vn, vn, vn, vn, vn, vn, vn, vn, vn, vn, vn, vn] [] (C.2.2.1, []) (fun v _ => v = (some (.int res)))) (i4 : Int32) (i5 : Int32) (i6 : Int32) (i7 : Int32) (i8 : Int32) (i9 : Int32) (i10 : Int32) (i11 : Int32) (i12 : Int32) (i13 : Int32) (hf : L_law_b79 NF k42 i4 i5 i6 i7 i8 i9 i10 i11 i12 i13 = some res) : Runs C B0 0 0 79 [vn, vn, vn, vn, vi i4, vi i5, vi i6, vi i7, vi i8, vi i9, vi i10, vi i11, vi i12, vi i13, vn, vn, vn, vn, vn, vn, vn, vn, vn, vn, vn, vn, vn, vn, vn, vn, vn, vn, vn, vn, vn, vn] [] (C.2.2.1, []) (fun v _ => v = (some (.int res))) := by
  delta L_law_b79 at hf
  refine Runs.iload d0_79 rfl <| Runs.iload d0_81 rfl <| Runs.ishl d0_83 <| Runs.iload d0_84 rfl <| Runs.iload d0_86 rfl <| Runs.ishl d0_88 <| Runs.ior d0_89 <| Runs.istore (P' := [vn, vn, vn, vn, vi i4, vi i5, vi i6, vi i7, vi i8, vi i9, vi i10, vi i11, vi i12, vi i13, vi ((i12 <<< (i4 &&& 31)) ||| (i13 <<< (i5 &&& 31))), vn, vn, vn, vn, vn, vn, vn, vn, vn, vn, vn, vn, vn, vn, vn, vn, vn, vn, vn, vn, vn]) d0_90 (by decide) rfl <| Runs.iload d0_92 rfl <| Runs.iload d0_94 rfl <| Runs.iload d0_96 rfl <| ?_
  refine bind_el hf fun r53 hg54 hf => ?_
  refine Runs.callS (N := B2) (W := 0) (as := [.int i6, .int i12, .int i13]) (S' := []) d0_98 w4 w5 cw2 ar2 rk0_2_0 (by decide) rfl rfl (L_f_pay hg54) <| ans1 <| Runs.istore (P' := [vn, vn, vn, vn, vi i4, vi i5, vi i6, vi i7, vi i8, vi i9, vi i10, vi i11, vi i12, vi i13, vi ((i12 <<< (i4 &&& 31)) ||| (i13 <<< (i5 &&& 31))), vi r53, vn, vn, vn, vn, vn, vn, vn, vn, vn, vn, vn, vn, vn, vn, vn, vn, vn, vn, vn, vn]) d0_101 (by decide) rfl <| Runs.iload d0_103 rfl <| Runs.iload d0_105 rfl <| Runs.iload d0_107 rfl <| ?_
  refine bind_el hf fun r55 hg56 hf => ?_
  refine Runs.callS (N := B2) (W := 0) (as := [.int i7, .int i13, .int i12]) (S' := []) d0_109 w4 w5 cw2 ar2 rk0_2_0 (by decide) rfl rfl (L_f_pay hg56) <| ans1 <| Runs.istore (P' := [vn, vn, vn, vn, vi i4, vi i5, vi i6, vi i7, vi i8, vi i9, vi i10, vi i11, vi i12, vi i13, vi ((i12 <<< (i4 &&& 31)) ||| (i13 <<< (i5 &&& 31))), vi r53, vi r55, vn, vn, vn, vn, vn, vn, vn, vn, vn, vn, vn, vn, vn, vn, vn, vn, vn, vn, vn]) d0_112 (by decide) rfl <| Runs.iload d0_114 rfl <| ?_
  refine ite_el hf (fun hc57 hf => ?_) (fun hc57 hf => ?_)
  · refine Runs.ifN d0_116 (teq hc57).2 <| ?_
    refine Runs.iload d0_119 rfl <| Runs.iload d0_121 rfl <| ?_
    refine ite_el hf (fun hc58 hf => ?_) (fun hc58 hf => ?_)
    · refine Runs.icN d0_123 (tlt hc58).2.1 <| ?_
      exact Runs.iload d0_126 rfl <| Runs.istore (P' := [vn, vn, vn, vn, vi i4, vi i5, vi i6, vi i7, vi ((i12 <<< (i4 &&& 31)) ||| (i13 <<< (i5 &&& 31))), vi i9, vi i10, vi i11, vi i12, vi i13, vi ((i12 <<< (i4 &&& 31)) ||| (i13 <<< (i5 &&& 31))), vi r53, vi r55, vn, vn, vn, vn, vn, vn, vn, vn, vn, vn, vn, vn, vn, vn, vn, vn, vn, vn, vn]) d0_128 (by decide) rfl <| Runs.forget [false, false, false, false, true, true, true, true, true, true, true, true, false, false, true, true, true, false, false, false, false, false, false, false, false, false, false, false, false, false, false, false, false, false, false, false] rfl <| L_law_b130_p k42 hk42 i4 i5 i6 i7 ((i12 <<< (i4 &&& 31)) ||| (i13 <<< (i5 &&& 31))) i9 i10 i11 ((i12 <<< (i4 &&& 31)) ||| (i13 <<< (i5 &&& 31))) r53 r55 hf
    · exact Runs.icY (pc' := 130) d0_123 (flt hc58).2.1 (by decide) <| Runs.forget [false, false, false, false, true, true, true, true, true, true, true, true, false, false, true, true, true, false, false, false, false, false, false, false, false, false, false, false, false, false, false, false, false, false, false, false] rfl <| L_law_b130_p k42 hk42 i4 i5 i6 i7 i8 i9 i10 i11 ((i12 <<< (i4 &&& 31)) ||| (i13 <<< (i5 &&& 31))) r53 r55 hf
  · exact Runs.ifY (pc' := 130) d0_116 (feq hc57).2 (by decide) <| Runs.forget [false, false, false, false, true, true, true, true, true, true, true, true, false, false, true, true, true, false, false, false, false, false, false, false, false, false, false, false, false, false, false, false, false, false, false, false] rfl <| L_law_b130_p k42 hk42 i4 i5 i6 i7 i8 i9 i10 i11 ((i12 <<< (i4 &&& 31)) ||| (i13 <<< (i5 &&& 31))) r53 r55 hf
def L_law_b447 (NF : Nat) (ob : Rec) (i15 : Int32) (i16 : Int32) (i17 : Int32) (i18 : Int32) (i19 : Int32) (i20 : Int32) (i21 : Int32) (i22 : Int32) (i26 : Int32) (i27 : Int32) (i28 : Int32) (i29 : Int32) (i30 : Int32) (i31 : Int32) (i32 : Int32) (i33 : Int32) (i34 : Int32) (t0 : Int32) : Option (Int32) :=
  if t0 = (0 : Int32) then
    some (0 : Int32)
  else
    if i15 = i29 then
      if i16 = i29 then
        if i17 = i30 then
          if i18 = i31 then
            if i19 = i31 then
              if i20 = i32 then
                if i21 = (0 : Int32) then
                  if i22 = (3 : Int32) then
                    if i26 = i33 then
                      if i27 = i33 then
                        if i28 = i34 then
                          some (1 : Int32)
                        else
                          some (0 : Int32)
                      else
                        some (0 : Int32)
                    else
                      some (0 : Int32)
                  else
                    some (0 : Int32)
                else
                  some (0 : Int32)
              else
                some (0 : Int32)
            else
              some (0 : Int32)
          else
            some (0 : Int32)
        else
          some (0 : Int32)
      else
        some (0 : Int32)
    else
      some (0 : Int32)
set_option maxRecDepth 65536 in
set_option maxHeartbeats 4000000 in
theorem L_law_b447_p {C : Ctx} {res : Int32} {NF : Nat} (ob : Rec) (i15 : Int32) (i16 : Int32) (i17 : Int32) (i18 : Int32) (i19 : Int32) (i20 : Int32) (i21 : Int32) (i22 : Int32) (i26 : Int32) (i27 : Int32) (i28 : Int32) (i29 : Int32) (i30 : Int32) (i31 : Int32) (i32 : Int32) (i33 : Int32) (i34 : Int32) (t0 : Int32) (hf : L_law_b447 NF ob i15 i16 i17 i18 i19 i20 i21 i22 i26 i27 i28 i29 i30 i31 i32 i33 i34 t0 = some res) : Runs C B0 7 218 447 [vn, vn, vn, vn, vn, vn, vn, vn, vn, vn, vn, vn, vn, vn, vn, vi i15, vi i16, vi i17, vi i18, vi i19, vi i20, vi i21, vi i22, vn, vn, vn, vi i26, vi i27, vi i28, vi i29, vi i30, vi i31, vi i32, vi i33, vi i34, vn] [.int t0] (C.2.2.1 + 1 + 6, (C.2.2.1, 6, ob) :: []) (fun v _ => v = (some (.int res))) := by
  delta L_law_b447 at hf
  refine Runs.istore (P' := [vn, vn, vn, vn, vn, vn, vn, vn, vn, vn, vn, vn, vn, vn, vn, vi i15, vi i16, vi i17, vi i18, vi i19, vi i20, vi i21, vi i22, vn, vn, vn, vi i26, vi i27, vi i28, vi i29, vi i30, vi i31, vi i32, vi i33, vi i34, vi t0]) d0_447 (by decide) rfl <| Runs.iload d0_449 rfl <| ?_
  refine ite_el hf (fun hc74 hf => ?_) (fun hc74 hf => ?_)
  · refine Runs.ifY (pc' := 532) d0_451 (teq hc74).1 (by decide) <| ?_
    obtain rfl := Option.some.inj hf
    exact Runs.iconst d0_532 ci_0 <| Runs.retZ (y := (0 : Int32)) d0_533 rfl ⟨by decide, by decide⟩ rfl rfl
  · refine Runs.ifN d0_451 (feq hc74).1 <| ?_
    refine Runs.iload d0_454 rfl <| Runs.iload d0_456 rfl <| ?_
    refine ite_el hf (fun hc75 hf => ?_) (fun hc75 hf => ?_)
    · refine Runs.icN d0_458 (teq hc75).2 <| ?_
      refine Runs.iload d0_461 rfl <| Runs.iload d0_463 rfl <| ?_
      refine ite_el hf (fun hc76 hf => ?_) (fun hc76 hf => ?_)
      · refine Runs.icN d0_465 (teq hc76).2 <| ?_
        refine Runs.iload d0_468 rfl <| Runs.iload d0_470 rfl <| ?_
        refine ite_el hf (fun hc77 hf => ?_) (fun hc77 hf => ?_)
        · refine Runs.icN d0_472 (teq hc77).2 <| ?_
          refine Runs.iload d0_475 rfl <| Runs.iload d0_477 rfl <| ?_
          refine ite_el hf (fun hc78 hf => ?_) (fun hc78 hf => ?_)
          · refine Runs.icN d0_479 (teq hc78).2 <| ?_
            refine Runs.iload d0_482 rfl <| Runs.iload d0_484 rfl <| ?_
            refine ite_el hf (fun hc79 hf => ?_) (fun hc79 hf => ?_)
            · refine Runs.icN d0_486 (teq hc79).2 <| ?_
              refine Runs.iload d0_489 rfl <| Runs.iload d0_491 rfl <| ?_
              refine ite_el hf (fun hc80 hf => ?_) (fun hc80 hf => ?_)
              · refine Runs.icN d0_493 (teq hc80).2 <| ?_
                refine Runs.iload d0_496 rfl <| ?_
                refine ite_el hf (fun hc81 hf => ?_) (fun hc81 hf => ?_)
                · refine Runs.ifN d0_498 (teq hc81).2 <| ?_
                  refine Runs.iload d0_501 rfl <| Runs.iconst d0_503 ci_3 <| ?_
                  refine ite_el hf (fun hc82 hf => ?_) (fun hc82 hf => ?_)
                  · refine Runs.icN d0_504 (teq hc82).2 <| ?_
                    refine Runs.iload d0_507 rfl <| Runs.iload d0_509 rfl <| ?_
                    refine ite_el hf (fun hc83 hf => ?_) (fun hc83 hf => ?_)
                    · refine Runs.icN d0_511 (teq hc83).2 <| ?_
                      refine Runs.iload d0_514 rfl <| Runs.iload d0_516 rfl <| ?_
                      refine ite_el hf (fun hc84 hf => ?_) (fun hc84 hf => ?_)
                      · refine Runs.icN d0_518 (teq hc84).2 <| ?_
                        refine Runs.iload d0_521 rfl <| Runs.iload d0_523 rfl <| ?_
                        refine ite_el hf (fun hc85 hf => ?_) (fun hc85 hf => ?_)
                        · refine Runs.icN d0_525 (teq hc85).2 <| ?_
                          obtain rfl := Option.some.inj hf
                          exact Runs.iconst d0_528 ci_1 <| Runs.goto (pc' := 533) d0_529 (by decide) <| Runs.retZ (y := (1 : Int32)) d0_533 rfl ⟨by decide, by decide⟩ rfl rfl
                        · refine Runs.icY (pc' := 532) d0_525 (feq hc85).2 (by decide) <| ?_
                          obtain rfl := Option.some.inj hf
                          exact Runs.iconst d0_532 ci_0 <| Runs.retZ (y := (0 : Int32)) d0_533 rfl ⟨by decide, by decide⟩ rfl rfl
                      · refine Runs.icY (pc' := 532) d0_518 (feq hc84).2 (by decide) <| ?_
                        obtain rfl := Option.some.inj hf
                        exact Runs.iconst d0_532 ci_0 <| Runs.retZ (y := (0 : Int32)) d0_533 rfl ⟨by decide, by decide⟩ rfl rfl
                    · refine Runs.icY (pc' := 532) d0_511 (feq hc83).2 (by decide) <| ?_
                      obtain rfl := Option.some.inj hf
                      exact Runs.iconst d0_532 ci_0 <| Runs.retZ (y := (0 : Int32)) d0_533 rfl ⟨by decide, by decide⟩ rfl rfl
                  · refine Runs.icY (pc' := 532) d0_504 (feq hc82).2 (by decide) <| ?_
                    obtain rfl := Option.some.inj hf
                    exact Runs.iconst d0_532 ci_0 <| Runs.retZ (y := (0 : Int32)) d0_533 rfl ⟨by decide, by decide⟩ rfl rfl
                · refine Runs.ifY (pc' := 532) d0_498 (feq hc81).2 (by decide) <| ?_
                  obtain rfl := Option.some.inj hf
                  exact Runs.iconst d0_532 ci_0 <| Runs.retZ (y := (0 : Int32)) d0_533 rfl ⟨by decide, by decide⟩ rfl rfl
              · refine Runs.icY (pc' := 532) d0_493 (feq hc80).2 (by decide) <| ?_
                obtain rfl := Option.some.inj hf
                exact Runs.iconst d0_532 ci_0 <| Runs.retZ (y := (0 : Int32)) d0_533 rfl ⟨by decide, by decide⟩ rfl rfl
            · refine Runs.icY (pc' := 532) d0_486 (feq hc79).2 (by decide) <| ?_
              obtain rfl := Option.some.inj hf
              exact Runs.iconst d0_532 ci_0 <| Runs.retZ (y := (0 : Int32)) d0_533 rfl ⟨by decide, by decide⟩ rfl rfl
          · refine Runs.icY (pc' := 532) d0_479 (feq hc78).2 (by decide) <| ?_
            obtain rfl := Option.some.inj hf
            exact Runs.iconst d0_532 ci_0 <| Runs.retZ (y := (0 : Int32)) d0_533 rfl ⟨by decide, by decide⟩ rfl rfl
        · refine Runs.icY (pc' := 532) d0_472 (feq hc77).2 (by decide) <| ?_
          obtain rfl := Option.some.inj hf
          exact Runs.iconst d0_532 ci_0 <| Runs.retZ (y := (0 : Int32)) d0_533 rfl ⟨by decide, by decide⟩ rfl rfl
      · refine Runs.icY (pc' := 532) d0_465 (feq hc76).2 (by decide) <| ?_
        obtain rfl := Option.some.inj hf
        exact Runs.iconst d0_532 ci_0 <| Runs.retZ (y := (0 : Int32)) d0_533 rfl ⟨by decide, by decide⟩ rfl rfl
    · refine Runs.icY (pc' := 532) d0_458 (feq hc75).2 (by decide) <| ?_
      obtain rfl := Option.some.inj hf
      exact Runs.iconst d0_532 ci_0 <| Runs.retZ (y := (0 : Int32)) d0_533 rfl ⟨by decide, by decide⟩ rfl rfl
def L_law_b410 (NF : Nat) (ob : Rec) (i12 : Int32) (i13 : Int32) (i14 : Int32) (i15 : Int32) (i16 : Int32) (i17 : Int32) (i18 : Int32) (i19 : Int32) (i20 : Int32) (i21 : Int32) (i22 : Int32) (i23 : Int32) (i24 : Int32) (i25 : Int32) (i26 : Int32) (i27 : Int32) (i28 : Int32) (i29 : Int32) (i30 : Int32) (i31 : Int32) (i32 : Int32) (i33 : Int32) (t0 : Int32) : Option (Int32) :=
  if i12 = (0 : Int32) then
    if i13 = (0 : Int32) then
      if i14 = (0 : Int32) then
        if i23 = (0 : Int32) then
          if i24 = (0 : Int32) then
            if i25 = (0 : Int32) then
              L_law_b447 NF ob i15 i16 i17 i18 i19 i20 i21 i22 i26 i27 i28 i29 i30 i31 i32 i33 t0 (1 : Int32)
            else
              L_law_b447 NF ob i15 i16 i17 i18 i19 i20 i21 i22 i26 i27 i28 i29 i30 i31 i32 i33 t0 (0 : Int32)
          else
            L_law_b447 NF ob i15 i16 i17 i18 i19 i20 i21 i22 i26 i27 i28 i29 i30 i31 i32 i33 t0 (0 : Int32)
        else
          L_law_b447 NF ob i15 i16 i17 i18 i19 i20 i21 i22 i26 i27 i28 i29 i30 i31 i32 i33 t0 (0 : Int32)
      else
        L_law_b447 NF ob i15 i16 i17 i18 i19 i20 i21 i22 i26 i27 i28 i29 i30 i31 i32 i33 t0 (0 : Int32)
    else
      L_law_b447 NF ob i15 i16 i17 i18 i19 i20 i21 i22 i26 i27 i28 i29 i30 i31 i32 i33 t0 (0 : Int32)
  else
    L_law_b447 NF ob i15 i16 i17 i18 i19 i20 i21 i22 i26 i27 i28 i29 i30 i31 i32 i33 t0 (0 : Int32)
set_option maxRecDepth 65536 in
set_option maxHeartbeats 4000000 in
theorem L_law_b410_p {C : Ctx} {res : Int32} {NF : Nat} (ob : Rec) (i12 : Int32) (i13 : Int32) (i14 : Int32) (i15 : Int32) (i16 : Int32) (i17 : Int32) (i18 : Int32) (i19 : Int32) (i20 : Int32) (i21 : Int32) (i22 : Int32) (i23 : Int32) (i24 : Int32) (i25 : Int32) (i26 : Int32) (i27 : Int32) (i28 : Int32) (i29 : Int32) (i30 : Int32) (i31 : Int32) (i32 : Int32) (i33 : Int32) (t0 : Int32) (hf : L_law_b410 NF ob i12 i13 i14 i15 i16 i17 i18 i19 i20 i21 i22 i23 i24 i25 i26 i27 i28 i29 i30 i31 i32 i33 t0 = some res) : Runs C B0 7 218 410 [vn, vn, vn, vn, vn, vn, vn, vn, vn, vn, vn, vn, vi i12, vi i13, vi i14, vi i15, vi i16, vi i17, vi i18, vi i19, vi i20, vi i21, vi i22, vi i23, vi i24, vi i25, vi i26, vi i27, vi i28, vi i29, vi i30, vi i31, vi i32, vi i33, vn, vn] [.int t0] (C.2.2.1 + 1 + 6, (C.2.2.1, 6, ob) :: []) (fun v _ => v = (some (.int res))) := by
  delta L_law_b410 at hf
  refine Runs.istore (P' := [vn, vn, vn, vn, vn, vn, vn, vn, vn, vn, vn, vn, vi i12, vi i13, vi i14, vi i15, vi i16, vi i17, vi i18, vi i19, vi i20, vi i21, vi i22, vi i23, vi i24, vi i25, vi i26, vi i27, vi i28, vi i29, vi i30, vi i31, vi i32, vi i33, vi t0, vn]) d0_410 (by decide) rfl <| Runs.iload d0_412 rfl <| ?_
  refine ite_el hf (fun hc68 hf => ?_) (fun hc68 hf => ?_)
  · refine Runs.ifN d0_414 (teq hc68).2 <| ?_
    refine Runs.iload d0_417 rfl <| ?_
    refine ite_el hf (fun hc69 hf => ?_) (fun hc69 hf => ?_)
    · refine Runs.ifN d0_419 (teq hc69).2 <| ?_
      refine Runs.iload d0_422 rfl <| ?_
      refine ite_el hf (fun hc70 hf => ?_) (fun hc70 hf => ?_)
      · refine Runs.ifN d0_424 (teq hc70).2 <| ?_
        refine Runs.iload d0_427 rfl <| ?_
        refine ite_el hf (fun hc71 hf => ?_) (fun hc71 hf => ?_)
        · refine Runs.ifN d0_429 (teq hc71).2 <| ?_
          refine Runs.iload d0_432 rfl <| ?_
          refine ite_el hf (fun hc72 hf => ?_) (fun hc72 hf => ?_)
          · refine Runs.ifN d0_434 (teq hc72).2 <| ?_
            refine Runs.iload d0_437 rfl <| ?_
            refine ite_el hf (fun hc73 hf => ?_) (fun hc73 hf => ?_)
            · refine Runs.ifN d0_439 (teq hc73).2 <| ?_
              exact Runs.iconst d0_442 ci_1 <| Runs.goto (pc' := 447) d0_443 (by decide) <| Runs.forget [false, false, false, false, false, false, false, false, false, false, false, false, false, false, false, true, true, true, true, true, true, true, true, false, false, false, true, true, true, true, true, true, true, true, true, false] rfl <| L_law_b447_p ob i15 i16 i17 i18 i19 i20 i21 i22 i26 i27 i28 i29 i30 i31 i32 i33 t0 (1 : Int32) hf
            · refine Runs.ifY (pc' := 446) d0_439 (feq hc73).2 (by decide) <| ?_
              exact Runs.iconst d0_446 ci_0 <| Runs.forget [false, false, false, false, false, false, false, false, false, false, false, false, false, false, false, true, true, true, true, true, true, true, true, false, false, false, true, true, true, true, true, true, true, true, true, false] rfl <| L_law_b447_p ob i15 i16 i17 i18 i19 i20 i21 i22 i26 i27 i28 i29 i30 i31 i32 i33 t0 (0 : Int32) hf
          · refine Runs.ifY (pc' := 446) d0_434 (feq hc72).2 (by decide) <| ?_
            exact Runs.iconst d0_446 ci_0 <| Runs.forget [false, false, false, false, false, false, false, false, false, false, false, false, false, false, false, true, true, true, true, true, true, true, true, false, false, false, true, true, true, true, true, true, true, true, true, false] rfl <| L_law_b447_p ob i15 i16 i17 i18 i19 i20 i21 i22 i26 i27 i28 i29 i30 i31 i32 i33 t0 (0 : Int32) hf
        · refine Runs.ifY (pc' := 446) d0_429 (feq hc71).2 (by decide) <| ?_
          exact Runs.iconst d0_446 ci_0 <| Runs.forget [false, false, false, false, false, false, false, false, false, false, false, false, false, false, false, true, true, true, true, true, true, true, true, false, false, false, true, true, true, true, true, true, true, true, true, false] rfl <| L_law_b447_p ob i15 i16 i17 i18 i19 i20 i21 i22 i26 i27 i28 i29 i30 i31 i32 i33 t0 (0 : Int32) hf
      · refine Runs.ifY (pc' := 446) d0_424 (feq hc70).2 (by decide) <| ?_
        exact Runs.iconst d0_446 ci_0 <| Runs.forget [false, false, false, false, false, false, false, false, false, false, false, false, false, false, false, true, true, true, true, true, true, true, true, false, false, false, true, true, true, true, true, true, true, true, true, false] rfl <| L_law_b447_p ob i15 i16 i17 i18 i19 i20 i21 i22 i26 i27 i28 i29 i30 i31 i32 i33 t0 (0 : Int32) hf
    · refine Runs.ifY (pc' := 446) d0_419 (feq hc69).2 (by decide) <| ?_
      exact Runs.iconst d0_446 ci_0 <| Runs.forget [false, false, false, false, false, false, false, false, false, false, false, false, false, false, false, true, true, true, true, true, true, true, true, false, false, false, true, true, true, true, true, true, true, true, true, false] rfl <| L_law_b447_p ob i15 i16 i17 i18 i19 i20 i21 i22 i26 i27 i28 i29 i30 i31 i32 i33 t0 (0 : Int32) hf
  · refine Runs.ifY (pc' := 446) d0_414 (feq hc68).2 (by decide) <| ?_
    exact Runs.iconst d0_446 ci_0 <| Runs.forget [false, false, false, false, false, false, false, false, false, false, false, false, false, false, false, true, true, true, true, true, true, true, true, false, false, false, true, true, true, true, true, true, true, true, true, false] rfl <| L_law_b447_p ob i15 i16 i17 i18 i19 i20 i21 i22 i26 i27 i28 i29 i30 i31 i32 i33 t0 (0 : Int32) hf
def L_law_b394 (NF : Nat) (ob : Rec) (i10 : Int32) (i12 : Int32) (i13 : Int32) (i14 : Int32) (i15 : Int32) (i16 : Int32) (i17 : Int32) (i18 : Int32) (i19 : Int32) (i20 : Int32) (i21 : Int32) (i22 : Int32) (i23 : Int32) (i24 : Int32) (i25 : Int32) (i26 : Int32) (i27 : Int32) (i28 : Int32) (i29 : Int32) (i30 : Int32) (i31 : Int32) (i32 : Int32) (t0 : Int32) : Option (Int32) :=
  if i10 = (256 : Int32) then
    L_law_b410 NF ob i12 i13 i14 i15 i16 i17 i18 i19 i20 i21 i22 i23 i24 i25 i26 i27 i28 i29 i30 i31 i32 t0 (-1 : Int32)
  else
    L_law_b410 NF ob i12 i13 i14 i15 i16 i17 i18 i19 i20 i21 i22 i23 i24 i25 i26 i27 i28 i29 i30 i31 i32 t0 i10
set_option maxRecDepth 65536 in
set_option maxHeartbeats 4000000 in
theorem L_law_b394_p {C : Ctx} {res : Int32} {NF : Nat} (ob : Rec) (i10 : Int32) (i12 : Int32) (i13 : Int32) (i14 : Int32) (i15 : Int32) (i16 : Int32) (i17 : Int32) (i18 : Int32) (i19 : Int32) (i20 : Int32) (i21 : Int32) (i22 : Int32) (i23 : Int32) (i24 : Int32) (i25 : Int32) (i26 : Int32) (i27 : Int32) (i28 : Int32) (i29 : Int32) (i30 : Int32) (i31 : Int32) (i32 : Int32) (t0 : Int32) (hf : L_law_b394 NF ob i10 i12 i13 i14 i15 i16 i17 i18 i19 i20 i21 i22 i23 i24 i25 i26 i27 i28 i29 i30 i31 i32 t0 = some res) : Runs C B0 7 218 394 [vn, vn, vn, vn, vn, vn, vn, vn, vn, vn, vi i10, vn, vi i12, vi i13, vi i14, vi i15, vi i16, vi i17, vi i18, vi i19, vi i20, vi i21, vi i22, vi i23, vi i24, vi i25, vi i26, vi i27, vi i28, vi i29, vi i30, vi i31, vi i32, vn, vn, vn] [.int t0] (C.2.2.1 + 1 + 6, (C.2.2.1, 6, ob) :: []) (fun v _ => v = (some (.int res))) := by
  delta L_law_b394 at hf
  refine Runs.istore (P' := [vn, vn, vn, vn, vn, vn, vn, vn, vn, vn, vi i10, vn, vi i12, vi i13, vi i14, vi i15, vi i16, vi i17, vi i18, vi i19, vi i20, vi i21, vi i22, vi i23, vi i24, vi i25, vi i26, vi i27, vi i28, vi i29, vi i30, vi i31, vi i32, vi t0, vn, vn]) d0_394 (by decide) rfl <| Runs.iload d0_396 rfl <| Runs.sipush d0_398 cs_256 <| ?_
  refine ite_el hf (fun hc67 hf => ?_) (fun hc67 hf => ?_)
  · refine Runs.icN d0_401 (teq hc67).2 <| ?_
    exact Runs.iconst d0_404 ci_m1 <| Runs.goto (pc' := 410) d0_405 (by decide) <| Runs.forget [false, false, false, false, false, false, false, false, false, false, false, false, true, true, true, true, true, true, true, true, true, true, true, true, true, true, true, true, true, true, true, true, true, true, false, false] rfl <| L_law_b410_p ob i12 i13 i14 i15 i16 i17 i18 i19 i20 i21 i22 i23 i24 i25 i26 i27 i28 i29 i30 i31 i32 t0 (-1 : Int32) hf
  · refine Runs.icY (pc' := 408) d0_401 (feq hc67).2 (by decide) <| ?_
    exact Runs.iload d0_408 rfl <| Runs.forget [false, false, false, false, false, false, false, false, false, false, false, false, true, true, true, true, true, true, true, true, true, true, true, true, true, true, true, true, true, true, true, true, true, true, false, false] rfl <| L_law_b410_p ob i12 i13 i14 i15 i16 i17 i18 i19 i20 i21 i22 i23 i24 i25 i26 i27 i28 i29 i30 i31 i32 t0 i10 hf
def L_law_b378 (NF : Nat) (ob : Rec) (i10 : Int32) (i12 : Int32) (i13 : Int32) (i14 : Int32) (i15 : Int32) (i16 : Int32) (i17 : Int32) (i18 : Int32) (i19 : Int32) (i20 : Int32) (i21 : Int32) (i22 : Int32) (i23 : Int32) (i24 : Int32) (i25 : Int32) (i26 : Int32) (i27 : Int32) (i28 : Int32) (i29 : Int32) (i30 : Int32) (i31 : Int32) (t0 : Int32) : Option (Int32) :=
  if i10 = (256 : Int32) then
    L_law_b394 NF ob i10 i12 i13 i14 i15 i16 i17 i18 i19 i20 i21 i22 i23 i24 i25 i26 i27 i28 i29 i30 i31 t0 (5 : Int32)
  else
    L_law_b394 NF ob i10 i12 i13 i14 i15 i16 i17 i18 i19 i20 i21 i22 i23 i24 i25 i26 i27 i28 i29 i30 i31 t0 (6 : Int32)
set_option maxRecDepth 65536 in
set_option maxHeartbeats 4000000 in
theorem L_law_b378_p {C : Ctx} {res : Int32} {NF : Nat} (ob : Rec) (i10 : Int32) (i12 : Int32) (i13 : Int32) (i14 : Int32) (i15 : Int32) (i16 : Int32) (i17 : Int32) (i18 : Int32) (i19 : Int32) (i20 : Int32) (i21 : Int32) (i22 : Int32) (i23 : Int32) (i24 : Int32) (i25 : Int32) (i26 : Int32) (i27 : Int32) (i28 : Int32) (i29 : Int32) (i30 : Int32) (i31 : Int32) (t0 : Int32) (hf : L_law_b378 NF ob i10 i12 i13 i14 i15 i16 i17 i18 i19 i20 i21 i22 i23 i24 i25 i26 i27 i28 i29 i30 i31 t0 = some res) : Runs C B0 7 218 378 [vn, vn, vn, vn, vn, vn, vn, vn, vn, vn, vi i10, vn, vi i12, vi i13, vi i14, vi i15, vi i16, vi i17, vi i18, vi i19, vi i20, vi i21, vi i22, vi i23, vi i24, vi i25, vi i26, vi i27, vi i28, vi i29, vi i30, vi i31, vn, vn, vn, vn] [.int t0] (C.2.2.1 + 1 + 6, (C.2.2.1, 6, ob) :: []) (fun v _ => v = (some (.int res))) := by
  delta L_law_b378 at hf
  refine Runs.istore (P' := [vn, vn, vn, vn, vn, vn, vn, vn, vn, vn, vi i10, vn, vi i12, vi i13, vi i14, vi i15, vi i16, vi i17, vi i18, vi i19, vi i20, vi i21, vi i22, vi i23, vi i24, vi i25, vi i26, vi i27, vi i28, vi i29, vi i30, vi i31, vi t0, vn, vn, vn]) d0_378 (by decide) rfl <| Runs.iload d0_380 rfl <| Runs.sipush d0_382 cs_256 <| ?_
  refine ite_el hf (fun hc66 hf => ?_) (fun hc66 hf => ?_)
  · refine Runs.icN d0_385 (teq hc66).2 <| ?_
    exact Runs.iconst d0_388 ci_5 <| Runs.goto (pc' := 394) d0_389 (by decide) <| L_law_b394_p ob i10 i12 i13 i14 i15 i16 i17 i18 i19 i20 i21 i22 i23 i24 i25 i26 i27 i28 i29 i30 i31 t0 (5 : Int32) hf
  · refine Runs.icY (pc' := 392) d0_385 (feq hc66).2 (by decide) <| ?_
    exact Runs.bipush d0_392 cb_6 <| L_law_b394_p ob i10 i12 i13 i14 i15 i16 i17 i18 i19 i20 i21 i22 i23 i24 i25 i26 i27 i28 i29 i30 i31 t0 (6 : Int32) hf
def L_law_b362 (NF : Nat) (ob : Rec) (i9 : Int32) (i10 : Int32) (i12 : Int32) (i13 : Int32) (i14 : Int32) (i15 : Int32) (i16 : Int32) (i17 : Int32) (i18 : Int32) (i19 : Int32) (i20 : Int32) (i21 : Int32) (i22 : Int32) (i23 : Int32) (i24 : Int32) (i25 : Int32) (i26 : Int32) (i27 : Int32) (i28 : Int32) (i29 : Int32) (i30 : Int32) (t0 : Int32) : Option (Int32) :=
  if i9 = (256 : Int32) then
    L_law_b378 NF ob i10 i12 i13 i14 i15 i16 i17 i18 i19 i20 i21 i22 i23 i24 i25 i26 i27 i28 i29 i30 t0 (-1 : Int32)
  else
    L_law_b378 NF ob i10 i12 i13 i14 i15 i16 i17 i18 i19 i20 i21 i22 i23 i24 i25 i26 i27 i28 i29 i30 t0 i9
set_option maxRecDepth 65536 in
set_option maxHeartbeats 4000000 in
theorem L_law_b362_p {C : Ctx} {res : Int32} {NF : Nat} (ob : Rec) (i9 : Int32) (i10 : Int32) (i12 : Int32) (i13 : Int32) (i14 : Int32) (i15 : Int32) (i16 : Int32) (i17 : Int32) (i18 : Int32) (i19 : Int32) (i20 : Int32) (i21 : Int32) (i22 : Int32) (i23 : Int32) (i24 : Int32) (i25 : Int32) (i26 : Int32) (i27 : Int32) (i28 : Int32) (i29 : Int32) (i30 : Int32) (t0 : Int32) (hf : L_law_b362 NF ob i9 i10 i12 i13 i14 i15 i16 i17 i18 i19 i20 i21 i22 i23 i24 i25 i26 i27 i28 i29 i30 t0 = some res) : Runs C B0 7 218 362 [vn, vn, vn, vn, vn, vn, vn, vn, vn, vi i9, vi i10, vn, vi i12, vi i13, vi i14, vi i15, vi i16, vi i17, vi i18, vi i19, vi i20, vi i21, vi i22, vi i23, vi i24, vi i25, vi i26, vi i27, vi i28, vi i29, vi i30, vn, vn, vn, vn, vn] [.int t0] (C.2.2.1 + 1 + 6, (C.2.2.1, 6, ob) :: []) (fun v _ => v = (some (.int res))) := by
  delta L_law_b362 at hf
  refine Runs.istore (P' := [vn, vn, vn, vn, vn, vn, vn, vn, vn, vi i9, vi i10, vn, vi i12, vi i13, vi i14, vi i15, vi i16, vi i17, vi i18, vi i19, vi i20, vi i21, vi i22, vi i23, vi i24, vi i25, vi i26, vi i27, vi i28, vi i29, vi i30, vi t0, vn, vn, vn, vn]) d0_362 (by decide) rfl <| Runs.iload d0_364 rfl <| Runs.sipush d0_366 cs_256 <| ?_
  refine ite_el hf (fun hc65 hf => ?_) (fun hc65 hf => ?_)
  · refine Runs.icN d0_369 (teq hc65).2 <| ?_
    exact Runs.iconst d0_372 ci_m1 <| Runs.goto (pc' := 378) d0_373 (by decide) <| Runs.forget [false, false, false, false, false, false, false, false, false, false, true, false, true, true, true, true, true, true, true, true, true, true, true, true, true, true, true, true, true, true, true, true, false, false, false, false] rfl <| L_law_b378_p ob i10 i12 i13 i14 i15 i16 i17 i18 i19 i20 i21 i22 i23 i24 i25 i26 i27 i28 i29 i30 t0 (-1 : Int32) hf
  · refine Runs.icY (pc' := 376) d0_369 (feq hc65).2 (by decide) <| ?_
    exact Runs.iload d0_376 rfl <| Runs.forget [false, false, false, false, false, false, false, false, false, false, true, false, true, true, true, true, true, true, true, true, true, true, true, true, true, true, true, true, true, true, true, true, false, false, false, false] rfl <| L_law_b378_p ob i10 i12 i13 i14 i15 i16 i17 i18 i19 i20 i21 i22 i23 i24 i25 i26 i27 i28 i29 i30 t0 i9 hf
def L_law_b347 (NF : Nat) (ob : Rec) (i9 : Int32) (i10 : Int32) (i12 : Int32) (i13 : Int32) (i14 : Int32) (i15 : Int32) (i16 : Int32) (i17 : Int32) (i18 : Int32) (i19 : Int32) (i20 : Int32) (i21 : Int32) (i22 : Int32) (i23 : Int32) (i24 : Int32) (i25 : Int32) (i26 : Int32) (i27 : Int32) (i28 : Int32) (i29 : Int32) (t0 : Int32) : Option (Int32) :=
  if i9 = (256 : Int32) then
    L_law_b362 NF ob i9 i10 i12 i13 i14 i15 i16 i17 i18 i19 i20 i21 i22 i23 i24 i25 i26 i27 i28 i29 t0 (4 : Int32)
  else
    L_law_b362 NF ob i9 i10 i12 i13 i14 i15 i16 i17 i18 i19 i20 i21 i22 i23 i24 i25 i26 i27 i28 i29 t0 (3 : Int32)
set_option maxRecDepth 65536 in
set_option maxHeartbeats 4000000 in
theorem L_law_b347_p {C : Ctx} {res : Int32} {NF : Nat} (ob : Rec) (i9 : Int32) (i10 : Int32) (i12 : Int32) (i13 : Int32) (i14 : Int32) (i15 : Int32) (i16 : Int32) (i17 : Int32) (i18 : Int32) (i19 : Int32) (i20 : Int32) (i21 : Int32) (i22 : Int32) (i23 : Int32) (i24 : Int32) (i25 : Int32) (i26 : Int32) (i27 : Int32) (i28 : Int32) (i29 : Int32) (t0 : Int32) (hf : L_law_b347 NF ob i9 i10 i12 i13 i14 i15 i16 i17 i18 i19 i20 i21 i22 i23 i24 i25 i26 i27 i28 i29 t0 = some res) : Runs C B0 7 218 347 [vn, vn, vn, vn, vn, vn, vn, vn, vn, vi i9, vi i10, vn, vi i12, vi i13, vi i14, vi i15, vi i16, vi i17, vi i18, vi i19, vi i20, vi i21, vi i22, vi i23, vi i24, vi i25, vi i26, vi i27, vi i28, vi i29, vn, vn, vn, vn, vn, vn] [.int t0] (C.2.2.1 + 1 + 6, (C.2.2.1, 6, ob) :: []) (fun v _ => v = (some (.int res))) := by
  delta L_law_b347 at hf
  refine Runs.istore (P' := [vn, vn, vn, vn, vn, vn, vn, vn, vn, vi i9, vi i10, vn, vi i12, vi i13, vi i14, vi i15, vi i16, vi i17, vi i18, vi i19, vi i20, vi i21, vi i22, vi i23, vi i24, vi i25, vi i26, vi i27, vi i28, vi i29, vi t0, vn, vn, vn, vn, vn]) d0_347 (by decide) rfl <| Runs.iload d0_349 rfl <| Runs.sipush d0_351 cs_256 <| ?_
  refine ite_el hf (fun hc64 hf => ?_) (fun hc64 hf => ?_)
  · refine Runs.icN d0_354 (teq hc64).2 <| ?_
    exact Runs.iconst d0_357 ci_4 <| Runs.goto (pc' := 362) d0_358 (by decide) <| L_law_b362_p ob i9 i10 i12 i13 i14 i15 i16 i17 i18 i19 i20 i21 i22 i23 i24 i25 i26 i27 i28 i29 t0 (4 : Int32) hf
  · refine Runs.icY (pc' := 361) d0_354 (feq hc64).2 (by decide) <| ?_
    exact Runs.iconst d0_361 ci_3 <| L_law_b362_p ob i9 i10 i12 i13 i14 i15 i16 i17 i18 i19 i20 i21 i22 i23 i24 i25 i26 i27 i28 i29 t0 (3 : Int32) hf
def L_law_b331 (NF : Nat) (ob : Rec) (i8 : Int32) (i9 : Int32) (i10 : Int32) (i12 : Int32) (i13 : Int32) (i14 : Int32) (i15 : Int32) (i16 : Int32) (i17 : Int32) (i18 : Int32) (i19 : Int32) (i20 : Int32) (i21 : Int32) (i22 : Int32) (i23 : Int32) (i24 : Int32) (i25 : Int32) (i26 : Int32) (i27 : Int32) (i28 : Int32) (t0 : Int32) : Option (Int32) :=
  if i8 = (256 : Int32) then
    L_law_b347 NF ob i9 i10 i12 i13 i14 i15 i16 i17 i18 i19 i20 i21 i22 i23 i24 i25 i26 i27 i28 t0 (-1 : Int32)
  else
    L_law_b347 NF ob i9 i10 i12 i13 i14 i15 i16 i17 i18 i19 i20 i21 i22 i23 i24 i25 i26 i27 i28 t0 i8
set_option maxRecDepth 65536 in
set_option maxHeartbeats 4000000 in
theorem L_law_b331_p {C : Ctx} {res : Int32} {NF : Nat} (ob : Rec) (i8 : Int32) (i9 : Int32) (i10 : Int32) (i12 : Int32) (i13 : Int32) (i14 : Int32) (i15 : Int32) (i16 : Int32) (i17 : Int32) (i18 : Int32) (i19 : Int32) (i20 : Int32) (i21 : Int32) (i22 : Int32) (i23 : Int32) (i24 : Int32) (i25 : Int32) (i26 : Int32) (i27 : Int32) (i28 : Int32) (t0 : Int32) (hf : L_law_b331 NF ob i8 i9 i10 i12 i13 i14 i15 i16 i17 i18 i19 i20 i21 i22 i23 i24 i25 i26 i27 i28 t0 = some res) : Runs C B0 7 218 331 [vn, vn, vn, vn, vn, vn, vn, vn, vi i8, vi i9, vi i10, vn, vi i12, vi i13, vi i14, vi i15, vi i16, vi i17, vi i18, vi i19, vi i20, vi i21, vi i22, vi i23, vi i24, vi i25, vi i26, vi i27, vi i28, vn, vn, vn, vn, vn, vn, vn] [.int t0] (C.2.2.1 + 1 + 6, (C.2.2.1, 6, ob) :: []) (fun v _ => v = (some (.int res))) := by
  delta L_law_b331 at hf
  refine Runs.istore (P' := [vn, vn, vn, vn, vn, vn, vn, vn, vi i8, vi i9, vi i10, vn, vi i12, vi i13, vi i14, vi i15, vi i16, vi i17, vi i18, vi i19, vi i20, vi i21, vi i22, vi i23, vi i24, vi i25, vi i26, vi i27, vi i28, vi t0, vn, vn, vn, vn, vn, vn]) d0_331 (by decide) rfl <| Runs.iload d0_333 rfl <| Runs.sipush d0_335 cs_256 <| ?_
  refine ite_el hf (fun hc63 hf => ?_) (fun hc63 hf => ?_)
  · refine Runs.icN d0_338 (teq hc63).2 <| ?_
    exact Runs.iconst d0_341 ci_m1 <| Runs.goto (pc' := 347) d0_342 (by decide) <| Runs.forget [false, false, false, false, false, false, false, false, false, true, true, false, true, true, true, true, true, true, true, true, true, true, true, true, true, true, true, true, true, true, false, false, false, false, false, false] rfl <| L_law_b347_p ob i9 i10 i12 i13 i14 i15 i16 i17 i18 i19 i20 i21 i22 i23 i24 i25 i26 i27 i28 t0 (-1 : Int32) hf
  · refine Runs.icY (pc' := 345) d0_338 (feq hc63).2 (by decide) <| ?_
    exact Runs.iload d0_345 rfl <| Runs.forget [false, false, false, false, false, false, false, false, false, true, true, false, true, true, true, true, true, true, true, true, true, true, true, true, true, true, true, true, true, true, false, false, false, false, false, false] rfl <| L_law_b347_p ob i9 i10 i12 i13 i14 i15 i16 i17 i18 i19 i20 i21 i22 i23 i24 i25 i26 i27 i28 t0 i8 hf
def L_law_w42 (NF : Nat) (k42 : Int32 → Int32 → Int32 → Int32 → Int32 → Int32 → Int32 → Int32 → Option (Int32)) (i4 : Int32) (i5 : Int32) (i6 : Int32) (i7 : Int32) (i8 : Int32) (i9 : Int32) (i10 : Int32) (i11 : Int32) : Option (Int32) :=
  if i11 < (4 : Int32) then
    if i4 = i5 then
      if (i11 &&& (1 : Int32)) = ((i11 >>> ((1 : Int32) &&& 31)) &&& (1 : Int32)) then
        L_law_b79 NF k42 i4 i5 i6 i7 i8 i9 i10 i11 (i11 &&& (1 : Int32)) ((i11 >>> ((1 : Int32) &&& 31)) &&& (1 : Int32))
      else
        k42 i4 i5 i6 i7 i8 i9 i10 (i11 + (1 : Int32))
    else
      L_law_b79 NF k42 i4 i5 i6 i7 i8 i9 i10 i11 (i11 &&& (1 : Int32)) ((i11 >>> ((1 : Int32) &&& 31)) &&& (1 : Int32))
  else
    (X_init (8 : Int32)).bind fun q4 =>
    bind2 (X_pushToken q4 i4) fun r6 q7 =>
    bind2 (X_pushToken q7 i5) fun r9 q10 =>
    bind2 (X_pushToken q10 i6) fun r12 q13 =>
    bind2 (X_prove NF q13) fun r15 q16 =>
    (X_lastResult q16).bind fun r18 =>
    (X_witness q16).bind fun r20 =>
    bind2 (X_satisfy NF q16) fun r22 q23 =>
    (X_lastResult q23).bind fun r25 =>
    (X_witness q23).bind fun r27 =>
    bind2 (X_save NF q23) fun r29 q30 =>
    (X_savedLength q30).bind fun r32 =>
    (X_clear q30).bind fun q34 =>
    bind2 (X_pushToken q34 i5) fun r36 q37 =>
    bind2 (X_pushToken q37 i4) fun r39 q40 =>
    bind2 (X_pushToken q40 i7) fun r42 q43 =>
    bind2 (X_equivalent NF q43) fun r45 q46 =>
    (X_lastResult q46).bind fun r48 =>
    (X_witness q46).bind fun r50 =>
    if i8 = (256 : Int32) then
      L_law_b331 NF q46 i8 i9 i10 r6 r9 r12 r15 r18 r20 r22 r25 r27 r29 r32 r36 r39 r42 r45 r48 r50 (1 : Int32)
    else
      L_law_b331 NF q46 i8 i9 i10 r6 r9 r12 r15 r18 r20 r22 r25 r27 r29 r32 r36 r39 r42 r45 r48 r50 (2 : Int32)
def L_law_l42 (NF : Nat) : Nat → Int32 → Int32 → Int32 → Int32 → Int32 → Int32 → Int32 → Int32 → Option (Int32)
  | 0, _, _, _, _, _, _, _, _ => none
  | n + 1, i4, i5, i6, i7, i8, i9, i10, i11 => L_law_w42 NF (L_law_l42 NF n) i4 i5 i6 i7 i8 i9 i10 i11
set_option maxRecDepth 65536 in
set_option maxHeartbeats 4000000 in
theorem L_law_w42_p {C : Ctx} {res : Int32} {NF : Nat} (k42 : Int32 → Int32 → Int32 → Int32 → Int32 → Int32 → Int32 → Int32 → Option (Int32)) (hk42 : ∀ (i4 : Int32) (i5 : Int32) (i6 : Int32) (i7 : Int32) (i8 : Int32) (i9 : Int32) (i10 : Int32) (i11 : Int32), k42 i4 i5 i6 i7 i8 i9 i10 i11 = some res → Runs C B0 0 0 42 [vn, vn, vn, vn, vi i4, vi i5, vi i6, vi i7, vi i8, vi i9, vi i10, vi i11, vn, vn, vn, vn, vn, vn, vn, vn, vn, vn, vn, vn, vn, vn, vn, vn, vn, vn, vn, vn, vn, vn, vn, vn] [] (C.2.2.1, []) (fun v _ => v = (some (.int res)))) (i4 : Int32) (i5 : Int32) (i6 : Int32) (i7 : Int32) (i8 : Int32) (i9 : Int32) (i10 : Int32) (i11 : Int32) (hf : L_law_w42 NF k42 i4 i5 i6 i7 i8 i9 i10 i11 = some res) : Runs C B0 0 0 42 [vn, vn, vn, vn, vi i4, vi i5, vi i6, vi i7, vi i8, vi i9, vi i10, vi i11, vn, vn, vn, vn, vn, vn, vn, vn, vn, vn, vn, vn, vn, vn, vn, vn, vn, vn, vn, vn, vn, vn, vn, vn] [] (C.2.2.1, []) (fun v _ => v = (some (.int res))) := by
  delta L_law_w42 at hf
  refine Runs.iload d0_42 rfl <| Runs.iconst d0_44 ci_4 <| ?_
  refine ite_el hf (fun hc1 hf => ?_) (fun hc1 hf => ?_)
  · refine Runs.icN d0_45 (tlt hc1).2.1 <| ?_
    refine Runs.iload d0_48 rfl <| Runs.iconst d0_50 ci_1 <| Runs.iand d0_51 <| Runs.istore (P' := [vn, vn, vn, vn, vi i4, vi i5, vi i6, vi i7, vi i8, vi i9, vi i10, vi i11, vi (i11 &&& (1 : Int32)), vn, vn, vn, vn, vn, vn, vn, vn, vn, vn, vn, vn, vn, vn, vn, vn, vn, vn, vn, vn, vn, vn, vn]) d0_52 (by decide) rfl <| Runs.iload d0_54 rfl <| Runs.iconst d0_56 ci_1 <| Runs.ishr d0_57 <| Runs.iconst d0_58 ci_1 <| Runs.iand d0_59 <| Runs.istore (P' := [vn, vn, vn, vn, vi i4, vi i5, vi i6, vi i7, vi i8, vi i9, vi i10, vi i11, vi (i11 &&& (1 : Int32)), vi ((i11 >>> ((1 : Int32) &&& 31)) &&& (1 : Int32)), vn, vn, vn, vn, vn, vn, vn, vn, vn, vn, vn, vn, vn, vn, vn, vn, vn, vn, vn, vn, vn, vn]) d0_60 (by decide) rfl <| Runs.iload d0_62 rfl <| Runs.iload d0_64 rfl <| ?_
    refine ite_el hf (fun hc2 hf => ?_) (fun hc2 hf => ?_)
    · refine Runs.icN d0_66 (teq hc2).2 <| ?_
      refine Runs.iload d0_69 rfl <| Runs.iload d0_71 rfl <| ?_
      refine ite_el hf (fun hc3 hf => ?_) (fun hc3 hf => ?_)
      · exact Runs.icY (pc' := 79) d0_73 (teq hc3).1 (by decide) <| L_law_b79_p k42 hk42 i4 i5 i6 i7 i8 i9 i10 i11 (i11 &&& (1 : Int32)) ((i11 >>> ((1 : Int32) &&& 31)) &&& (1 : Int32)) hf
      · refine Runs.icN d0_73 (feq hc3).1 <| ?_
        exact Runs.goto (pc' := 165) d0_76 (by decide) <| Runs.iinc (P' := [vn, vn, vn, vn, vi i4, vi i5, vi i6, vi i7, vi i8, vi i9, vi i10, vi (i11 + (1 : Int32)), vi (i11 &&& (1 : Int32)), vi ((i11 >>> ((1 : Int32) &&& 31)) &&& (1 : Int32)), vn, vn, vn, vn, vn, vn, vn, vn, vn, vn, vn, vn, vn, vn, vn, vn, vn, vn, vn, vn, vn, vn]) d0_165 ci_1 rfl (by decide) rfl <| Runs.goto (pc' := 42) d0_168 (by decide) <| Runs.forget [false, false, false, false, true, true, true, true, true, true, true, true, false, false, false, false, false, false, false, false, false, false, false, false, false, false, false, false, false, false, false, false, false, false, false, false] rfl <| hk42 i4 i5 i6 i7 i8 i9 i10 (i11 + (1 : Int32)) hf
    · exact Runs.icY (pc' := 79) d0_66 (feq hc2).2 (by decide) <| L_law_b79_p k42 hk42 i4 i5 i6 i7 i8 i9 i10 i11 (i11 &&& (1 : Int32)) ((i11 >>> ((1 : Int32) &&& 31)) &&& (1 : Int32)) hf
  · refine Runs.icY (pc' := 171) d0_45 (flt hc1).2.1 (by decide) <| ?_
    refine Runs.newK (k' := 1) (n' := 14) d0_171 w7 ⟨by decide, by decide⟩ rfl rfl (by intro x hx; cases hx) <| Runs.dup d0_174 rfl <| Runs.bipush d0_175 cb_8 <| ?_
    refine bind_el hf fun q4 hg5 hf => ?_
    refine Runs.callI (N := B3) (k' := 7) (n' := 218) (W := 1) (as := [.int (8 : Int32)]) (S' := [.ref C.2.2.1]) d0_177 rfl rfl w10 w11 cw3 ar3 (by decide) rfl rfl rfl rfl (X_init_pay hg5) <| ans0 <| Runs.astore (P' := [vn, vn, vn, vn, vi i4, vi i5, vi i6, vi i7, vi i8, vi i9, vi i10, vr C.2.2.1, vn, vn, vn, vn, vn, vn, vn, vn, vn, vn, vn, vn, vn, vn, vn, vn, vn, vn, vn, vn, vn, vn, vn, vn]) d0_180 (by decide) rfl <| Runs.aload d0_182 rfl <| Runs.iload d0_184 rfl <| ?_
    refine bind2_el hf fun r6 q7 hg8 hf => ?_
    refine Runs.callV (N := B5) (W := 0) (as := [.int i4]) (S' := []) d0_186 w50 w51 w52 w53 cw5 ar5 rk0_5_0 (by decide) rfl rfl (X_pushToken_pay hg8) <| ans1 <| Runs.istore (P' := [vn, vn, vn, vn, vi i4, vi i5, vi i6, vi i7, vi i8, vi i9, vi i10, vr C.2.2.1, vi r6, vn, vn, vn, vn, vn, vn, vn, vn, vn, vn, vn, vn, vn, vn, vn, vn, vn, vn, vn, vn, vn, vn, vn]) d0_189 (by decide) rfl <| Runs.aload d0_191 rfl <| Runs.iload d0_193 rfl <| ?_
    refine bind2_el hf fun r9 q10 hg11 hf => ?_
    refine Runs.callV (N := B5) (W := 0) (as := [.int i5]) (S' := []) d0_195 w50 w51 w52 w53 cw5 ar5 rk0_5_0 (by decide) rfl rfl (X_pushToken_pay hg11) <| ans1 <| Runs.istore (P' := [vn, vn, vn, vn, vi i4, vi i5, vi i6, vi i7, vi i8, vi i9, vi i10, vr C.2.2.1, vi r6, vi r9, vn, vn, vn, vn, vn, vn, vn, vn, vn, vn, vn, vn, vn, vn, vn, vn, vn, vn, vn, vn, vn, vn]) d0_198 (by decide) rfl <| Runs.aload d0_200 rfl <| Runs.iload d0_202 rfl <| ?_
    refine bind2_el hf fun r12 q13 hg14 hf => ?_
    refine Runs.callV (N := B5) (W := 0) (as := [.int i6]) (S' := []) d0_204 w50 w51 w52 w53 cw5 ar5 rk0_5_0 (by decide) rfl rfl (X_pushToken_pay hg14) <| ans1 <| Runs.istore (P' := [vn, vn, vn, vn, vi i4, vi i5, vi i6, vi i7, vi i8, vi i9, vi i10, vr C.2.2.1, vi r6, vi r9, vi r12, vn, vn, vn, vn, vn, vn, vn, vn, vn, vn, vn, vn, vn, vn, vn, vn, vn, vn, vn, vn, vn]) d0_207 (by decide) rfl <| Runs.aload d0_209 rfl <| ?_
    refine bind2_el hf fun r15 q16 hg17 hf => ?_
    refine Runs.callV (N := B7) (W := 0) (as := []) (S' := []) d0_211 w59 w60 w61 w62 cw7 ar7 rk0_7_0 (by decide) rfl rfl (X_prove_pay hg17) <| ans1 <| Runs.istore (P' := [vn, vn, vn, vn, vi i4, vi i5, vi i6, vi i7, vi i8, vi i9, vi i10, vr C.2.2.1, vi r6, vi r9, vi r12, vi r15, vn, vn, vn, vn, vn, vn, vn, vn, vn, vn, vn, vn, vn, vn, vn, vn, vn, vn, vn, vn]) d0_214 (by decide) rfl <| Runs.aload d0_216 rfl <| ?_
    refine bind_el hf fun r18 hg19 hf => ?_
    refine Runs.callV (N := B21) (W := 0) (as := []) (S' := []) d0_218 w119 w120 w121 w122 cw21 ar21 rk0_21_0 (by decide) rfl rfl (X_lastResult_pay hg19) <| ans1 <| Runs.istore (P' := [vn, vn, vn, vn, vi i4, vi i5, vi i6, vi i7, vi i8, vi i9, vi i10, vr C.2.2.1, vi r6, vi r9, vi r12, vi r15, vi r18, vn, vn, vn, vn, vn, vn, vn, vn, vn, vn, vn, vn, vn, vn, vn, vn, vn, vn, vn]) d0_221 (by decide) rfl <| Runs.aload d0_223 rfl <| ?_
    refine bind_el hf fun r20 hg21 hf => ?_
    refine Runs.callV (N := B22) (W := 0) (as := []) (S' := []) d0_225 w124 w125 w126 w127 cw22 ar22 rk0_22_0 (by decide) rfl rfl (X_witness_pay hg21) <| ans1 <| Runs.istore (P' := [vn, vn, vn, vn, vi i4, vi i5, vi i6, vi i7, vi i8, vi i9, vi i10, vr C.2.2.1, vi r6, vi r9, vi r12, vi r15, vi r18, vi r20, vn, vn, vn, vn, vn, vn, vn, vn, vn, vn, vn, vn, vn, vn, vn, vn, vn, vn]) d0_228 (by decide) rfl <| Runs.aload d0_230 rfl <| ?_
    refine bind2_el hf fun r22 q23 hg24 hf => ?_
    refine Runs.callV (N := B23) (W := 0) (as := []) (S' := []) d0_232 w129 w130 w131 w132 cw23 ar23 rk0_23_0 (by decide) rfl rfl (X_satisfy_pay hg24) <| ans1 <| Runs.istore (P' := [vn, vn, vn, vn, vi i4, vi i5, vi i6, vi i7, vi i8, vi i9, vi i10, vr C.2.2.1, vi r6, vi r9, vi r12, vi r15, vi r18, vi r20, vi r22, vn, vn, vn, vn, vn, vn, vn, vn, vn, vn, vn, vn, vn, vn, vn, vn, vn]) d0_235 (by decide) rfl <| Runs.aload d0_237 rfl <| ?_
    refine bind_el hf fun r25 hg26 hf => ?_
    refine Runs.callV (N := B21) (W := 0) (as := []) (S' := []) d0_239 w119 w120 w121 w122 cw21 ar21 rk0_21_0 (by decide) rfl rfl (X_lastResult_pay hg26) <| ans1 <| Runs.istore (P' := [vn, vn, vn, vn, vi i4, vi i5, vi i6, vi i7, vi i8, vi i9, vi i10, vr C.2.2.1, vi r6, vi r9, vi r12, vi r15, vi r18, vi r20, vi r22, vi r25, vn, vn, vn, vn, vn, vn, vn, vn, vn, vn, vn, vn, vn, vn, vn, vn]) d0_242 (by decide) rfl <| Runs.aload d0_244 rfl <| ?_
    refine bind_el hf fun r27 hg28 hf => ?_
    refine Runs.callV (N := B22) (W := 0) (as := []) (S' := []) d0_246 w124 w125 w126 w127 cw22 ar22 rk0_22_0 (by decide) rfl rfl (X_witness_pay hg28) <| ans1 <| Runs.istore (P' := [vn, vn, vn, vn, vi i4, vi i5, vi i6, vi i7, vi i8, vi i9, vi i10, vr C.2.2.1, vi r6, vi r9, vi r12, vi r15, vi r18, vi r20, vi r22, vi r25, vi r27, vn, vn, vn, vn, vn, vn, vn, vn, vn, vn, vn, vn, vn, vn, vn]) d0_249 (by decide) rfl <| Runs.aload d0_251 rfl <| ?_
    refine bind2_el hf fun r29 q30 hg31 hf => ?_
    refine Runs.callV (N := B25) (W := 0) (as := []) (S' := []) d0_253 w138 w139 w140 w141 cw25 ar25 rk0_25_0 (by decide) rfl rfl (X_save_pay hg31) <| ans1 <| Runs.istore (P' := [vn, vn, vn, vn, vi i4, vi i5, vi i6, vi i7, vi i8, vi i9, vi i10, vr C.2.2.1, vi r6, vi r9, vi r12, vi r15, vi r18, vi r20, vi r22, vi r25, vi r27, vi r29, vn, vn, vn, vn, vn, vn, vn, vn, vn, vn, vn, vn, vn, vn]) d0_256 (by decide) rfl <| Runs.aload d0_258 rfl <| ?_
    refine bind_el hf fun r32 hg33 hf => ?_
    refine Runs.callV (N := B28) (W := 0) (as := []) (S' := []) d0_260 w151 w152 w153 w154 cw28 ar28 rk0_28_0 (by decide) rfl rfl (X_savedLength_pay hg33) <| ans1 <| Runs.istore (P' := [vn, vn, vn, vn, vi i4, vi i5, vi i6, vi i7, vi i8, vi i9, vi i10, vr C.2.2.1, vi r6, vi r9, vi r12, vi r15, vi r18, vi r20, vi r22, vi r25, vi r27, vi r29, vi r32, vn, vn, vn, vn, vn, vn, vn, vn, vn, vn, vn, vn, vn]) d0_263 (by decide) rfl <| Runs.aload d0_265 rfl <| ?_
    refine bind_el hf fun q34 hg35 hf => ?_
    refine Runs.callV (N := B29) (W := 0) (as := []) (S' := []) d0_267 w156 w157 w158 w159 cw29 ar29 rk0_29_0 (by decide) rfl rfl (X_clear_pay hg35) <| ans0 <| Runs.aload d0_270 rfl <| Runs.iload d0_272 rfl <| ?_
    refine bind2_el hf fun r36 q37 hg38 hf => ?_
    refine Runs.callV (N := B5) (W := 0) (as := [.int i5]) (S' := []) d0_274 w50 w51 w52 w53 cw5 ar5 rk0_5_0 (by decide) rfl rfl (X_pushToken_pay hg38) <| ans1 <| Runs.istore (P' := [vn, vn, vn, vn, vi i4, vi i5, vi i6, vi i7, vi i8, vi i9, vi i10, vr C.2.2.1, vi r6, vi r9, vi r12, vi r15, vi r18, vi r20, vi r22, vi r25, vi r27, vi r29, vi r32, vi r36, vn, vn, vn, vn, vn, vn, vn, vn, vn, vn, vn, vn]) d0_277 (by decide) rfl <| Runs.aload d0_279 rfl <| Runs.iload d0_281 rfl <| ?_
    refine bind2_el hf fun r39 q40 hg41 hf => ?_
    refine Runs.callV (N := B5) (W := 0) (as := [.int i4]) (S' := []) d0_283 w50 w51 w52 w53 cw5 ar5 rk0_5_0 (by decide) rfl rfl (X_pushToken_pay hg41) <| ans1 <| Runs.istore (P' := [vn, vn, vn, vn, vi i4, vi i5, vi i6, vi i7, vi i8, vi i9, vi i10, vr C.2.2.1, vi r6, vi r9, vi r12, vi r15, vi r18, vi r20, vi r22, vi r25, vi r27, vi r29, vi r32, vi r36, vi r39, vn, vn, vn, vn, vn, vn, vn, vn, vn, vn, vn]) d0_286 (by decide) rfl <| Runs.aload d0_288 rfl <| Runs.iload d0_290 rfl <| ?_
    refine bind2_el hf fun r42 q43 hg44 hf => ?_
    refine Runs.callV (N := B5) (W := 0) (as := [.int i7]) (S' := []) d0_292 w50 w51 w52 w53 cw5 ar5 rk0_5_0 (by decide) rfl rfl (X_pushToken_pay hg44) <| ans1 <| Runs.istore (P' := [vn, vn, vn, vn, vi i4, vi i5, vi i6, vi i7, vi i8, vi i9, vi i10, vr C.2.2.1, vi r6, vi r9, vi r12, vi r15, vi r18, vi r20, vi r22, vi r25, vi r27, vi r29, vi r32, vi r36, vi r39, vi r42, vn, vn, vn, vn, vn, vn, vn, vn, vn, vn]) d0_295 (by decide) rfl <| Runs.aload d0_297 rfl <| ?_
    refine bind2_el hf fun r45 q46 hg47 hf => ?_
    refine Runs.callV (N := B30) (W := 0) (as := []) (S' := []) d0_299 w161 w162 w163 w164 cw30 ar30 rk0_30_0 (by decide) rfl rfl (X_equivalent_pay hg47) <| ans1 <| Runs.istore (P' := [vn, vn, vn, vn, vi i4, vi i5, vi i6, vi i7, vi i8, vi i9, vi i10, vr C.2.2.1, vi r6, vi r9, vi r12, vi r15, vi r18, vi r20, vi r22, vi r25, vi r27, vi r29, vi r32, vi r36, vi r39, vi r42, vi r45, vn, vn, vn, vn, vn, vn, vn, vn, vn]) d0_302 (by decide) rfl <| Runs.aload d0_304 rfl <| ?_
    refine bind_el hf fun r48 hg49 hf => ?_
    refine Runs.callV (N := B21) (W := 0) (as := []) (S' := []) d0_306 w119 w120 w121 w122 cw21 ar21 rk0_21_0 (by decide) rfl rfl (X_lastResult_pay hg49) <| ans1 <| Runs.istore (P' := [vn, vn, vn, vn, vi i4, vi i5, vi i6, vi i7, vi i8, vi i9, vi i10, vr C.2.2.1, vi r6, vi r9, vi r12, vi r15, vi r18, vi r20, vi r22, vi r25, vi r27, vi r29, vi r32, vi r36, vi r39, vi r42, vi r45, vi r48, vn, vn, vn, vn, vn, vn, vn, vn]) d0_309 (by decide) rfl <| Runs.aload d0_311 rfl <| ?_
    refine bind_el hf fun r50 hg51 hf => ?_
    refine Runs.callV (N := B22) (W := 0) (as := []) (S' := []) d0_313 w124 w125 w126 w127 cw22 ar22 rk0_22_0 (by decide) rfl rfl (X_witness_pay hg51) <| ans1 <| Runs.istore (P' := [vn, vn, vn, vn, vi i4, vi i5, vi i6, vi i7, vi i8, vi i9, vi i10, vr C.2.2.1, vi r6, vi r9, vi r12, vi r15, vi r18, vi r20, vi r22, vi r25, vi r27, vi r29, vi r32, vi r36, vi r39, vi r42, vi r45, vi r48, vi r50, vn, vn, vn, vn, vn, vn, vn]) d0_316 (by decide) rfl <| Runs.iload d0_318 rfl <| Runs.sipush d0_320 cs_256 <| ?_
    refine ite_el hf (fun hc52 hf => ?_) (fun hc52 hf => ?_)
    · refine Runs.icN d0_323 (teq hc52).2 <| ?_
      exact Runs.iconst d0_326 ci_1 <| Runs.goto (pc' := 331) d0_327 (by decide) <| Runs.forget [false, false, false, false, false, false, false, false, true, true, true, false, true, true, true, true, true, true, true, true, true, true, true, true, true, true, true, true, true, false, false, false, false, false, false, false] rfl <| L_law_b331_p q46 i8 i9 i10 r6 r9 r12 r15 r18 r20 r22 r25 r27 r29 r32 r36 r39 r42 r45 r48 r50 (1 : Int32) hf
    · refine Runs.icY (pc' := 330) d0_323 (feq hc52).2 (by decide) <| ?_
      exact Runs.iconst d0_330 ci_2 <| Runs.forget [false, false, false, false, false, false, false, false, true, true, true, false, true, true, true, true, true, true, true, true, true, true, true, true, true, true, true, true, true, false, false, false, false, false, false, false] rfl <| L_law_b331_p q46 i8 i9 i10 r6 r9 r12 r15 r18 r20 r22 r25 r27 r29 r32 r36 r39 r42 r45 r48 r50 (2 : Int32) hf
theorem L_law_l42_p {C : Ctx} {res : Int32} {NF : Nat} (n : Nat) (i4 : Int32) (i5 : Int32) (i6 : Int32) (i7 : Int32) (i8 : Int32) (i9 : Int32) (i10 : Int32) (i11 : Int32) (hf : L_law_l42 NF n i4 i5 i6 i7 i8 i9 i10 i11 = some res) : Runs C B0 0 0 42 [vn, vn, vn, vn, vi i4, vi i5, vi i6, vi i7, vi i8, vi i9, vi i10, vi i11, vn, vn, vn, vn, vn, vn, vn, vn, vn, vn, vn, vn, vn, vn, vn, vn, vn, vn, vn, vn, vn, vn, vn, vn] [] (C.2.2.1, []) (fun v _ => v = (some (.int res))) := by
  induction n generalizing i4 i5 i6 i7 i8 i9 i10 i11 with
  | zero => cases (show (none : Option (Int32)) = some res from hf)
  | succ n ih => exact L_law_w42_p (L_law_l42 NF n) (fun i4 i5 i6 i7 i8 i9 i10 i11 h => ih _ _ _ _ _ _ _ _ h) i4 i5 i6 i7 i8 i9 i10 i11 hf
def L_law (NF : Nat) (i0 : Int32) (i1 : Int32) (i2 : Int32) (i3 : Int32) : Option (Int32) :=
  (L_pick i2).bind fun r86 =>
  (L_pick i3).bind fun r88 =>
  L_law_l42 NF NF (i0 &&& (7 : Int32)) (i1 &&& (7 : Int32)) r86 r88 (256 : Int32) (256 : Int32) (256 : Int32) (0 : Int32)
set_option maxRecDepth 65536 in
set_option maxHeartbeats 4000000 in
theorem L_law_p {C : Ctx} {res : Int32} {NF : Nat} (i0 : Int32) (i1 : Int32) (i2 : Int32) (i3 : Int32) (hf : L_law NF i0 i1 i2 i3 = some res) : Runs C B0 0 0 0 [vi i0, vi i1, vi i2, vi i3, vn, vn, vn, vn, vn, vn, vn, vn, vn, vn, vn, vn, vn, vn, vn, vn, vn, vn, vn, vn, vn, vn, vn, vn, vn, vn, vn, vn, vn, vn, vn, vn] [] (C.2.2.1, []) (fun v _ => v = (some (.int res))) := by
  delta L_law at hf
  refine Runs.iloadN d0_0 rfl <| Runs.bipush d0_1 cb_7 <| Runs.iand d0_3 <| Runs.istore (P' := [vi i0, vi i1, vi i2, vi i3, vi (i0 &&& (7 : Int32)), vn, vn, vn, vn, vn, vn, vn, vn, vn, vn, vn, vn, vn, vn, vn, vn, vn, vn, vn, vn, vn, vn, vn, vn, vn, vn, vn, vn, vn, vn, vn]) d0_4 (by decide) rfl <| Runs.iloadN d0_6 rfl <| Runs.bipush d0_7 cb_7 <| Runs.iand d0_9 <| Runs.istore (P' := [vi i0, vi i1, vi i2, vi i3, vi (i0 &&& (7 : Int32)), vi (i1 &&& (7 : Int32)), vn, vn, vn, vn, vn, vn, vn, vn, vn, vn, vn, vn, vn, vn, vn, vn, vn, vn, vn, vn, vn, vn, vn, vn, vn, vn, vn, vn, vn, vn]) d0_10 (by decide) rfl <| Runs.iloadN d0_12 rfl <| ?_
  refine bind_el hf fun r86 hg87 hf => ?_
  refine Runs.callS (N := B1) (W := 0) (as := [.int i2]) (S' := []) d0_13 w0 w1 cw1 ar1 rk0_1_0 (by decide) rfl rfl (L_pick_pay hg87) <| ans1 <| Runs.istore (P' := [vi i0, vi i1, vi i2, vi i3, vi (i0 &&& (7 : Int32)), vi (i1 &&& (7 : Int32)), vi r86, vn, vn, vn, vn, vn, vn, vn, vn, vn, vn, vn, vn, vn, vn, vn, vn, vn, vn, vn, vn, vn, vn, vn, vn, vn, vn, vn, vn, vn]) d0_16 (by decide) rfl <| Runs.iloadN d0_18 rfl <| ?_
  refine bind_el hf fun r88 hg89 hf => ?_
  exact Runs.callS (N := B1) (W := 0) (as := [.int i3]) (S' := []) d0_19 w0 w1 cw1 ar1 rk0_1_0 (by decide) rfl rfl (L_pick_pay hg89) <| ans1 <| Runs.istore (P' := [vi i0, vi i1, vi i2, vi i3, vi (i0 &&& (7 : Int32)), vi (i1 &&& (7 : Int32)), vi r86, vi r88, vn, vn, vn, vn, vn, vn, vn, vn, vn, vn, vn, vn, vn, vn, vn, vn, vn, vn, vn, vn, vn, vn, vn, vn, vn, vn, vn, vn]) d0_22 (by decide) rfl <| Runs.sipush d0_24 cs_256 <| Runs.istore (P' := [vi i0, vi i1, vi i2, vi i3, vi (i0 &&& (7 : Int32)), vi (i1 &&& (7 : Int32)), vi r86, vi r88, vi (256 : Int32), vn, vn, vn, vn, vn, vn, vn, vn, vn, vn, vn, vn, vn, vn, vn, vn, vn, vn, vn, vn, vn, vn, vn, vn, vn, vn, vn]) d0_27 (by decide) rfl <| Runs.sipush d0_29 cs_256 <| Runs.istore (P' := [vi i0, vi i1, vi i2, vi i3, vi (i0 &&& (7 : Int32)), vi (i1 &&& (7 : Int32)), vi r86, vi r88, vi (256 : Int32), vi (256 : Int32), vn, vn, vn, vn, vn, vn, vn, vn, vn, vn, vn, vn, vn, vn, vn, vn, vn, vn, vn, vn, vn, vn, vn, vn, vn, vn]) d0_32 (by decide) rfl <| Runs.sipush d0_34 cs_256 <| Runs.istore (P' := [vi i0, vi i1, vi i2, vi i3, vi (i0 &&& (7 : Int32)), vi (i1 &&& (7 : Int32)), vi r86, vi r88, vi (256 : Int32), vi (256 : Int32), vi (256 : Int32), vn, vn, vn, vn, vn, vn, vn, vn, vn, vn, vn, vn, vn, vn, vn, vn, vn, vn, vn, vn, vn, vn, vn, vn, vn]) d0_37 (by decide) rfl <| Runs.iconst d0_39 ci_0 <| Runs.istore (P' := [vi i0, vi i1, vi i2, vi i3, vi (i0 &&& (7 : Int32)), vi (i1 &&& (7 : Int32)), vi r86, vi r88, vi (256 : Int32), vi (256 : Int32), vi (256 : Int32), vi (0 : Int32), vn, vn, vn, vn, vn, vn, vn, vn, vn, vn, vn, vn, vn, vn, vn, vn, vn, vn, vn, vn, vn, vn, vn, vn]) d0_40 (by decide) rfl <| Runs.forget [false, false, false, false, true, true, true, true, true, true, true, true, false, false, false, false, false, false, false, false, false, false, false, false, false, false, false, false, false, false, false, false, false, false, false, false] rfl <| L_law_l42_p NF (i0 &&& (7 : Int32)) (i1 &&& (7 : Int32)) r86 r88 (256 : Int32) (256 : Int32) (256 : Int32) (0 : Int32) hf
theorem L_law_pay {C : Ctx} {res : Int32} {NF : Nat} {i0 : Int32} {i1 : Int32} {i2 : Int32} {i3 : Int32} (hf : L_law NF i0 i1 i2 i3 = some res) : Pays C B0 [.int i0, .int i1, .int i2, .int i3] (C.2.2.1, []) (fun v _ => v = (some (.int res))) :=
  Pays.of pnL (Nat.le_of_ble_eq_true rfl) (P := [vi i0, vi i1, vi i2, vi i3, vn, vn, vn, vn, vn, vn, vn, vn, vn, vn, vn, vn, vn, vn, vn, vn, vn, vn, vn, vn, vn, vn, vn, vn, vn, vn, vn, vn, vn, vn, vn, vn]) 32 rfl (L_law_p i0 i1 i2 i3 hf)
-- no word: X_step at 50: method #106
--OWED--
theorem gI_sI (ob : Rec) (k j : Nat) (v : Int32) : gI (sI ob k v) j = if j = k then v else gI ob j := rfl
theorem gI_sA (ob : Rec) (k j : Nat) (i v : Int32) : gI (sA ob k i v) j = gI ob j := rfl
theorem gI_sJ (ob : Rec) (k j : Nat) (i : Int32) (v : Int64) : gI (sJ ob k i v) j = gI ob j := rfl
theorem gA_sI (ob : Rec) (k j : Nat) (v x : Int32) : gA (sI ob k v) j x = gA ob j x := rfl
theorem gA_sA (ob : Rec) (k j : Nat) (i v x : Int32) : gA (sA ob k i v) j x = if j = k ∧ x = i then v else gA ob j x := rfl
theorem gA_sJ (ob : Rec) (k j : Nat) (i x : Int32) (v : Int64) : gA (sJ ob k i v) j x = gA ob j x := rfl
theorem gJ_sI (ob : Rec) (k j : Nat) (v x : Int32) : gJ (sI ob k v) j x = gJ ob j x := rfl
theorem gJ_sA (ob : Rec) (k j : Nat) (i v x : Int32) : gJ (sA ob k i v) j x = gJ ob j x := rfl
theorem gJ_sJ (ob : Rec) (k j : Nat) (i x : Int32) (v : Int64) : gJ (sJ ob k i v) j x = if j = k ∧ x = i then v else gJ ob j x := rfl
theorem gI_z (k : Nat) : gI zrec k = 0 := rfl
theorem gA_z (k : Nat) (i : Int32) : gA zrec k i = 0 := rfl
theorem gJ_z (k : Nat) (i : Int32) : gJ zrec k i = 0 := rfl
theorem chk_ok {γ : Type} {n i : Int32} {A : Option γ} (h : 0 ≤ i.toInt ∧ i.toInt < n.toInt) : chk n i A = A := by
  have h0 : ¬ i < 0 := by rw [Int32.lt_iff_toInt_lt]; show ¬ i.toInt < 0; omega
  have h1 : i < n := by rw [Int32.lt_iff_toInt_lt]; exact h.2
  unfold chk; rw [if_neg h0, if_pos h1]
theorem lt_i {x y : Int32} : x < y ↔ x.toInt < y.toInt := Int32.lt_iff_toInt_lt
theorem le_i {x y : Int32} : x ≤ y ↔ x.toInt ≤ y.toInt := Int32.le_iff_toInt_le
theorem eq_i32 {x y : Int32} : x = y ↔ x.toInt = y.toInt := Int32.toInt_inj.symm
theorem bm_id {n : Int} (h : -2147483648 ≤ n ∧ n < 2147483648) : n.bmod (2 ^ 32) = n := Int.bmod_eq_of_le (by omega) (by omega)
theorem ad {x y : Int32} (h : -2147483648 ≤ x.toInt + y.toInt ∧ x.toInt + y.toInt < 2147483648) : (x + y).toInt = x.toInt + y.toInt := by rw [Int32.toInt_add, bm_id h]
theorem sb {x y : Int32} (h : -2147483648 ≤ x.toInt - y.toInt ∧ x.toInt - y.toInt < 2147483648) : (x - y).toInt = x.toInt - y.toInt := by rw [Int32.toInt_sub, bm_id h]
theorem ml {x y : Int32} (h : -2147483648 ≤ x.toInt * y.toInt ∧ x.toInt * y.toInt < 2147483648) : (x * y).toInt = x.toInt * y.toInt := by rw [Int32.toInt_mul, bm_id h]
theorem bind2_some {α β γ : Type} (a : α) (b : β) (f : α → β → Option γ) : bind2 (some (a, b)) f = f a b := rfl
theorem and_b (x m : Int32) (k : Nat) (hm : m.toBitVec.toNat = k) (hk : k < 2147483648) : 0 ≤ (x &&& m).toInt ∧ (x &&& m).toInt ≤ (k : Int) := by
  have h1 : (x &&& m).toBitVec.toNat = x.toBitVec.toNat &&& m.toBitVec.toNat := by rw [Int32.toBitVec_and, BitVec.toNat_and]
  have h2 : (x &&& m).toBitVec.toNat ≤ k := by rw [h1, hm]; exact Nat.and_le_right
  have h3 : (x &&& m).toInt = ((x &&& m).toBitVec.toNat : Int) := by
    show (x &&& m).toBitVec.toInt = _
    exact BitVec.toInt_eq_toNat_of_lt (by omega)
  rw [h3]; omega
theorem mem8 (x : Int32) : (x &&& 7) ∈ ([0, 1, 2, 3, 4, 5, 6, 7] : List Int32) := by
  have h := and_b x 7 7 rfl (by omega)
  simp only [List.mem_cons, eq_i32, Int32.reduceToInt, List.not_mem_nil, or_false]
  omega
theorem mem2 (x : Int32) : (x &&& 1) ∈ ([0, 1] : List Int32) := by
  have h := and_b x 1 1 rfl (by omega)
  simp only [List.mem_cons, eq_i32, Int32.reduceToInt, List.not_mem_nil, or_false]
  omega
-- USE: bits
theorem pick_e (x : Int32) : ∃ r, L_pick x = some r ∧ r ∈ ([11, 12, 13, 14, 15] : List Int32) := by
  have t0 : (0 : Int32).toInt = 0 := rfl
  have t5 : (5 : Int32).toInt = 5 := rfl
  have t11 : (11 : Int32).toInt = 11 := rfl
  have hm := c_iremV x 5
  rw [t5] at hm
  have hb : -5 < (x % 5).toInt ∧ (x % 5).toInt < 5 := by
    by_cases c : 0 ≤ x.toInt
    · have := hm.1 c (by omega); omega
    · have := hm.2 (by omega) (by omega); omega
  unfold L_pick
  by_cases c : x % 5 < 0
  · rw [if_pos c]
    rw [lt_i, t0] at c
    refine ⟨_, rfl, ?_⟩
    have e1 : (x % 5 + 5).toInt = (x % 5).toInt + 5 := by rw [ad (by rw [t5]; omega), t5]
    have e2 : (11 + (x % 5 + 5)).toInt = 11 + ((x % 5).toInt + 5) := by rw [ad (by rw [t11, e1]; omega), t11, e1]
    simp only [List.mem_cons, eq_i32, e2, Int32.reduceToInt, List.not_mem_nil, or_false]
    omega
  · rw [if_neg c]
    rw [lt_i, t0] at c
    refine ⟨_, rfl, ?_⟩
    have e2 : (11 + x % 5).toInt = 11 + (x % 5).toInt := by rw [ad (by rw [t11]; omega), t11]
    simp only [List.mem_cons, eq_i32, e2, Int32.reduceToInt, List.not_mem_nil, or_false]
    omega
theorem all0 : ∀ a ∈ ([0, 1, 2, 3, 4, 5, 6, 7] : List Int32), ∀ b ∈ ([0, 1, 2, 3, 4, 5, 6, 7] : List Int32), ∀ o ∈ ([11, 12, 13, 14, 15] : List Int32), ∀ o' ∈ ([11, 12, 13, 14, 15] : List Int32), L_law_l42 40 40 a b o o' 256 256 256 0 = some 1 := by decide +kernel
theorem owed : ∀ i0 i1 i2 i3 : Int32, ∃ NF : Nat, L_law NF i0 i1 i2 i3 = some 1 := by
  intro i0 i1 i2 i3
  refine ⟨40, ?_⟩
  obtain ⟨r, e, hr⟩ := pick_e i2
  obtain ⟨r', e', hr'⟩ := pick_e i3
  unfold L_law
  rw [e, Option.bind_some, e', Option.bind_some]
  exact all0 _ (mem8 i0) _ (mem8 i1) r hr r' hr'
-- owed : ∀ i0 i1 i2 i3 : Int32, ∃ NF : Nat, L_law NF i0 i1 i2 i3 = some 1
--COMES--
set_option maxRecDepth 65536 in
set_option maxHeartbeats 4000000 in
theorem comes_1 {Post : Tables → Env → Array Value → State → Outcome → State → Prop} (hpost : ∀ tb e args s v u, (limb_1_1.after args s (.returned v) u = true ∧ limb_1_2.after args s (.returned v) u = true ∧ True) → FrameEnd s (.returned v) u (Jvm.fieldLocs frame_1_writes args s ++ Jvm.arrayLocs frame_1_arrays args s ++ Jvm.staticLocs frame_1_statics s) 24 512 → Post tb e args s (.returned v) u) :
    ArmFor flags0 classFile x code maxLocals ret World_1 tables_1 room_1 Calls_1 rest_1 Pre_1 Post := by
  intro l hfl _ _ p e ha hc hk s m args below hf hA hF happ hP
  obtain ⟨hcalls, hrest, hpre⟩ := hP
  obtain ⟨-, -, -, hnamed, -, -, -, hat⟩ := (Spec.applies_iff hf).mp happ
  obtain ⟨hg, hn⟩ := and_e (Cond.before_iff.mp (show (Jvm.Cond.and given_1 narrow_1).before args s = true from hpre))
  obtain ⟨hcnt, hg⟩ := and_e hg
  obtain ⟨w0, w1, w2, w3, rfl⟩ : ∃ w0 w1 w2 w3 : Value, args = #[w0, w1, w2, w3] := by
    have hs : args.size = 4 := by simpa [Cond.value, given_1] using hcnt
    obtain ⟨L⟩ := args
    match L, hs with
    | [w0, w1, w2, w3], _ => exact ⟨w0, w1, w2, w3, rfl⟩
  have hw := fun d (hd : d ∈ tables_1) => atoms_spec (ws := Jvm.Cond.code x code maxLocals ret :: tables_1) hat d (List.mem_cons_of_mem _ hd)
  have hfit : Fit s := fun {y c} hc i hi => by
    obtain ⟨ha, rfl⟩ := Array.getElem?_eq_some_iff.mp hc
    have q := List.all_eq_true.mp ((Array.all_eq_true_iff_forall_mem.mp hF) _ (Array.getElem_mem ha)) i (List.mem_range.mpr hi)
    simpa [Array.getElem?_eq_getElem hi] using q
  obtain ⟨h0, hg⟩ := and_e hg
  obtain ⟨i0, e0⟩ := is_v h0
  obtain rfl : w0 = (.int i0) := Option.some.inj e0
  obtain ⟨h1, hg⟩ := and_e hg
  obtain ⟨i1, e1⟩ := is_v h1
  obtain rfl : w1 = (.int i1) := Option.some.inj e1
  obtain ⟨h2, hg⟩ := and_e hg
  obtain ⟨i2, e2⟩ := is_v h2
  obtain rfl : w2 = (.int i2) := Option.some.inj e2
  have h3 := hg
  obtain ⟨i3, e3⟩ := is_v h3
  obtain rfl : w3 = (.int i3) := Option.some.inj e3
  obtain ⟨NF, hlaw⟩ := owed i0 i1 i2 i3
  have hp := L_law_pay (C := (l, s, s.heap.size, #[.int i0, .int i1, .int i2, .int i3])) hlaw hw s.heap (Rep.start s) tables_1
  obtain ⟨n, o, h1, h2, h3, v, L, rfl, ⟨N, G', -, rfl⟩, hq⟩ := hp p e ha hc hk s m _ below hf ((Spec.applies_iff_loose hf).mp happ).1 ⟨rfl, State.Warmed39.refl s, rfl⟩ trivial
  refine ⟨n, _, h1, h2, h3, hpost _ _ _ _ _ _ ⟨Cond.after_iff.mpr rfl, Cond.after_iff.mpr (eq_i res_at (Term.int_eval (1)) rfl), trivial⟩ ⟨hq.1, hq.2.1, (hq.2.2.sift fun y hy => Or.inr (N y hy)).mono (by decide) (by decide)⟩⟩
theorem main_1_1 : Claimed_1_1 := comes_1 fun _ _ _ _ _ _ h hF => ⟨h.1, hF⟩
theorem main_1_2 : Claimed_1_2 := comes_1 fun _ _ _ _ _ _ h hF => ⟨h.2.1, hF⟩
end Jvm.Pilot.@@N@@
namespace Jvm.Pilot.@@N@@
open Jvm Jvm.ClassFile Sem Op Lib Jvm.Free Jvm.Stand Jvm.Pilot.@@N@@.Jvm.D
/-! MADE BY PROGRAM (witnessworld.py) out of the Statement's table words and the real class files: 11 classes; the members and pool entries that the words name. The judged class is class 1, her method 3. -/
namespace start1
open Jvm.ClassFile
def u (s : String) : CpInfo := .utf8 (stringToUtf16 s)
/-- a pool by its gaps: so many unusable entries, then the entry; so many at the end -/
def gap : Nat → List CpInfo → List CpInfo
  | 0, r => r
  | n + 1, r => .unusable :: gap n r
def poolList (es : List (Nat × CpInfo)) (last : Nat) : List CpInfo := es.foldr (fun e r => gap e.1 (e.2 :: r)) (gap last [])
def pool (es : List (Nat × CpInfo)) (last : Nat) : Array CpInfo := ⟨poolList es last⟩
def fileOf (pool : Array CpInfo) (this : Nat) (attrs : Array Attribute := #[]) (ms : Array MethodInfo := #[]) (fl : Nat := 33) (sup : Nat := 0) (ifs : Array Nat := #[]) (fds : Array FieldInfo := #[]) : ClassFile where
  minorVersion := 0
  majorVersion := 65
  constantPool := pool
  accessFlags := fl
  thisClass := this
  superClass := sup
  interfaces := ifs
  fields := fds
  methods := ms
  attributes := attrs
def plain (name : String) (sup : Option ClassId) : Class where
  name := name
  kind := .ordinary
  loader := none
  accessFlags := 33
  super := sup
  interfaces := #[]
  cf := none
  fields := #[]
  methods := #[]
  instanceTypes := #[]
  staticTypes := #[]
  resolved := #[]
  callSites := []
  init := .initialized
  statics := none
  mirror := none

def pool0 : Array CpInfo := pool [(5, u "<init>"), (0, u "()V"), (1, .class_ 10), (1, u "java/lang/Object")] 113

def k0c0 : Code := { maxStack := 0, maxLocals := 1, code := object_method_1_code, exceptionTable := #[], attributes := #[] }
def k0m0 : Method := { name := "<init>", desc := "()V", sig := { parameters := [], returnType := none }, accessFlags := 1, code := some k0c0 }
/-- java/lang/Object -/
def k0 : Class := { plain "java/lang/Object" none with
  accessFlags := 33
  interfaces := #[]
  cf := some (fileOf pool0 8 #[] #[{ accessFlags := 1, nameIndex := 5, descriptorIndex := 6, attributes := #[] }] 33 0 #[] #[])
  fields := #[]
  methods := #[k0m0]
  instanceTypes := #[]
  staticTypes := #[]
  resolved := Array.replicate 124 none
  statics := none }

def pool1 : Array CpInfo := pool [(2, .class_ 4), (1, u "java/lang/Object"), (0, u "<init>"), (0, u "()V"), (0, .methodref 8 9), (0, .class_ 10), (0, .nameAndType 11 12), (0, u "SaturProverL3"), (0, u "pick"), (0, u "(I)I"), (0, .methodref 8 14), (0, .nameAndType 15 16), (0, u "f"), (0, u "(III)I"), (0, .class_ 18), (0, u "SaturProver"), (0, .methodref 17 20), (0, .nameAndType 5 21), (0, u "(I)V"), (0, .methodref 17 23), (0, .nameAndType 24 12), (0, u "pushToken"), (0, .methodref 17 26), (0, .nameAndType 27 28), (0, u "prove"), (0, u "()I"), (0, .methodref 17 30), (0, .nameAndType 31 28), (0, u "lastResult"), (0, .methodref 17 33), (0, .nameAndType 34 28), (0, u "witness"), (0, .methodref 17 36), (0, .nameAndType 37 28), (0, u "satisfy"), (0, .methodref 17 39), (0, .nameAndType 40 28), (0, u "save"), (0, .methodref 17 42), (0, .nameAndType 43 28), (0, u "savedLength"), (0, .methodref 17 45), (0, .nameAndType 46 6), (0, u "clear"), (0, .methodref 17 48), (0, .nameAndType 49 28), (0, u "equivalent"), (3, u "law"), (0, u "(IIII)Z")] 2

def k1m0 : Method := { name := "<init>", desc := "()V", sig := { parameters := [], returnType := none }, accessFlags := 1, code := none }
def k1c1 : Code := { maxStack := 2, maxLocals := 3, code := method_2_code, exceptionTable := #[], attributes := #[] }
def k1m1 : Method := { name := "f", desc := "(III)I", sig := { parameters := [.int, .int, .int], returnType := some .int }, accessFlags := 10, code := some k1c1 }
def k1c2 : Code := { maxStack := 2, maxLocals := 2, code := method_3_code, exceptionTable := #[], attributes := #[] }
def k1m2 : Method := { name := "pick", desc := "(I)I", sig := { parameters := [.int], returnType := some .int }, accessFlags := 10, code := some k1c2 }
def k1c3 : Code := { maxStack := 3, maxLocals := 36, code := code, exceptionTable := #[], attributes := #[] }
def k1m3 : Method := { name := "law", desc := "(IIII)Z", sig := { parameters := [.int, .int, .int, .int], returnType := some .boolean }, accessFlags := 9, code := some k1c3 }
/-- SaturProverL3 -/
def k1 : Class := { plain "SaturProverL3" (some 0) with
  accessFlags := 49
  interfaces := #[]
  cf := some (fileOf pool1 8 #[] #[{ accessFlags := 1, nameIndex := 5, descriptorIndex := 6, attributes := #[] }, { accessFlags := 10, nameIndex := 15, descriptorIndex := 16, attributes := #[] }, { accessFlags := 10, nameIndex := 11, descriptorIndex := 12, attributes := #[] }, { accessFlags := 9, nameIndex := 53, descriptorIndex := 54, attributes := #[] }] 49 2 #[] #[])
  fields := #[]
  methods := #[k1m0, k1m1, k1m2, k1m3]
  instanceTypes := #[]
  staticTypes := #[]
  resolved := Array.replicate 57 none
  statics := none }

def pool2 : Array CpInfo := pool [(1, .methodref 2 3), (0, .class_ 4), (0, .nameAndType 5 6), (0, u "java/lang/Object"), (0, u "<init>"), (0, u "()V"), (0, .fieldref 8 9), (0, .class_ 10), (0, .nameAndType 11 12), (0, u "SaturProver"), (0, u "toks"), (0, u "[I"), (0, .fieldref 8 14), (0, .nameAndType 15 12), (0, u "saved"), (0, .fieldref 8 17), (0, .nameAndType 18 19), (0, u "stk"), (0, u "[J"), (0, .fieldref 8 21), (0, .nameAndType 22 19), (0, u "tabF"), (0, .fieldref 8 24), (0, .nameAndType 25 19), (0, u "tabS"), (0, .fieldref 8 27), (0, .nameAndType 28 19), (0, u "work"), (0, .fieldref 8 30), (0, .nameAndType 31 32), (0, u "cap"), (0, u "I"), (0, .fieldref 8 34), (0, .nameAndType 35 32), (0, u "n"), (0, .fieldref 8 37), (0, .nameAndType 38 32), (0, u "dep"), (0, .fieldref 8 40), (0, .nameAndType 41 32), (0, u "sn"), (0, .fieldref 8 43), (0, .nameAndType 44 45), (0, u "hasSaved"), (0, u "Z"), (0, .fieldref 8 47), (0, .nameAndType 48 45), (0, u "fValid"), (0, .methodref 8 50), (0, .nameAndType 51 6), (0, u "resetResult"), (0, .methodref 8 53), (0, .nameAndType 54 55), (0, u "arity"), (0, u "(I)I"), (0, .methodref 8 57), (0, .nameAndType 58 59), (0, u "completeF"), (0, u "()Z"), (0, .methodref 8 61), (0, .nameAndType 62 6), (0, u "copyTokensToSaved"), (0, .methodref 8 64), (0, .nameAndType 65 6), (0, u "ensureTableF"), (0, .methodref 8 67), (0, .nameAndType 68 6), (0, u "copyTableFToS"), (3, .methodref 8 73), (0, .nameAndType 74 6), (0, u "loadWorkNegatedF"), (0, .methodref 8 76), (0, .nameAndType 77 78), (0, u "firstSetInWork"), (0, u "()I"), (0, .methodref 8 80), (0, .nameAndType 81 82), (0, u "setResult"), (0, u "(II)V"), (0, .methodref 8 84), (0, .nameAndType 85 6), (0, u "loadWorkF"), (0, .methodref 8 87), (0, .nameAndType 88 6), (0, u "loadWorkDifference"), (0, .fieldref 8 90), (0, .nameAndType 91 32), (0, u "res"), (0, .fieldref 8 93), (0, .nameAndType 94 32), (0, u "wit"), (0, .methodref 8 96), (0, .nameAndType 97 98), (0, u "step"), (0, u "(II)I"), (0, .methodref 8 100), (0, .nameAndType 101 102), (0, u "storeTopIntoF"), (0, u "(I)V"), (0, .methodref 8 104), (0, .nameAndType 105 82), (0, u "pushLeaf"), (3, .methodref 8 110), (0, .nameAndType 111 82), (0, u "combineSlots"), (0, .methodref 8 113), (0, .nameAndType 114 115), (0, u "leafWord"), (0, u "(II)J"), (0, .long 18446744073709551615), (1, .methodref 8 119), (0, .nameAndType 120 121), (0, u "combine"), (0, u "(IJJ)J"), (0, .methodref 8 123), (0, .nameAndType 124 115), (0, u "varWord"), (0, .long 12297829382473034410), (1, .long 14757395258967641292), (1, .long 17361641481138401520), (1, .long 18374966859414961920), (1, .long 18446462603027742720), (1, .long 18446744069414584320), (1, .methodref 8 138), (0, .nameAndType 139 140), (0, u "lowestBit"), (0, u "(J)I"), (0, u "OK"), (2, u "ERR_ARG"), (1, u "ERR_FULL"), (1, u "ERR_UNDERFLOW"), (1, u "ERR_EMPTY"), (1, u "ERR_INCOMPLETE"), (1, u "ERR_NOSAVED"), (1, u "NONE"), (0, u "TAUTOLOGY"), (1, u "FALSIFIABLE"), (1, u "SATISFIABLE"), (1, u "UNSATISFIABLE"), (1, u "EQUIVALENT"), (1, u "DIFFERENT"), (1, u "T_FALSE"), (1, u "T_TRUE"), (1, u "T_NOT"), (1, u "T_AND"), (1, u "T_OR"), (1, u "T_IMP"), (1, u "T_EQV"), (1, u "T_XOR"), (1, u "NUM_VARS"), (0, u "NUM_MASKS"), (4, u "pushToken"), (1, u "clear"), (0, u "save"), (1, u "savedLength"), (5, u "prove"), (0, u "satisfy"), (0, u "equivalent"), (0, u "lastResult"), (0, u "witness")] 2

def k2c0 : Code := { maxStack := 2, maxLocals := 3, code := prog_1_method_1_code, exceptionTable := #[], attributes := #[] }
def k2m0 : Method := { name := "<init>", desc := "(I)V", sig := { parameters := [.int], returnType := none }, accessFlags := 1, code := some k2c0 }
def k2c1 : Code := { maxStack := 3, maxLocals := 3, code := prog_1_method_2_code, exceptionTable := #[], attributes := #[] }
def k2m1 : Method := { name := "pushToken", desc := "(I)I", sig := { parameters := [.int], returnType := some .int }, accessFlags := 1, code := some k2c1 }
def k2c2 : Code := { maxStack := 2, maxLocals := 1, code := prog_1_method_4_code, exceptionTable := #[], attributes := #[] }
def k2m2 : Method := { name := "clear", desc := "()V", sig := { parameters := [], returnType := none }, accessFlags := 1, code := some k2c2 }
def k2c3 : Code := { maxStack := 2, maxLocals := 1, code := prog_1_method_5_code, exceptionTable := #[], attributes := #[] }
def k2m3 : Method := { name := "save", desc := "()I", sig := { parameters := [], returnType := some .int }, accessFlags := 1, code := some k2c3 }
def k2c4 : Code := { maxStack := 1, maxLocals := 1, code := prog_1_method_7_code, exceptionTable := #[], attributes := #[] }
def k2m4 : Method := { name := "savedLength", desc := "()I", sig := { parameters := [], returnType := some .int }, accessFlags := 1, code := some k2c4 }
def k2c5 : Code := { maxStack := 3, maxLocals := 2, code := prog_1_method_13_code, exceptionTable := #[], attributes := #[] }
def k2m5 : Method := { name := "prove", desc := "()I", sig := { parameters := [], returnType := some .int }, accessFlags := 1, code := some k2c5 }
def k2c6 : Code := { maxStack := 3, maxLocals := 2, code := prog_1_method_14_code, exceptionTable := #[], attributes := #[] }
def k2m6 : Method := { name := "satisfy", desc := "()I", sig := { parameters := [], returnType := some .int }, accessFlags := 1, code := some k2c6 }
def k2c7 : Code := { maxStack := 3, maxLocals := 2, code := prog_1_method_15_code, exceptionTable := #[], attributes := #[] }
def k2m7 : Method := { name := "equivalent", desc := "()I", sig := { parameters := [], returnType := some .int }, accessFlags := 1, code := some k2c7 }
def k2c8 : Code := { maxStack := 1, maxLocals := 1, code := prog_1_method_16_code, exceptionTable := #[], attributes := #[] }
def k2m8 : Method := { name := "lastResult", desc := "()I", sig := { parameters := [], returnType := some .int }, accessFlags := 1, code := some k2c8 }
def k2c9 : Code := { maxStack := 1, maxLocals := 1, code := prog_1_method_17_code, exceptionTable := #[], attributes := #[] }
def k2m9 : Method := { name := "witness", desc := "()I", sig := { parameters := [], returnType := some .int }, accessFlags := 1, code := some k2c9 }
def k2c10 : Code := { maxStack := 2, maxLocals := 1, code := prog_1_method_18_code, exceptionTable := #[], attributes := #[] }
def k2m10 : Method := { name := "completeF", desc := "()Z", sig := { parameters := [], returnType := some .boolean }, accessFlags := 2, code := some k2c10 }
def k2c11 : Code := { maxStack := 2, maxLocals := 1, code := prog_1_method_19_code, exceptionTable := #[], attributes := #[] }
def k2m11 : Method := { name := "resetResult", desc := "()V", sig := { parameters := [], returnType := none }, accessFlags := 2, code := some k2c11 }
def k2c12 : Code := { maxStack := 2, maxLocals := 3, code := prog_1_method_20_code, exceptionTable := #[], attributes := #[] }
def k2m12 : Method := { name := "setResult", desc := "(II)V", sig := { parameters := [.int, .int], returnType := none }, accessFlags := 2, code := some k2c12 }
def k2c13 : Code := { maxStack := 2, maxLocals := 2, code := prog_1_method_21_code, exceptionTable := #[], attributes := #[] }
def k2m13 : Method := { name := "arity", desc := "(I)I", sig := { parameters := [.int], returnType := some .int }, accessFlags := 2, code := some k2c13 }
def k2c14 : Code := { maxStack := 4, maxLocals := 3, code := prog_1_method_22_code, exceptionTable := #[], attributes := #[] }
def k2m14 : Method := { name := "copyTokensToSaved", desc := "()V", sig := { parameters := [], returnType := none }, accessFlags := 2, code := some k2c14 }
def k2c15 : Code := { maxStack := 4, maxLocals := 2, code := prog_1_method_23_code, exceptionTable := #[], attributes := #[] }
def k2m15 : Method := { name := "copyTableFToS", desc := "()V", sig := { parameters := [], returnType := none }, accessFlags := 2, code := some k2c15 }
def k2c16 : Code := { maxStack := 3, maxLocals := 4, code := prog_1_method_24_code, exceptionTable := #[], attributes := #[] }
def k2m16 : Method := { name := "ensureTableF", desc := "()V", sig := { parameters := [], returnType := none }, accessFlags := 2, code := some k2c16 }
def k2c17 : Code := { maxStack := 4, maxLocals := 5, code := prog_1_method_25_code, exceptionTable := #[], attributes := #[] }
def k2m17 : Method := { name := "storeTopIntoF", desc := "(I)V", sig := { parameters := [.int], returnType := none }, accessFlags := 2, code := some k2c17 }
def k2c18 : Code := { maxStack := 4, maxLocals := 4, code := prog_1_method_26_code, exceptionTable := #[], attributes := #[] }
def k2m18 : Method := { name := "step", desc := "(II)I", sig := { parameters := [.int, .int], returnType := some .int }, accessFlags := 2, code := some k2c18 }
def k2c19 : Code := { maxStack := 5, maxLocals := 5, code := prog_1_method_27_code, exceptionTable := #[], attributes := #[] }
def k2m19 : Method := { name := "pushLeaf", desc := "(II)V", sig := { parameters := [.int, .int], returnType := none }, accessFlags := 2, code := some k2c19 }
def k2c20 : Code := { maxStack := 8, maxLocals := 9, code := prog_1_method_29_code, exceptionTable := #[], attributes := #[] }
def k2m20 : Method := { name := "combineSlots", desc := "(II)V", sig := { parameters := [.int, .int], returnType := none }, accessFlags := 2, code := some k2c20 }
def k2c21 : Code := { maxStack := 4, maxLocals := 6, code := prog_1_method_30_code, exceptionTable := #[], attributes := #[] }
def k2m21 : Method := { name := "combine", desc := "(IJJ)J", sig := { parameters := [.int, .long, .long], returnType := some .long }, accessFlags := 2, code := some k2c21 }
def k2c22 : Code := { maxStack := 3, maxLocals := 3, code := prog_1_method_31_code, exceptionTable := #[], attributes := #[] }
def k2m22 : Method := { name := "leafWord", desc := "(II)J", sig := { parameters := [.int, .int], returnType := some .long }, accessFlags := 2, code := some k2c22 }
def k2c23 : Code := { maxStack := 2, maxLocals := 3, code := prog_1_method_32_code, exceptionTable := #[], attributes := #[] }
def k2m23 : Method := { name := "varWord", desc := "(II)J", sig := { parameters := [.int, .int], returnType := some .long }, accessFlags := 2, code := some k2c23 }
def k2c24 : Code := { maxStack := 4, maxLocals := 2, code := prog_1_method_34_code, exceptionTable := #[], attributes := #[] }
def k2m24 : Method := { name := "loadWorkF", desc := "()V", sig := { parameters := [], returnType := none }, accessFlags := 2, code := some k2c24 }
def k2c25 : Code := { maxStack := 6, maxLocals := 2, code := prog_1_method_35_code, exceptionTable := #[], attributes := #[] }
def k2m25 : Method := { name := "loadWorkNegatedF", desc := "()V", sig := { parameters := [], returnType := none }, accessFlags := 2, code := some k2c25 }
def k2c26 : Code := { maxStack := 6, maxLocals := 2, code := prog_1_method_36_code, exceptionTable := #[], attributes := #[] }
def k2m26 : Method := { name := "loadWorkDifference", desc := "()V", sig := { parameters := [], returnType := none }, accessFlags := 2, code := some k2c26 }
def k2c27 : Code := { maxStack := 4, maxLocals := 4, code := prog_1_method_37_code, exceptionTable := #[], attributes := #[] }
def k2m27 : Method := { name := "firstSetInWork", desc := "()I", sig := { parameters := [], returnType := some .int }, accessFlags := 2, code := some k2c27 }
def k2c28 : Code := { maxStack := 4, maxLocals := 10, code := prog_1_method_38_code, exceptionTable := #[], attributes := #[] }
def k2m28 : Method := { name := "lowestBit", desc := "(J)I", sig := { parameters := [.long], returnType := some .int }, accessFlags := 2, code := some k2c28 }
/-- SaturProver -/
def k2 : Class := { plain "SaturProver" (some 0) with
  accessFlags := 49
  interfaces := #[]
  cf := some (fileOf pool2 8 #[] #[{ accessFlags := 1, nameIndex := 5, descriptorIndex := 102, attributes := #[] }, { accessFlags := 1, nameIndex := 191, descriptorIndex := 55, attributes := #[] }, { accessFlags := 1, nameIndex := 193, descriptorIndex := 6, attributes := #[] }, { accessFlags := 1, nameIndex := 194, descriptorIndex := 78, attributes := #[] }, { accessFlags := 1, nameIndex := 196, descriptorIndex := 78, attributes := #[] }, { accessFlags := 1, nameIndex := 202, descriptorIndex := 78, attributes := #[] }, { accessFlags := 1, nameIndex := 203, descriptorIndex := 78, attributes := #[] }, { accessFlags := 1, nameIndex := 204, descriptorIndex := 78, attributes := #[] }, { accessFlags := 1, nameIndex := 205, descriptorIndex := 78, attributes := #[] }, { accessFlags := 1, nameIndex := 206, descriptorIndex := 78, attributes := #[] }, { accessFlags := 2, nameIndex := 58, descriptorIndex := 59, attributes := #[] }, { accessFlags := 2, nameIndex := 51, descriptorIndex := 6, attributes := #[] }, { accessFlags := 2, nameIndex := 81, descriptorIndex := 82, attributes := #[] }, { accessFlags := 2, nameIndex := 54, descriptorIndex := 55, attributes := #[] }, { accessFlags := 2, nameIndex := 62, descriptorIndex := 6, attributes := #[] }, { accessFlags := 2, nameIndex := 68, descriptorIndex := 6, attributes := #[] }, { accessFlags := 2, nameIndex := 65, descriptorIndex := 6, attributes := #[] }, { accessFlags := 2, nameIndex := 101, descriptorIndex := 102, attributes := #[] }, { accessFlags := 2, nameIndex := 97, descriptorIndex := 98, attributes := #[] }, { accessFlags := 2, nameIndex := 105, descriptorIndex := 82, attributes := #[] }, { accessFlags := 2, nameIndex := 111, descriptorIndex := 82, attributes := #[] }, { accessFlags := 2, nameIndex := 120, descriptorIndex := 121, attributes := #[] }, { accessFlags := 2, nameIndex := 114, descriptorIndex := 115, attributes := #[] }, { accessFlags := 2, nameIndex := 124, descriptorIndex := 115, attributes := #[] }, { accessFlags := 2, nameIndex := 85, descriptorIndex := 6, attributes := #[] }, { accessFlags := 2, nameIndex := 74, descriptorIndex := 6, attributes := #[] }, { accessFlags := 2, nameIndex := 88, descriptorIndex := 6, attributes := #[] }, { accessFlags := 2, nameIndex := 77, descriptorIndex := 78, attributes := #[] }, { accessFlags := 2, nameIndex := 139, descriptorIndex := 140, attributes := #[] }] 49 2 #[] #[{ accessFlags := 25, nameIndex := 141, descriptorIndex := 32, attributes := #[] }, { accessFlags := 25, nameIndex := 144, descriptorIndex := 32, attributes := #[] }, { accessFlags := 25, nameIndex := 146, descriptorIndex := 32, attributes := #[] }, { accessFlags := 25, nameIndex := 148, descriptorIndex := 32, attributes := #[] }, { accessFlags := 25, nameIndex := 150, descriptorIndex := 32, attributes := #[] }, { accessFlags := 25, nameIndex := 152, descriptorIndex := 32, attributes := #[] }, { accessFlags := 25, nameIndex := 154, descriptorIndex := 32, attributes := #[] }, { accessFlags := 25, nameIndex := 156, descriptorIndex := 32, attributes := #[] }, { accessFlags := 25, nameIndex := 157, descriptorIndex := 32, attributes := #[] }, { accessFlags := 25, nameIndex := 159, descriptorIndex := 32, attributes := #[] }, { accessFlags := 25, nameIndex := 161, descriptorIndex := 32, attributes := #[] }, { accessFlags := 25, nameIndex := 163, descriptorIndex := 32, attributes := #[] }, { accessFlags := 25, nameIndex := 165, descriptorIndex := 32, attributes := #[] }, { accessFlags := 25, nameIndex := 167, descriptorIndex := 32, attributes := #[] }, { accessFlags := 25, nameIndex := 169, descriptorIndex := 32, attributes := #[] }, { accessFlags := 25, nameIndex := 171, descriptorIndex := 32, attributes := #[] }, { accessFlags := 25, nameIndex := 173, descriptorIndex := 32, attributes := #[] }, { accessFlags := 25, nameIndex := 175, descriptorIndex := 32, attributes := #[] }, { accessFlags := 25, nameIndex := 177, descriptorIndex := 32, attributes := #[] }, { accessFlags := 25, nameIndex := 179, descriptorIndex := 32, attributes := #[] }, { accessFlags := 25, nameIndex := 181, descriptorIndex := 32, attributes := #[] }, { accessFlags := 25, nameIndex := 183, descriptorIndex := 32, attributes := #[] }, { accessFlags := 25, nameIndex := 185, descriptorIndex := 32, attributes := #[] }, { accessFlags := 25, nameIndex := 186, descriptorIndex := 32, attributes := #[] }, { accessFlags := 2, nameIndex := 31, descriptorIndex := 32, attributes := #[] }, { accessFlags := 18, nameIndex := 11, descriptorIndex := 12, attributes := #[] }, { accessFlags := 2, nameIndex := 35, descriptorIndex := 32, attributes := #[] }, { accessFlags := 2, nameIndex := 38, descriptorIndex := 32, attributes := #[] }, { accessFlags := 18, nameIndex := 15, descriptorIndex := 12, attributes := #[] }, { accessFlags := 2, nameIndex := 41, descriptorIndex := 32, attributes := #[] }, { accessFlags := 2, nameIndex := 44, descriptorIndex := 45, attributes := #[] }, { accessFlags := 2, nameIndex := 91, descriptorIndex := 32, attributes := #[] }, { accessFlags := 2, nameIndex := 94, descriptorIndex := 32, attributes := #[] }, { accessFlags := 18, nameIndex := 18, descriptorIndex := 19, attributes := #[] }, { accessFlags := 18, nameIndex := 22, descriptorIndex := 19, attributes := #[] }, { accessFlags := 18, nameIndex := 25, descriptorIndex := 19, attributes := #[] }, { accessFlags := 2, nameIndex := 48, descriptorIndex := 45, attributes := #[] }, { accessFlags := 18, nameIndex := 28, descriptorIndex := 19, attributes := #[] }])
  fields := #[{ name := "OK", type := .int, accessFlags := 25, slot := 0, constantValue := 0 }, { name := "ERR_ARG", type := .int, accessFlags := 25, slot := 1, constantValue := 0 }, { name := "ERR_FULL", type := .int, accessFlags := 25, slot := 2, constantValue := 0 }, { name := "ERR_UNDERFLOW", type := .int, accessFlags := 25, slot := 3, constantValue := 0 }, { name := "ERR_EMPTY", type := .int, accessFlags := 25, slot := 4, constantValue := 0 }, { name := "ERR_INCOMPLETE", type := .int, accessFlags := 25, slot := 5, constantValue := 0 }, { name := "ERR_NOSAVED", type := .int, accessFlags := 25, slot := 6, constantValue := 0 }, { name := "NONE", type := .int, accessFlags := 25, slot := 7, constantValue := 0 }, { name := "TAUTOLOGY", type := .int, accessFlags := 25, slot := 8, constantValue := 0 }, { name := "FALSIFIABLE", type := .int, accessFlags := 25, slot := 9, constantValue := 0 }, { name := "SATISFIABLE", type := .int, accessFlags := 25, slot := 10, constantValue := 0 }, { name := "UNSATISFIABLE", type := .int, accessFlags := 25, slot := 11, constantValue := 0 }, { name := "EQUIVALENT", type := .int, accessFlags := 25, slot := 12, constantValue := 0 }, { name := "DIFFERENT", type := .int, accessFlags := 25, slot := 13, constantValue := 0 }, { name := "T_FALSE", type := .int, accessFlags := 25, slot := 14, constantValue := 0 }, { name := "T_TRUE", type := .int, accessFlags := 25, slot := 15, constantValue := 0 }, { name := "T_NOT", type := .int, accessFlags := 25, slot := 16, constantValue := 0 }, { name := "T_AND", type := .int, accessFlags := 25, slot := 17, constantValue := 0 }, { name := "T_OR", type := .int, accessFlags := 25, slot := 18, constantValue := 0 }, { name := "T_IMP", type := .int, accessFlags := 25, slot := 19, constantValue := 0 }, { name := "T_EQV", type := .int, accessFlags := 25, slot := 20, constantValue := 0 }, { name := "T_XOR", type := .int, accessFlags := 25, slot := 21, constantValue := 0 }, { name := "NUM_VARS", type := .int, accessFlags := 25, slot := 22, constantValue := 0 }, { name := "NUM_MASKS", type := .int, accessFlags := 25, slot := 23, constantValue := 0 }, { name := "cap", type := .int, accessFlags := 2, slot := 0, constantValue := 0 }, { name := "toks", type := (.array .int), accessFlags := 18, slot := 1, constantValue := 0 }, { name := "n", type := .int, accessFlags := 2, slot := 2, constantValue := 0 }, { name := "dep", type := .int, accessFlags := 2, slot := 3, constantValue := 0 }, { name := "saved", type := (.array .int), accessFlags := 18, slot := 4, constantValue := 0 }, { name := "sn", type := .int, accessFlags := 2, slot := 5, constantValue := 0 }, { name := "hasSaved", type := .boolean, accessFlags := 2, slot := 6, constantValue := 0 }, { name := "res", type := .int, accessFlags := 2, slot := 7, constantValue := 0 }, { name := "wit", type := .int, accessFlags := 2, slot := 8, constantValue := 0 }, { name := "stk", type := (.array .long), accessFlags := 18, slot := 9, constantValue := 0 }, { name := "tabF", type := (.array .long), accessFlags := 18, slot := 10, constantValue := 0 }, { name := "tabS", type := (.array .long), accessFlags := 18, slot := 11, constantValue := 0 }, { name := "fValid", type := .boolean, accessFlags := 2, slot := 12, constantValue := 0 }, { name := "work", type := (.array .long), accessFlags := 18, slot := 13, constantValue := 0 }]
  methods := #[k2m0, k2m1, k2m2, k2m3, k2m4, k2m5, k2m6, k2m7, k2m8, k2m9, k2m10, k2m11, k2m12, k2m13, k2m14, k2m15, k2m16, k2m17, k2m18, k2m19, k2m20, k2m21, k2m22, k2m23, k2m24, k2m25, k2m26, k2m27, k2m28]
  instanceTypes := #[.int, (.array .int), .int, .int, (.array .int), .int, .boolean, .int, .int, (.array .long), (.array .long), (.array .long), .boolean, (.array .long)]
  staticTypes := #[.int, .int, .int, .int, .int, .int, .int, .int, .int, .int, .int, .int, .int, .int, .int, .int, .int, .int, .int, .int, .int, .int, .int, .int]
  resolved := Array.replicate 209 none
  statics := none }

def pool3 : Array CpInfo := pool [(1, u "java/lang/Cloneable"), (0, .class_ 1), (0, u "java/lang/Object"), (0, .class_ 3)] 3

/-- java/lang/Cloneable -/
def k3 : Class := { plain "java/lang/Cloneable" (some 0) with
  accessFlags := 1537
  interfaces := #[]
  cf := some (fileOf pool3 2 #[] #[] 1537 4 #[] #[])
  fields := #[]
  methods := #[]
  instanceTypes := #[]
  staticTypes := #[]
  resolved := Array.replicate 8 none
  statics := none }

def pool4 : Array CpInfo := pool [(1, u "java/io/Serializable"), (0, .class_ 1), (0, u "java/lang/Object"), (0, .class_ 3)] 3

/-- java/io/Serializable -/
def k4 : Class := { plain "java/io/Serializable" (some 0) with
  accessFlags := 1537
  interfaces := #[]
  cf := some (fileOf pool4 2 #[] #[] 1537 4 #[] #[])
  fields := #[]
  methods := #[]
  instanceTypes := #[]
  staticTypes := #[]
  resolved := Array.replicate 8 none
  statics := none }

/-- the primitive byte -/
def k5 : Class := { plain "byte" none with kind := .primitive 'B', accessFlags := 0x411 }
/-- [B -/
def k6 : Class := { plain "[B" (some 0) with kind := .array 5 .byte, interfaces := #[3, 4], accessFlags := 1041 }

/-- the primitive int -/
def k7 : Class := { plain "int" none with kind := .primitive 'I', accessFlags := 0x411 }
/-- [I -/
def k8 : Class := { plain "[I" (some 0) with kind := .array 7 .int, interfaces := #[3, 4], accessFlags := 1041 }

/-- the primitive long -/
def k9 : Class := { plain "long" none with kind := .primitive 'J', accessFlags := 0x411 }
/-- [J -/
def k10 : Class := { plain "[J" (some 0) with kind := .array 9 .long, interfaces := #[3, 4], accessFlags := 1041 }

def heap : Heap := #[]
def classes : Array Class := #[k0, k1, k2, k3, k4, k5, k6, k7, k8, k9, k10]
def interned : List (Array UInt16 × Addr) := []
def slotsUsed : Nat := 0
def theMethod : MethodId := ⟨1, 3⟩
def args0 : Array Value := #[.int 3, .int 5, .int 1, .int 2]
def aboutOver (below : List Frame) : State where
  vm := { classes := classes, interned := interned.toArray }
  heap := heap
  slotsUsed := slotsUsed
  threads := #[{ frames := .invoking theMethod args0 :: below }]
def below0 : List Frame := [.native { method := ⟨0, 0⟩, args := #[] }]
def about1 : State := aboutOver below0
def p0 : Program := .bare "" "" ""
def e0 : Env := launch0.env 0 0 0
theorem w_frames : about1.frames = Frame.invoking theMethod args0 :: below0 := rfl
set_option maxRecDepth 65536 in
theorem w_args : argsFit about1.vm theMethod args0 = true := by decide +kernel
set_option maxRecDepth 65536 in
theorem w_heap : heapFits about1 = true := by decide +kernel
set_option maxRecDepth 65536 in
theorem w_runnable : about1.curStatus? = some .runnable := by decide +kernel
set_option maxRecDepth 65536 in
theorem w_alone : about1.alone = true := by decide +kernel
set_option maxRecDepth 65536 in
theorem w_named : about1.methodNamed? x = some theMethod := by decide +kernel
set_option maxRecDepth 65536 in
theorem w_hears : about1.hears theMethod below0 = true := by decide +kernel
set_option maxRecDepth 65536 in
theorem w_ripe : about1.ripe theMethod args0 below0 = true := by decide +kernel
theorem w_running : about1.status = .running := rfl
set_option maxRecDepth 65536 in
theorem w_room : about1.hasRoom e0.platform room_1 = true :=
  launch0.hasRoom_least _ room_1 (by decide +kernel) (by decide +kernel) (by decide +kernel) (by decide +kernel) (by decide +kernel) (by decide +kernel)
theorem allAtoms_all (ts : List Jvm.Cond) (a : Array Jvm.Value) (st : Jvm.State) : (allAtoms ts).before a st = ts.all (fun c => c.before a st) := by
  induction ts with
  | nil => rfl
  | cons c t ih =>
    show (Jvm.Cond.and c (allAtoms t)).before a st = _
    rw [Jvm.Cond.before_and, ih, List.all_cons]
def words1 : List Jvm.Cond := Jvm.Cond.code x code maxLocals ret :: tables_1
/-- a 'code' word, met by the world's own term for the bytes: nothing is compared byte by byte -/
theorem code_word {y : MethodName} {bytes : ByteArray} {mx : Nat} {rt : Option FieldType} {a : Array Value} {s : State} {m : MethodId} {meth : Method} {c : Code} (h1 : s.methodNamed? y = some m) (h2 : s.vm.method? m = some meth) (h3 : meth.code = some c) (h4 : c.code = bytes)
    (h5 : (c.maxLocals == mx && c.exceptionTable.isEmpty && decide (c.maxStack ≤ mostOperands) && decide (meth.sig.returnType = rt) && !meth.locks && decide (parseMethodDescriptor y.desc = some meth.sig)) = true) : (Jvm.Cond.code y bytes mx rt).before a s = true := by
  simp only [Bool.and_eq_true, beq_iff_eq, Bool.not_eq_true', decide_eq_true_eq] at h5
  obtain ⟨⟨⟨⟨⟨g1, g2⟩, g3⟩, g4⟩, g5⟩, g6⟩ := h5
  simp [Cond.before, Cond.holds, Cond.value, h1, h2, h3, h4, g1, g2, g3, g4, g5, g6]
def isCode : Jvm.Cond → Bool
  | .code _ _ _ _ => true
  | _ => false
theorem all_split {L : List Jvm.Cond} {P : Jvm.Cond → Bool} (h1 : L.all (fun c => isCode c || P c) = true) (h2 : ∀ c ∈ L.filter isCode, P c = true) : L.all P = true := by
  refine List.all_eq_true.mpr fun c hc => ?_
  have h := List.all_eq_true.mp h1 c hc
  rcases Bool.eq_false_or_eq_true (isCode c) with hi | hi
  · exact h2 c (List.mem_filter.mpr ⟨hc, hi⟩)
  · simpa [hi] using h
set_option maxRecDepth 65536 in
theorem w_c0 : (Jvm.Cond.code x code maxLocals ret).before args0 about1 = true := code_word (m := ⟨1, 3⟩) (meth := k1m3) (c := k1c3) (by decide +kernel) rfl rfl rfl (by decide +kernel)
set_option maxRecDepth 65536 in
theorem w_c1 : (Jvm.Cond.code ({ cls := "SaturProverL3", name := "pick", desc := "(I)I" } : Jvm.MethodName) method_3_code (2 : Nat) (Option.some Jvm.ClassFile.FieldType.int)).before args0 about1 = true := code_word (m := ⟨1, 2⟩) (meth := k1m2) (c := k1c2) (by decide +kernel) rfl rfl rfl (by decide +kernel)
set_option maxRecDepth 65536 in
theorem w_c2 : (Jvm.Cond.code ({ cls := "SaturProverL3", name := "f", desc := "(III)I" } : Jvm.MethodName) method_2_code (3 : Nat) (Option.some Jvm.ClassFile.FieldType.int)).before args0 about1 = true := code_word (m := ⟨1, 1⟩) (meth := k1m1) (c := k1c1) (by decide +kernel) rfl rfl rfl (by decide +kernel)
set_option maxRecDepth 65536 in
theorem w_c3 : (Jvm.Cond.code ({ cls := "SaturProver", name := "<init>", desc := "(I)V" } : Jvm.MethodName) prog_1_method_1_code (3 : Nat) (Option.none : Option Jvm.ClassFile.FieldType)).before args0 about1 = true := code_word (m := ⟨2, 0⟩) (meth := k2m0) (c := k2c0) (by decide +kernel) rfl rfl rfl (by decide +kernel)
set_option maxRecDepth 65536 in
theorem w_c4 : (Jvm.Cond.code ({ cls := "java/lang/Object", name := "<init>", desc := "()V" } : Jvm.MethodName) object_method_1_code (1 : Nat) (Option.none : Option Jvm.ClassFile.FieldType)).before args0 about1 = true := code_word (m := ⟨0, 0⟩) (meth := k0m0) (c := k0c0) (by decide +kernel) rfl rfl rfl (by decide +kernel)
set_option maxRecDepth 65536 in
theorem w_c5 : (Jvm.Cond.code ({ cls := "SaturProver", name := "resetResult", desc := "()V" } : Jvm.MethodName) prog_1_method_19_code (1 : Nat) (Option.none : Option Jvm.ClassFile.FieldType)).before args0 about1 = true := code_word (m := ⟨2, 11⟩) (meth := k2m11) (c := k2c11) (by decide +kernel) rfl rfl rfl (by decide +kernel)
set_option maxRecDepth 65536 in
theorem w_c6 : (Jvm.Cond.code ({ cls := "SaturProver", name := "pushToken", desc := "(I)I" } : Jvm.MethodName) prog_1_method_2_code (3 : Nat) (Option.some Jvm.ClassFile.FieldType.int)).before args0 about1 = true := code_word (m := ⟨2, 1⟩) (meth := k2m1) (c := k2c1) (by decide +kernel) rfl rfl rfl (by decide +kernel)
set_option maxRecDepth 65536 in
theorem w_c7 : (Jvm.Cond.code ({ cls := "SaturProver", name := "arity", desc := "(I)I" } : Jvm.MethodName) prog_1_method_21_code (2 : Nat) (Option.some Jvm.ClassFile.FieldType.int)).before args0 about1 = true := code_word (m := ⟨2, 13⟩) (meth := k2m13) (c := k2c13) (by decide +kernel) rfl rfl rfl (by decide +kernel)
set_option maxRecDepth 65536 in
theorem w_c8 : (Jvm.Cond.code ({ cls := "SaturProver", name := "prove", desc := "()I" } : Jvm.MethodName) prog_1_method_13_code (2 : Nat) (Option.some Jvm.ClassFile.FieldType.int)).before args0 about1 = true := code_word (m := ⟨2, 5⟩) (meth := k2m5) (c := k2c5) (by decide +kernel) rfl rfl rfl (by decide +kernel)
set_option maxRecDepth 65536 in
theorem w_c9 : (Jvm.Cond.code ({ cls := "SaturProver", name := "completeF", desc := "()Z" } : Jvm.MethodName) prog_1_method_18_code (1 : Nat) (Option.some Jvm.ClassFile.FieldType.boolean)).before args0 about1 = true := code_word (m := ⟨2, 10⟩) (meth := k2m10) (c := k2c10) (by decide +kernel) rfl rfl rfl (by decide +kernel)
set_option maxRecDepth 65536 in
theorem w_c10 : (Jvm.Cond.code ({ cls := "SaturProver", name := "ensureTableF", desc := "()V" } : Jvm.MethodName) prog_1_method_24_code (4 : Nat) (Option.none : Option Jvm.ClassFile.FieldType)).before args0 about1 = true := code_word (m := ⟨2, 16⟩) (meth := k2m16) (c := k2c16) (by decide +kernel) rfl rfl rfl (by decide +kernel)
set_option maxRecDepth 65536 in
theorem w_c11 : (Jvm.Cond.code ({ cls := "SaturProver", name := "step", desc := "(II)I" } : Jvm.MethodName) prog_1_method_26_code (4 : Nat) (Option.some Jvm.ClassFile.FieldType.int)).before args0 about1 = true := code_word (m := ⟨2, 18⟩) (meth := k2m18) (c := k2c18) (by decide +kernel) rfl rfl rfl (by decide +kernel)
set_option maxRecDepth 65536 in
theorem w_c12 : (Jvm.Cond.code ({ cls := "SaturProver", name := "pushLeaf", desc := "(II)V" } : Jvm.MethodName) prog_1_method_27_code (5 : Nat) (Option.none : Option Jvm.ClassFile.FieldType)).before args0 about1 = true := code_word (m := ⟨2, 19⟩) (meth := k2m19) (c := k2c19) (by decide +kernel) rfl rfl rfl (by decide +kernel)
set_option maxRecDepth 65536 in
theorem w_c13 : (Jvm.Cond.code ({ cls := "SaturProver", name := "leafWord", desc := "(II)J" } : Jvm.MethodName) prog_1_method_31_code (3 : Nat) (Option.some Jvm.ClassFile.FieldType.long)).before args0 about1 = true := code_word (m := ⟨2, 22⟩) (meth := k2m22) (c := k2c22) (by decide +kernel) rfl rfl rfl (by decide +kernel)
set_option maxRecDepth 65536 in
theorem w_c14 : (Jvm.Cond.code ({ cls := "SaturProver", name := "varWord", desc := "(II)J" } : Jvm.MethodName) prog_1_method_32_code (3 : Nat) (Option.some Jvm.ClassFile.FieldType.long)).before args0 about1 = true := code_word (m := ⟨2, 23⟩) (meth := k2m23) (c := k2c23) (by decide +kernel) rfl rfl rfl (by decide +kernel)
set_option maxRecDepth 65536 in
theorem w_c15 : (Jvm.Cond.code ({ cls := "SaturProver", name := "combineSlots", desc := "(II)V" } : Jvm.MethodName) prog_1_method_29_code (9 : Nat) (Option.none : Option Jvm.ClassFile.FieldType)).before args0 about1 = true := code_word (m := ⟨2, 20⟩) (meth := k2m20) (c := k2c20) (by decide +kernel) rfl rfl rfl (by decide +kernel)
set_option maxRecDepth 65536 in
theorem w_c16 : (Jvm.Cond.code ({ cls := "SaturProver", name := "combine", desc := "(IJJ)J" } : Jvm.MethodName) prog_1_method_30_code (6 : Nat) (Option.some Jvm.ClassFile.FieldType.long)).before args0 about1 = true := code_word (m := ⟨2, 21⟩) (meth := k2m21) (c := k2c21) (by decide +kernel) rfl rfl rfl (by decide +kernel)
set_option maxRecDepth 65536 in
theorem w_c17 : (Jvm.Cond.code ({ cls := "SaturProver", name := "storeTopIntoF", desc := "(I)V" } : Jvm.MethodName) prog_1_method_25_code (5 : Nat) (Option.none : Option Jvm.ClassFile.FieldType)).before args0 about1 = true := code_word (m := ⟨2, 17⟩) (meth := k2m17) (c := k2c17) (by decide +kernel) rfl rfl rfl (by decide +kernel)
set_option maxRecDepth 65536 in
theorem w_c18 : (Jvm.Cond.code ({ cls := "SaturProver", name := "loadWorkNegatedF", desc := "()V" } : Jvm.MethodName) prog_1_method_35_code (2 : Nat) (Option.none : Option Jvm.ClassFile.FieldType)).before args0 about1 = true := code_word (m := ⟨2, 25⟩) (meth := k2m25) (c := k2c25) (by decide +kernel) rfl rfl rfl (by decide +kernel)
set_option maxRecDepth 65536 in
theorem w_c19 : (Jvm.Cond.code ({ cls := "SaturProver", name := "firstSetInWork", desc := "()I" } : Jvm.MethodName) prog_1_method_37_code (4 : Nat) (Option.some Jvm.ClassFile.FieldType.int)).before args0 about1 = true := code_word (m := ⟨2, 27⟩) (meth := k2m27) (c := k2c27) (by decide +kernel) rfl rfl rfl (by decide +kernel)
set_option maxRecDepth 65536 in
theorem w_c20 : (Jvm.Cond.code ({ cls := "SaturProver", name := "lowestBit", desc := "(J)I" } : Jvm.MethodName) prog_1_method_38_code (10 : Nat) (Option.some Jvm.ClassFile.FieldType.int)).before args0 about1 = true := code_word (m := ⟨2, 28⟩) (meth := k2m28) (c := k2c28) (by decide +kernel) rfl rfl rfl (by decide +kernel)
set_option maxRecDepth 65536 in
theorem w_c21 : (Jvm.Cond.code ({ cls := "SaturProver", name := "setResult", desc := "(II)V" } : Jvm.MethodName) prog_1_method_20_code (3 : Nat) (Option.none : Option Jvm.ClassFile.FieldType)).before args0 about1 = true := code_word (m := ⟨2, 12⟩) (meth := k2m12) (c := k2c12) (by decide +kernel) rfl rfl rfl (by decide +kernel)
set_option maxRecDepth 65536 in
theorem w_c22 : (Jvm.Cond.code ({ cls := "SaturProver", name := "lastResult", desc := "()I" } : Jvm.MethodName) prog_1_method_16_code (1 : Nat) (Option.some Jvm.ClassFile.FieldType.int)).before args0 about1 = true := code_word (m := ⟨2, 8⟩) (meth := k2m8) (c := k2c8) (by decide +kernel) rfl rfl rfl (by decide +kernel)
set_option maxRecDepth 65536 in
theorem w_c23 : (Jvm.Cond.code ({ cls := "SaturProver", name := "witness", desc := "()I" } : Jvm.MethodName) prog_1_method_17_code (1 : Nat) (Option.some Jvm.ClassFile.FieldType.int)).before args0 about1 = true := code_word (m := ⟨2, 9⟩) (meth := k2m9) (c := k2c9) (by decide +kernel) rfl rfl rfl (by decide +kernel)
set_option maxRecDepth 65536 in
theorem w_c24 : (Jvm.Cond.code ({ cls := "SaturProver", name := "satisfy", desc := "()I" } : Jvm.MethodName) prog_1_method_14_code (2 : Nat) (Option.some Jvm.ClassFile.FieldType.int)).before args0 about1 = true := code_word (m := ⟨2, 6⟩) (meth := k2m6) (c := k2c6) (by decide +kernel) rfl rfl rfl (by decide +kernel)
set_option maxRecDepth 65536 in
theorem w_c25 : (Jvm.Cond.code ({ cls := "SaturProver", name := "loadWorkF", desc := "()V" } : Jvm.MethodName) prog_1_method_34_code (2 : Nat) (Option.none : Option Jvm.ClassFile.FieldType)).before args0 about1 = true := code_word (m := ⟨2, 24⟩) (meth := k2m24) (c := k2c24) (by decide +kernel) rfl rfl rfl (by decide +kernel)
set_option maxRecDepth 65536 in
theorem w_c26 : (Jvm.Cond.code ({ cls := "SaturProver", name := "save", desc := "()I" } : Jvm.MethodName) prog_1_method_5_code (1 : Nat) (Option.some Jvm.ClassFile.FieldType.int)).before args0 about1 = true := code_word (m := ⟨2, 3⟩) (meth := k2m3) (c := k2c3) (by decide +kernel) rfl rfl rfl (by decide +kernel)
set_option maxRecDepth 65536 in
theorem w_c27 : (Jvm.Cond.code ({ cls := "SaturProver", name := "copyTokensToSaved", desc := "()V" } : Jvm.MethodName) prog_1_method_22_code (3 : Nat) (Option.none : Option Jvm.ClassFile.FieldType)).before args0 about1 = true := code_word (m := ⟨2, 14⟩) (meth := k2m14) (c := k2c14) (by decide +kernel) rfl rfl rfl (by decide +kernel)
set_option maxRecDepth 65536 in
theorem w_c28 : (Jvm.Cond.code ({ cls := "SaturProver", name := "copyTableFToS", desc := "()V" } : Jvm.MethodName) prog_1_method_23_code (2 : Nat) (Option.none : Option Jvm.ClassFile.FieldType)).before args0 about1 = true := code_word (m := ⟨2, 15⟩) (meth := k2m15) (c := k2c15) (by decide +kernel) rfl rfl rfl (by decide +kernel)
set_option maxRecDepth 65536 in
theorem w_c29 : (Jvm.Cond.code ({ cls := "SaturProver", name := "savedLength", desc := "()I" } : Jvm.MethodName) prog_1_method_7_code (1 : Nat) (Option.some Jvm.ClassFile.FieldType.int)).before args0 about1 = true := code_word (m := ⟨2, 4⟩) (meth := k2m4) (c := k2c4) (by decide +kernel) rfl rfl rfl (by decide +kernel)
set_option maxRecDepth 65536 in
theorem w_c30 : (Jvm.Cond.code ({ cls := "SaturProver", name := "clear", desc := "()V" } : Jvm.MethodName) prog_1_method_4_code (1 : Nat) (Option.none : Option Jvm.ClassFile.FieldType)).before args0 about1 = true := code_word (m := ⟨2, 2⟩) (meth := k2m2) (c := k2c2) (by decide +kernel) rfl rfl rfl (by decide +kernel)
set_option maxRecDepth 65536 in
theorem w_c31 : (Jvm.Cond.code ({ cls := "SaturProver", name := "equivalent", desc := "()I" } : Jvm.MethodName) prog_1_method_15_code (2 : Nat) (Option.some Jvm.ClassFile.FieldType.int)).before args0 about1 = true := code_word (m := ⟨2, 7⟩) (meth := k2m7) (c := k2c7) (by decide +kernel) rfl rfl rfl (by decide +kernel)
set_option maxRecDepth 65536 in
theorem w_c32 : (Jvm.Cond.code ({ cls := "SaturProver", name := "loadWorkDifference", desc := "()V" } : Jvm.MethodName) prog_1_method_36_code (2 : Nat) (Option.none : Option Jvm.ClassFile.FieldType)).before args0 about1 = true := code_word (m := ⟨2, 26⟩) (meth := k2m26) (c := k2c26) (by decide +kernel) rfl rfl rfl (by decide +kernel)
def codes1 : List Jvm.Cond := [Jvm.Cond.code x code maxLocals ret, Jvm.Cond.code ({ cls := "SaturProverL3", name := "pick", desc := "(I)I" } : Jvm.MethodName) method_3_code (2 : Nat) (Option.some Jvm.ClassFile.FieldType.int), Jvm.Cond.code ({ cls := "SaturProverL3", name := "f", desc := "(III)I" } : Jvm.MethodName) method_2_code (3 : Nat) (Option.some Jvm.ClassFile.FieldType.int), Jvm.Cond.code ({ cls := "SaturProver", name := "<init>", desc := "(I)V" } : Jvm.MethodName) prog_1_method_1_code (3 : Nat) (Option.none : Option Jvm.ClassFile.FieldType), Jvm.Cond.code ({ cls := "java/lang/Object", name := "<init>", desc := "()V" } : Jvm.MethodName) object_method_1_code (1 : Nat) (Option.none : Option Jvm.ClassFile.FieldType), Jvm.Cond.code ({ cls := "SaturProver", name := "resetResult", desc := "()V" } : Jvm.MethodName) prog_1_method_19_code (1 : Nat) (Option.none : Option Jvm.ClassFile.FieldType), Jvm.Cond.code ({ cls := "SaturProver", name := "pushToken", desc := "(I)I" } : Jvm.MethodName) prog_1_method_2_code (3 : Nat) (Option.some Jvm.ClassFile.FieldType.int), Jvm.Cond.code ({ cls := "SaturProver", name := "arity", desc := "(I)I" } : Jvm.MethodName) prog_1_method_21_code (2 : Nat) (Option.some Jvm.ClassFile.FieldType.int), Jvm.Cond.code ({ cls := "SaturProver", name := "prove", desc := "()I" } : Jvm.MethodName) prog_1_method_13_code (2 : Nat) (Option.some Jvm.ClassFile.FieldType.int), Jvm.Cond.code ({ cls := "SaturProver", name := "completeF", desc := "()Z" } : Jvm.MethodName) prog_1_method_18_code (1 : Nat) (Option.some Jvm.ClassFile.FieldType.boolean), Jvm.Cond.code ({ cls := "SaturProver", name := "ensureTableF", desc := "()V" } : Jvm.MethodName) prog_1_method_24_code (4 : Nat) (Option.none : Option Jvm.ClassFile.FieldType), Jvm.Cond.code ({ cls := "SaturProver", name := "step", desc := "(II)I" } : Jvm.MethodName) prog_1_method_26_code (4 : Nat) (Option.some Jvm.ClassFile.FieldType.int), Jvm.Cond.code ({ cls := "SaturProver", name := "pushLeaf", desc := "(II)V" } : Jvm.MethodName) prog_1_method_27_code (5 : Nat) (Option.none : Option Jvm.ClassFile.FieldType), Jvm.Cond.code ({ cls := "SaturProver", name := "leafWord", desc := "(II)J" } : Jvm.MethodName) prog_1_method_31_code (3 : Nat) (Option.some Jvm.ClassFile.FieldType.long), Jvm.Cond.code ({ cls := "SaturProver", name := "varWord", desc := "(II)J" } : Jvm.MethodName) prog_1_method_32_code (3 : Nat) (Option.some Jvm.ClassFile.FieldType.long), Jvm.Cond.code ({ cls := "SaturProver", name := "combineSlots", desc := "(II)V" } : Jvm.MethodName) prog_1_method_29_code (9 : Nat) (Option.none : Option Jvm.ClassFile.FieldType), Jvm.Cond.code ({ cls := "SaturProver", name := "combine", desc := "(IJJ)J" } : Jvm.MethodName) prog_1_method_30_code (6 : Nat) (Option.some Jvm.ClassFile.FieldType.long), Jvm.Cond.code ({ cls := "SaturProver", name := "storeTopIntoF", desc := "(I)V" } : Jvm.MethodName) prog_1_method_25_code (5 : Nat) (Option.none : Option Jvm.ClassFile.FieldType), Jvm.Cond.code ({ cls := "SaturProver", name := "loadWorkNegatedF", desc := "()V" } : Jvm.MethodName) prog_1_method_35_code (2 : Nat) (Option.none : Option Jvm.ClassFile.FieldType), Jvm.Cond.code ({ cls := "SaturProver", name := "firstSetInWork", desc := "()I" } : Jvm.MethodName) prog_1_method_37_code (4 : Nat) (Option.some Jvm.ClassFile.FieldType.int), Jvm.Cond.code ({ cls := "SaturProver", name := "lowestBit", desc := "(J)I" } : Jvm.MethodName) prog_1_method_38_code (10 : Nat) (Option.some Jvm.ClassFile.FieldType.int), Jvm.Cond.code ({ cls := "SaturProver", name := "setResult", desc := "(II)V" } : Jvm.MethodName) prog_1_method_20_code (3 : Nat) (Option.none : Option Jvm.ClassFile.FieldType), Jvm.Cond.code ({ cls := "SaturProver", name := "lastResult", desc := "()I" } : Jvm.MethodName) prog_1_method_16_code (1 : Nat) (Option.some Jvm.ClassFile.FieldType.int), Jvm.Cond.code ({ cls := "SaturProver", name := "witness", desc := "()I" } : Jvm.MethodName) prog_1_method_17_code (1 : Nat) (Option.some Jvm.ClassFile.FieldType.int), Jvm.Cond.code ({ cls := "SaturProver", name := "satisfy", desc := "()I" } : Jvm.MethodName) prog_1_method_14_code (2 : Nat) (Option.some Jvm.ClassFile.FieldType.int), Jvm.Cond.code ({ cls := "SaturProver", name := "loadWorkF", desc := "()V" } : Jvm.MethodName) prog_1_method_34_code (2 : Nat) (Option.none : Option Jvm.ClassFile.FieldType), Jvm.Cond.code ({ cls := "SaturProver", name := "save", desc := "()I" } : Jvm.MethodName) prog_1_method_5_code (1 : Nat) (Option.some Jvm.ClassFile.FieldType.int), Jvm.Cond.code ({ cls := "SaturProver", name := "copyTokensToSaved", desc := "()V" } : Jvm.MethodName) prog_1_method_22_code (3 : Nat) (Option.none : Option Jvm.ClassFile.FieldType), Jvm.Cond.code ({ cls := "SaturProver", name := "copyTableFToS", desc := "()V" } : Jvm.MethodName) prog_1_method_23_code (2 : Nat) (Option.none : Option Jvm.ClassFile.FieldType), Jvm.Cond.code ({ cls := "SaturProver", name := "savedLength", desc := "()I" } : Jvm.MethodName) prog_1_method_7_code (1 : Nat) (Option.some Jvm.ClassFile.FieldType.int), Jvm.Cond.code ({ cls := "SaturProver", name := "clear", desc := "()V" } : Jvm.MethodName) prog_1_method_4_code (1 : Nat) (Option.none : Option Jvm.ClassFile.FieldType), Jvm.Cond.code ({ cls := "SaturProver", name := "equivalent", desc := "()I" } : Jvm.MethodName) prog_1_method_15_code (2 : Nat) (Option.some Jvm.ClassFile.FieldType.int), Jvm.Cond.code ({ cls := "SaturProver", name := "loadWorkDifference", desc := "()V" } : Jvm.MethodName) prog_1_method_36_code (2 : Nat) (Option.none : Option Jvm.ClassFile.FieldType)]
set_option maxRecDepth 65536 in
theorem codes_eq : words1.filter isCode = codes1 := rfl
theorem w_codes : ∀ c ∈ words1.filter isCode, c.before args0 about1 = true := by
  rw [codes_eq]
  intro c hc
  simp only [codes1, List.mem_cons, List.not_mem_nil, or_false] at hc
  rcases hc with rfl | rfl | rfl | rfl | rfl | rfl | rfl | rfl | rfl | rfl | rfl | rfl | rfl | rfl | rfl | rfl | rfl | rfl | rfl | rfl | rfl | rfl | rfl | rfl | rfl | rfl | rfl | rfl | rfl | rfl | rfl | rfl | rfl
  · exact w_c0
  · exact w_c1
  · exact w_c2
  · exact w_c3
  · exact w_c4
  · exact w_c5
  · exact w_c6
  · exact w_c7
  · exact w_c8
  · exact w_c9
  · exact w_c10
  · exact w_c11
  · exact w_c12
  · exact w_c13
  · exact w_c14
  · exact w_c15
  · exact w_c16
  · exact w_c17
  · exact w_c18
  · exact w_c19
  · exact w_c20
  · exact w_c21
  · exact w_c22
  · exact w_c23
  · exact w_c24
  · exact w_c25
  · exact w_c26
  · exact w_c27
  · exact w_c28
  · exact w_c29
  · exact w_c30
  · exact w_c31
  · exact w_c32
set_option maxRecDepth 65536 in
theorem w_t1 : (words1.take 24).all (fun c => isCode c || c.before args0 about1) = true := by decide +kernel
set_option maxRecDepth 65536 in
theorem w_t2 : ((words1.drop 24).take 24).all (fun c => isCode c || c.before args0 about1) = true := by decide +kernel
set_option maxRecDepth 65536 in
theorem w_t3 : (((words1.drop 24).drop 24).take 24).all (fun c => isCode c || c.before args0 about1) = true := by decide +kernel
set_option maxRecDepth 65536 in
theorem w_t4 : ((((words1.drop 24).drop 24).drop 24).take 24).all (fun c => isCode c || c.before args0 about1) = true := by decide +kernel
set_option maxRecDepth 65536 in
theorem w_t5 : (((((words1.drop 24).drop 24).drop 24).drop 24).take 24).all (fun c => isCode c || c.before args0 about1) = true := by decide +kernel
set_option maxRecDepth 65536 in
theorem w_t6 : ((((((words1.drop 24).drop 24).drop 24).drop 24).drop 24).take 24).all (fun c => isCode c || c.before args0 about1) = true := by decide +kernel
set_option maxRecDepth 65536 in
theorem w_t7 : (((((((words1.drop 24).drop 24).drop 24).drop 24).drop 24).drop 24).take 24).all (fun c => isCode c || c.before args0 about1) = true := by decide +kernel
set_option maxRecDepth 65536 in
theorem w_t8 : (((((((words1.drop 24).drop 24).drop 24).drop 24).drop 24).drop 24).drop 24).all (fun c => isCode c || c.before args0 about1) = true := by decide +kernel
theorem w_tables : (allAtoms (Jvm.Cond.code x code maxLocals ret :: tables_1)).before args0 about1 = true := by
  rw [allAtoms_all]
  show words1.all (fun c => c.before args0 about1) = true
  refine all_split ?_ w_codes
  rw [← List.take_append_drop 24 words1, List.all_append, w_t1, ← List.take_append_drop 24 (words1.drop 24), List.all_append, w_t2, ← List.take_append_drop 24 ((words1.drop 24).drop 24), List.all_append, w_t3, ← List.take_append_drop 24 (((words1.drop 24).drop 24).drop 24), List.all_append, w_t4, ← List.take_append_drop 24 ((((words1.drop 24).drop 24).drop 24).drop 24), List.all_append, w_t5, ← List.take_append_drop 24 (((((words1.drop 24).drop 24).drop 24).drop 24).drop 24), List.all_append, w_t6, ← List.take_append_drop 24 ((((((words1.drop 24).drop 24).drop 24).drop 24).drop 24).drop 24), List.all_append, w_t7, w_t8]
  rfl
set_option maxRecDepth 65536 in
theorem w_case : (Jvm.Cond.and given_1 narrow_1).before args0 about1 = true := by decide +kernel
theorem w_applies : (headSpec (Jvm.Cond.code x code maxLocals ret :: tables_1) room_1).applies x e0.platform about1 = true :=
  (Spec.applies_iff w_frames).mpr ⟨w_running, w_runnable, w_alone, w_named, w_hears, w_ripe, w_room, w_tables⟩
theorem atStart : AtStart classFile x code maxLocals ret World_1 tables_1 room_1 Calls_1 rest_1 Pre_1 launch0 p0 e0 about1 theMethod args0 below0 :=
  ⟨lists_1, trivial, launch0.admits_env _ _ _, launch0.least_env, fairChoices_fair.cas, fairChoices_fair.clock, w_frames, w_args, w_heap, w_applies, trivial, trivial, w_case⟩
end start1
theorem witness_1 : WitnessClaimed_1 := ⟨start1.p0, start1.e0, start1.about1, start1.theMethod, start1.args0, start1.below0, start1.atStart⟩
end Jvm.Pilot.@@N@@
