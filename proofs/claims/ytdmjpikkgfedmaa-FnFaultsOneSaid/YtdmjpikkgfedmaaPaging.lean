/- Plain law of paging: Belady's rule is optimal, the recency stack, monotony. No program in sight. -/
namespace Xp

/-- runP f used goes t held: the number of faults of a demand pager with f frames. -/
def runP (f : Nat) (used : List Int → Int → List Int) (goes : List Int → List Int → Nat) : List Int → List Int → Nat
  | [], _ => 0
  | p :: t, held =>
    if p ∈ held then runP f used goes t (used held p)
    else 1 + runP f used goes t ((if held.length = f then held.eraseIdx (goes held (p :: t)) else held) ++ [p])

theorem nodup_snoc {S : List Int} {p : Int} (hS : S.Nodup) (hp : p ∉ S) : (S ++ [p]).Nodup := (List.perm_append_comm (l₁ := [p]) (l₂ := S)).nodup_iff.1 (List.nodup_cons.2 ⟨hp, hS⟩)
theorem nodup_rev {S : List Int} (hS : S.Nodup) : S.reverse.Nodup := (List.reverse_perm S).nodup_iff.2 hS

/-- Can f t S n: from the pages S, some demand schedule with f frames has at most n faults. -/
def Can (f : Nat) : List Int → List Int → Nat → Prop
  | [], _, _ => True
  | p :: t, S, n =>
    (p ∈ S ∧ Can f t S n) ∨
    (p ∉ S ∧ ∃ m, n = m + 1 ∧ ((S.length < f ∧ Can f t (p :: S) m) ∨ (S.length = f ∧ ∃ v, v ∈ S ∧ Can f t (p :: S.erase v) m)))

theorem can_perm {f : Nat} : ∀ (t : List Int) {S S' : List Int} {n : Nat}, S.Perm S' → Can f t S n → Can f t S' n
  | [], _, _, _, _, _ => trivial
  | p :: t, S, S', n, hp, h => by
    rcases h with ⟨hm, h⟩ | ⟨hm, m, rfl, h⟩
    · exact .inl ⟨hp.mem_iff.1 hm, can_perm t hp h⟩
    · refine .inr ⟨fun h => hm (hp.mem_iff.2 h), m, rfl, ?_⟩
      rcases h with ⟨hl, h⟩ | ⟨hl, v, hv, h⟩
      · exact .inl ⟨by rw [← hp.length_eq]; exact hl, can_perm t (hp.cons p) h⟩
      · exact .inr ⟨by rw [← hp.length_eq]; exact hl, v, hp.mem_iff.1 hv, can_perm t ((hp.erase v).cons p) h⟩

theorem can_mono {f : Nat} : ∀ (t : List Int) {S : List Int} {n n' : Nat}, n ≤ n' → Can f t S n → Can f t S n'
  | [], _, _, _, _, _ => trivial
  | p :: t, S, n, n', hn, h => by
    rcases h with ⟨hm, h⟩ | ⟨hm, m, rfl, h⟩
    · exact .inl ⟨hm, can_mono t hn h⟩
    · refine .inr ⟨hm, n' - 1, by omega, ?_⟩
      rcases h with ⟨hl, h⟩ | ⟨hl, v, hv, h⟩
      · exact .inl ⟨hl, can_mono t (by omega) h⟩
      · exact .inr ⟨hl, v, hv, can_mono t (by omega) h⟩

theorem can_prefix {f : Nat} : ∀ (t u : List Int) {S : List Int} {n : Nat}, Can f (t ++ u) S n → Can f t S n
  | [], _, _, _, _ => trivial
  | p :: t, u, S, n, h => by
    rcases h with ⟨hm, h⟩ | ⟨hm, m, rfl, h⟩
    · exact .inl ⟨hm, can_prefix t u h⟩
    · refine .inr ⟨hm, m, rfl, ?_⟩
      rcases h with ⟨hl, h⟩ | ⟨hl, v, hv, h⟩
      · exact .inl ⟨hl, can_prefix t u h⟩
      · exact .inr ⟨hl, v, hv, can_prefix t u h⟩

/-- Pigeonhole. -/
theorem sub_len : ∀ {S T : List Int}, S.Nodup → (∀ x, x ∈ S → x ∈ T) → S.length ≤ T.length
  | [], _, _, _ => Nat.zero_le _
  | a :: S, T, hn, h => by
    have ha := h a (by simp)
    have hn' := List.nodup_cons.1 hn
    have := sub_len (S := S) (T := T.erase a) hn'.2 (fun x hx => by
      have : x ≠ a := fun e => hn'.1 (e ▸ hx)
      exact (List.mem_erase_of_ne this).2 (h x (by simp [hx])))
    rw [List.length_erase_of_mem ha] at this
    have hpos : 0 < T.length := List.length_pos_of_mem ha
    simp only [List.length_cons]; omega

theorem pigeon {S T : List Int} (hn : S.Nodup) (h : T.length < S.length) : ∃ v, v ∈ S ∧ v ∉ T := by
  by_cases hex : ∃ v, v ∈ S ∧ v ∉ T
  · exact hex
  · have := sub_len hn (T := T) (fun x hx => by
      by_cases hx' : x ∈ T
      · exact hx'
      · exact absurd ⟨x, hx, hx'⟩ hex)
    omega

/-- More pages at hand (and no less room) do no harm. -/
theorem can_sub {f f' : Nat} (hf : f ≤ f') (hpos : 0 < f) : ∀ (t : List Int) {S S' : List Int} {n : Nat}, S.Nodup → S'.Nodup → S'.length ≤ f' → (∀ x, x ∈ S → x ∈ S') → S.length ≤ f →
    Can f t S n → Can f' t S' n
  | [], _, _, _, _, _, _, _, _, _ => trivial
  | p :: t, S, S', n, hS, hS', hl', hsub, hl, h => by
    rcases h with ⟨hm, h⟩ | ⟨hm, m, rfl, h⟩
    · exact .inl ⟨hsub p hm, can_sub hf hpos t hS hS' hl' hsub hl h⟩
    · -- the pages S1 behind the fault: p and T, T a part of S with fewer than f pages
      obtain ⟨T, hT, hTS, hTl, hTn⟩ : ∃ T : List Int, T.Nodup ∧ (∀ x, x ∈ T → x ∈ S) ∧ T.length + 1 ≤ f ∧ Can f t (p :: T) m := by
        rcases h with ⟨hlt, h⟩ | ⟨he, v, hv, h⟩
        · exact ⟨S, hS, fun _ h => h, hlt, h⟩
        · refine ⟨S.erase v, hS.erase v, fun x hx => List.mem_of_mem_erase hx, ?_, h⟩
          rw [List.length_erase_of_mem hv]
          have : 0 < S.length := List.length_pos_of_mem hv
          omega
      have hpT : p ∉ T := fun h => hm (hTS p h)
      have hnp : (p :: T).Nodup := List.nodup_cons.2 ⟨hpT, hT⟩
      by_cases hp' : p ∈ S'
      · refine .inl ⟨hp', can_mono t (Nat.le_succ m) (can_sub hf hpos t hnp hS' hl' ?_ (by simpa using hTl) hTn)⟩
        intro x hx
        rcases List.mem_cons.1 hx with rfl | hx
        · exact hp'
        · exact hsub x (hTS x hx)
      · refine .inr ⟨hp', m, rfl, ?_⟩
        by_cases hfull : S'.length < f'
        · refine .inl ⟨hfull, can_sub hf hpos t hnp (List.nodup_cons.2 ⟨hp', hS'⟩) (by simp; omega) ?_ (by simpa using hTl) hTn⟩
          intro x hx
          rcases List.mem_cons.1 hx with rfl | hx
          · simp
          · exact List.mem_cons_of_mem _ (hsub x (hTS x hx))
        · obtain ⟨v, hv, hvT⟩ := pigeon (T := T) hS' (by omega)
          refine .inr ⟨by omega, v, hv, can_sub hf hpos t hnp (List.nodup_cons.2 ⟨fun h => hp' (List.mem_of_mem_erase h), hS'.erase v⟩) ?_ ?_ (by simpa using hTl) hTn⟩
          · rw [List.length_cons, List.length_erase_of_mem hv]
            have : 0 < S'.length := List.length_pos_of_mem hv
            omega
          · intro x hx
            rcases List.mem_cons.1 hx with rfl | hx
            · simp
            · exact List.mem_cons_of_mem _ ((List.mem_erase_of_ne (fun e : x = v => hvT (e ▸ hx))).2 (hsub x (hTS x hx)))

/-- One page less costs at most one fault more. -/
theorem can_drop {f : Nat} : ∀ (t : List Int) {S : List Int} {y : Int} {n : Nat}, S.Nodup → y ∉ S → S.length + 1 ≤ f → Can f t (y :: S) n → Can f t S (n + 1)
| [], _, _, _, _, _, _, _ => trivial
| p :: t, S, y, n, hS, hy, hl, h => by
  by_cases hpS : p ∈ S
  · refine .inl ⟨hpS, ?_⟩
    rcases h with ⟨_, h⟩ | ⟨hm, _⟩
    · exact can_drop t hS hy hl h
    · exact absurd (by simp [hpS]) hm
  · refine .inr ⟨hpS, n, rfl, .inl ⟨by omega, ?_⟩⟩
    by_cases hpy : p = y
    · subst hpy
      rcases h with ⟨_, h⟩ | ⟨hm, _⟩
      · exact h
      · exact absurd (by simp) hm
    · have hny : p ∉ y :: S := by simp [hpy, hpS]
      rcases h with ⟨hm, _⟩ | ⟨_, m, rfl, h⟩
      · exact absurd hm hny
      · rcases h with ⟨hlt, h⟩ | ⟨he, v, hv, h⟩
        · refine can_drop t (List.nodup_cons.2 ⟨hpS, hS⟩) ?_ (by simp only [List.length_cons] at hlt ⊢; omega) (can_perm t (List.Perm.swap y p S) h)
          intro h'; rcases List.mem_cons.1 h' with e | h'
          · exact hpy e.symm
          · exact hy h'
        · by_cases hvy : v = y
          · subst hvy
            rw [List.erase_cons_head] at h
            exact can_mono t (by omega) h
          · have hvS : v ∈ S := by
              rcases List.mem_cons.1 hv with e | h
              · exact absurd e hvy
              · exact h
            rw [List.erase_cons, if_neg (by simp; exact fun e => hvy e.symm)] at h
            have hpE : p ∉ S.erase v := fun h => hpS (List.mem_of_mem_erase h)
            have hlE : (S.erase v).length + 1 = S.length := by
              rw [List.length_erase_of_mem hvS]
              have : 0 < S.length := List.length_pos_of_mem hvS
              omega
            -- {p,y}∪S∖v, want {p}∪S
            have h1 : Can f t (p :: S.erase v) (m + 1) := by
              refine can_drop t (List.nodup_cons.2 ⟨hpE, hS.erase v⟩) ?_ (by simp only [List.length_cons] at he ⊢; omega) (can_perm t (List.Perm.swap y p _) h)
              intro h'; rcases List.mem_cons.1 h' with e | h'
              · exact hpy e.symm
              · exact hy (List.mem_of_mem_erase h')
            exact can_sub (Nat.le_refl f) (by omega) t (List.nodup_cons.2 ⟨hpE, hS.erase v⟩) (List.nodup_cons.2 ⟨hpS, hS⟩) (by simp only [List.length_cons] at he ⊢; omega)
              (fun z hz => by
                rcases List.mem_cons.1 hz with rfl | hz
                · simp
                · exact List.mem_cons_of_mem _ (List.mem_of_mem_erase hz)) (by simp only [List.length_cons] at he ⊢; omega) h1



/-- Sets that differ in one page differ by one fault at most. -/
theorem can_lip {f : Nat} : ∀ (t : List Int) {S : List Int} {x y : Int} {n : Nat}, S.Nodup → x ∉ S → y ∉ S → x ≠ y → S.length + 1 ≤ f →
    Can f t (y :: S) n → Can f t (x :: S) (n + 1)
  | [], _, _, _, _, _, _, _, _, _, _ => trivial
  | p :: t, S, x, y, n, hS, hx, hy, hxy, hl, h => by
    by_cases hpx : p = x
    · -- a hit for us
      subst hpx
      refine .inl ⟨by simp, ?_⟩
      rcases h with ⟨hm, _⟩ | ⟨_, m, rfl, h⟩
      · rcases List.mem_cons.1 hm with e | hm
        · exact absurd e hxy
        · exact absurd hm hx
      · rcases h with ⟨hlt, h⟩ | ⟨he, v, hv, h⟩
        · -- p :: y :: S, room is left: fewer pages
          refine can_mono t (by omega) (n := m + 1) ?_
          -- drop y: from {p,y}∪S to {p}∪S costs at most one more
          exact can_drop t (List.nodup_cons.2 ⟨hx, hS⟩) (fun h => by
            rcases List.mem_cons.1 h with e | h
            · exact hxy e.symm
            · exact hy h) (by simp only [List.length_cons] at hlt ⊢; omega) (can_perm t (List.Perm.swap y p S) h)
        · by_cases hvy : v = y
          · subst hvy
            rw [List.erase_cons_head] at h
            exact can_mono t (by omega) h
          · have hvS : v ∈ S := by
              rcases List.mem_cons.1 hv with e | h
              · exact absurd e hvy
              · exact h
            have e1 : (y :: S).erase v = y :: S.erase v := by
              rw [List.erase_cons, if_neg (by simp; exact fun e => hvy e.symm)]
            rw [e1] at h
            -- have {p,y} ∪ S∖v ; want {p} ∪ S = {v} ∪ ({p} ∪ S∖v)
            have hpS : p ∉ S.erase v := fun h => hx (List.mem_of_mem_erase h)
            have h1 : Can f t (v :: p :: S.erase v) (m + 1) := by
              refine can_lip t (List.nodup_cons.2 ⟨hpS, hS.erase v⟩) ?_ ?_ hvy ?_ (can_perm t (List.Perm.swap y p _) h)
              · intro h'
                rcases List.mem_cons.1 h' with e | h'
                · exact hx (e ▸ hvS)
                · exact (List.Nodup.mem_erase_iff hS).1 h' |>.1 rfl
              · intro h'
                rcases List.mem_cons.1 h' with e | h'
                · exact hxy e.symm
                · exact hy (List.mem_of_mem_erase h')
              · rw [List.length_cons, List.length_erase_of_mem hvS]
                have : 0 < S.length := List.length_pos_of_mem hvS
                omega
            refine can_mono t (Nat.le_succ _) (can_perm t ?_ h1)
            exact (List.Perm.swap p v _).trans ((List.perm_cons_erase hvS).symm.cons p)
    · by_cases hpS : p ∈ S
      · refine .inl ⟨by simp [hpS], ?_⟩
        rcases h with ⟨_, h⟩ | ⟨hm, _⟩
        · exact can_lip t hS hx hy hxy hl h
        · exact absurd (by simp [hpS]) hm
      · have hnx : p ∉ x :: S := by simp [hpx, hpS]
        by_cases hpy : p = y
        · subst hpy
          rcases h with ⟨_, h⟩ | ⟨hm, _⟩
          · refine .inr ⟨hnx, n, rfl, ?_⟩
            by_cases hfull : (x :: S).length < f
            · refine .inl ⟨hfull, ?_⟩
              -- {p,x}∪S from {p}∪S: more pages
              exact can_sub (Nat.le_refl f) (by omega) t (List.nodup_cons.2 ⟨hpS, hS⟩) (List.nodup_cons.2 ⟨hnx, List.nodup_cons.2 ⟨hx, hS⟩⟩) (by simp only [List.length_cons] at hfull ⊢; omega)
                (fun z hz => by rcases List.mem_cons.1 hz with rfl | hz <;> simp [*]) (by simpa using hl) h
            · refine .inr ⟨by simp only [List.length_cons] at hfull ⊢; omega, x, by simp, ?_⟩
              rw [List.erase_cons_head]; exact h
          · exact absurd (by simp) hm
        · have hny : p ∉ y :: S := by simp [hpy, hpS]
          rcases h with ⟨hm, _⟩ | ⟨_, m, rfl, h⟩
          · exact absurd hm hny
          · refine .inr ⟨hnx, m + 1, rfl, ?_⟩
            have key : ∀ {T : List Int}, T.Nodup → (∀ z, z ∈ T → z ∈ S) → T.length + 2 ≤ f → Can f t (p :: y :: T) m → Can f t (p :: x :: T) (m + 1) := by
              intro T hT hTS hTl h
              have hpT : p ∉ T := fun h => hpS (hTS p h)
              refine can_perm t (List.Perm.swap p x T) ?_
              refine can_lip t (List.nodup_cons.2 ⟨hpT, hT⟩) ?_ ?_ hxy (by simpa using hTl) (can_perm t (List.Perm.swap y p T) h)
              · intro h'; rcases List.mem_cons.1 h' with e | h'
                · exact hpx e.symm
                · exact hx (hTS x h')
              · intro h'; rcases List.mem_cons.1 h' with e | h'
                · exact hpy e.symm
                · exact hy (hTS y h')
            rcases h with ⟨hlt, h⟩ | ⟨he, v, hv, h⟩
            · exact .inl ⟨by simpa using hlt, key hS (fun _ h => h) (by simp at hlt; omega) h⟩
            · by_cases hvy : v = y
              · subst hvy
                rw [List.erase_cons_head] at h
                refine .inr ⟨by simpa using he, x, by simp, ?_⟩
                rw [List.erase_cons_head]; exact can_mono t (Nat.le_succ _) h
              · have hvS : v ∈ S := by
                  rcases List.mem_cons.1 hv with e | h
                  · exact absurd e hvy
                  · exact h
                have hvx : v ≠ x := fun e => hx (e ▸ hvS)
                refine .inr ⟨by simpa using he, v, by simp [hvS], ?_⟩
                rw [List.erase_cons, if_neg (by simp; exact fun e => hvx e.symm)]
                rw [List.erase_cons, if_neg (by simp; exact fun e => hvy e.symm)] at h
                refine key (hS.erase v) (fun z hz => List.mem_of_mem_erase hz) ?_ h
                rw [List.length_erase_of_mem hvS]
                have : 0 < S.length := List.length_pos_of_mem hvS
                simp only [List.length_cons] at he
                omega
/-- THE EXCHANGE: the page that is used sooner is the better one to have. -/
theorem can_exch {f : Nat} : ∀ (t : List Int) {S : List Int} {x y : Int} {n : Nat}, S.Nodup → x ∉ S → y ∉ S → x ≠ y → S.length + 1 ≤ f → t.idxOf x ≤ t.idxOf y →
    Can f t (y :: S) n → Can f t (x :: S) n
  | [], _, _, _, _, _, _, _, _, _, _, _ => trivial
  | p :: t, S, x, y, n, hS, hx, hy, hxy, hl, hxt, h => by
    by_cases hpx : p = x
    · subst hpx
      refine .inl ⟨by simp, ?_⟩
      rcases h with ⟨hm, _⟩ | ⟨_, m, rfl, h⟩
      · rcases List.mem_cons.1 hm with e | hm
        · exact absurd e hxy
        · exact absurd hm hx
      · rcases h with ⟨hlt, h⟩ | ⟨he, v, hv, h⟩
        · exact can_drop t (List.nodup_cons.2 ⟨hx, hS⟩) (fun h => by
            rcases List.mem_cons.1 h with e | h
            · exact hxy e.symm
            · exact hy h) (by simp only [List.length_cons] at hlt ⊢; omega) (can_perm t (List.Perm.swap y p S) h)
        · by_cases hvy : v = y
          · subst hvy
            rw [List.erase_cons_head] at h
            exact can_mono t (Nat.le_succ _) h
          · have hvS : v ∈ S := by
              rcases List.mem_cons.1 hv with e | h
              · exact absurd e hvy
              · exact h
            rw [List.erase_cons, if_neg (by simp; exact fun e => hvy e.symm)] at h
            have hpS : p ∉ S.erase v := fun h => hx (List.mem_of_mem_erase h)
            have h1 : Can f t (v :: p :: S.erase v) (m + 1) := by
              refine can_lip t (List.nodup_cons.2 ⟨hpS, hS.erase v⟩) ?_ ?_ hvy ?_ (can_perm t (List.Perm.swap y p _) h)
              · intro h'
                rcases List.mem_cons.1 h' with e | h'
                · exact hx (e ▸ hvS)
                · exact (List.Nodup.mem_erase_iff hS).1 h' |>.1 rfl
              · intro h'
                rcases List.mem_cons.1 h' with e | h'
                · exact hxy e.symm
                · exact hy (List.mem_of_mem_erase h')
              · rw [List.length_cons, List.length_erase_of_mem hvS]
                have : 0 < S.length := List.length_pos_of_mem hvS
                omega
            exact can_perm t ((List.Perm.swap p v _).trans ((List.perm_cons_erase hvS).symm.cons p)) h1
    · have ext : p ≠ y → t.idxOf x ≤ t.idxOf y := by
        intro hpy
        rw [List.idxOf_cons, List.idxOf_cons] at hxt
        have e1 : (p == x) = false := by simpa using hpx
        have e2 : (p == y) = false := by simpa using hpy
        simp only [e1, e2, cond_false] at hxt
        omega
      have hpy : p ≠ y := by
        rintro rfl
        rw [List.idxOf_cons, List.idxOf_cons] at hxt
        have e1 : (p == x) = false := by simpa using hpx
        simp [e1] at hxt
      have hxt' := ext hpy
      by_cases hpS : p ∈ S
      · refine .inl ⟨by simp [hpS], ?_⟩
        rcases h with ⟨_, h⟩ | ⟨hm, _⟩
        · exact can_exch t hS hx hy hxy hl hxt' h
        · exact absurd (by simp [hpS]) hm
      · have hnx : p ∉ x :: S := by simp [hpx, hpS]
        have hny : p ∉ y :: S := by simp [hpy, hpS]
        rcases h with ⟨hm, _⟩ | ⟨_, m, rfl, h⟩
        · exact absurd hm hny
        · refine .inr ⟨hnx, m, rfl, ?_⟩
          have key : ∀ {T : List Int}, T.Nodup → (∀ z, z ∈ T → z ∈ S) → T.length + 2 ≤ f → Can f t (p :: y :: T) m → Can f t (p :: x :: T) m := by
            intro T hT hTS hTl h
            have hpT : p ∉ T := fun h => hpS (hTS p h)
            refine can_perm t (List.Perm.swap p x T) ?_
            refine can_exch t (List.nodup_cons.2 ⟨hpT, hT⟩) ?_ ?_ hxy (by simpa using hTl) hxt' (can_perm t (List.Perm.swap y p T) h)
            · intro h'; rcases List.mem_cons.1 h' with e | h'
              · exact hpx e.symm
              · exact hx (hTS x h')
            · intro h'; rcases List.mem_cons.1 h' with e | h'
              · exact hpy e.symm
              · exact hy (hTS y h')
          rcases h with ⟨hlt, h⟩ | ⟨he, v, hv, h⟩
          · exact .inl ⟨by simpa using hlt, key hS (fun _ h => h) (by simp at hlt; omega) h⟩
          · by_cases hvy : v = y
            · subst hvy
              rw [List.erase_cons_head] at h
              refine .inr ⟨by simpa using he, x, by simp, ?_⟩
              rw [List.erase_cons_head]; exact h
            · have hvS : v ∈ S := by
                rcases List.mem_cons.1 hv with e | h
                · exact absurd e hvy
                · exact h
              have hvx : v ≠ x := fun e => hx (e ▸ hvS)
              refine .inr ⟨by simpa using he, v, by simp [hvS], ?_⟩
              rw [List.erase_cons, if_neg (by simp; exact fun e => hvx e.symm)]
              rw [List.erase_cons, if_neg (by simp; exact fun e => hvy e.symm)] at h
              refine key (hS.erase v) (fun z hz => List.mem_of_mem_erase hz) ?_ h
              rw [List.length_erase_of_mem hvS]
              have : 0 < S.length := List.length_pos_of_mem hvS
              simp only [List.length_cons] at he
              omega

/-- The rule goes picks a page whose next use is the latest. -/
def Late (goes : List Int → List Int → Nat) : Prop :=
  ∀ (held t : List Int) (p : Int), held ≠ [] → ∃ y, y ∈ held ∧ held.eraseIdx (goes held (p :: t)) = held.erase y ∧ ∀ v, v ∈ held → (p :: t).idxOf v ≤ (p :: t).idxOf y

theorem idx_tail {p v y : Int} {t : List Int} (hv : p ≠ v) (hy : p ≠ y) (h : (p :: t).idxOf v ≤ (p :: t).idxOf y) : t.idxOf v ≤ t.idxOf y := by
  rw [List.idxOf_cons, List.idxOf_cons] at h
  have e1 : (p == v) = false := by simpa using hv
  have e2 : (p == y) = false := by simpa using hy
  simp only [e1, e2, cond_false] at h
  omega

/-- Whoever knows the future has no more faults than any other schedule. -/
theorem best_le {f : Nat} (hpos : 0 < f) {goes : List Int → List Int → Nat} (hg : Late goes) : ∀ (t : List Int) {S : List Int} {n : Nat}, S.Nodup → S.length ≤ f →
    Can f t S n → runP f (fun h _ => h) goes t S ≤ n
  | [], _, _, _, _, _ => Nat.zero_le _
  | p :: t, S, n, hS, hl, h => by
    unfold runP
    rcases h with ⟨hm, h⟩ | ⟨hm, m, rfl, h⟩
    · rw [if_pos hm]; exact best_le hpos hg t hS hl h
    · rw [if_neg hm]
      rcases h with ⟨hlt, h⟩ | ⟨he, v, hv, h⟩
      · rw [if_neg (by omega)]
        have := best_le hpos hg t (S := S ++ [p]) (n := m) (nodup_snoc hS hm) (by simp; omega) (can_perm t (by simpa using (List.perm_append_comm (l₁ := [p]) (l₂ := S))) h)
        omega
      · rw [if_pos he]
        obtain ⟨y, hy, hgy, hlate⟩ := hg S t p (List.ne_nil_of_mem hv)
        rw [hgy]
        have hpy : p ≠ y := fun e => hm (e ▸ hy)
        have hpv : p ≠ v := fun e => hm (e ▸ hv)
        have hpE : ∀ z, p ∉ S.erase z := fun z h => hm (List.mem_of_mem_erase h)
        have hbest : Can f t (p :: S.erase y) m := by
          by_cases hvy : v = y
          · exact hvy ▸ h
          · -- S∖v = y :: R, S∖y = v :: R
            have hyv : y ∈ S.erase v := (List.mem_erase_of_ne (fun e => hvy e.symm)).2 hy
            have hR1 : (S.erase v).Perm (y :: (S.erase v).erase y) := List.perm_cons_erase hyv
            have hvy' : v ∈ S.erase y := (List.mem_erase_of_ne hvy).2 hv
            have hR2 : (S.erase y).Perm (v :: (S.erase y).erase v) := List.perm_cons_erase hvy'
            rw [List.erase_comm] at hR2
            have hRn : ((S.erase v).erase y).Nodup := (hS.erase v).erase y
            have hRl : ((S.erase v).erase y).length + 2 ≤ f := by
              rw [List.length_erase_of_mem hyv, List.length_erase_of_mem hv]
              have h2 : 0 < (S.erase v).length := List.length_pos_of_mem hyv
              rw [List.length_erase_of_mem hv] at h2
              omega
            have hpR : p ∉ (S.erase v).erase y := fun h => hpE v (List.mem_of_mem_erase h)
            have hvR : v ∉ p :: (S.erase v).erase y := by
              intro h'; rcases List.mem_cons.1 h' with e | h'
              · exact hpv e.symm
              · exact ((List.Nodup.mem_erase_iff hS).1 (List.mem_of_mem_erase h')).1 rfl
            have hyR : y ∉ p :: (S.erase v).erase y := by
              intro h'; rcases List.mem_cons.1 h' with e | h'
              · exact hpy e.symm
              · exact ((List.Nodup.mem_erase_iff (hS.erase v)).1 h').1 rfl
            have h1 := can_exch t (List.nodup_cons.2 ⟨hpR, hRn⟩) hvR hyR hvy (by simpa using hRl) (idx_tail hpv hpy (hlate v hv))
              (can_perm t ((hR1.cons p).trans (List.Perm.swap y p _)) h)
            exact can_perm t ((List.Perm.swap p v _).trans (hR2.symm.cons p)) h1
        have := best_le hpos hg t (S := S.erase y ++ [p]) (n := m) (nodup_snoc (hS.erase y) (hpE y))
          (by rw [List.length_append, List.length_erase_of_mem hy]; have := List.length_pos_of_mem hy; simp; omega)
          (can_perm t (by simpa using (List.perm_append_comm (l₁ := [p]) (l₂ := S.erase y))) hbest)
        omega

/-- A rule that puts the pages in another order at a use. -/
def Perms (used : List Int → Int → List Int) : Prop := ∀ (held : List Int) (p : Int), p ∈ held → (used held p).Perm held

def Picks (goes : List Int → List Int → Nat) : Prop := ∀ (held t : List Int), held ≠ [] → ∃ y, y ∈ held ∧ held.eraseIdx (goes held t) = held.erase y

/-- Every run is a schedule. -/
theorem can_run {f : Nat} (hpos : 0 < f) {used : List Int → Int → List Int} {goes : List Int → List Int → Nat} (hu : Perms used) (hg : Picks goes) :
    ∀ (t : List Int) {S : List Int}, S.Nodup → S.length ≤ f → Can f t S (runP f used goes t S)
  | [], _, _, _ => trivial
  | p :: t, S, hS, hl => by
    unfold runP
    by_cases hm : p ∈ S
    · rw [if_pos hm]
      have hp := hu S p hm
      exact .inl ⟨hm, can_perm t hp (can_run hpos hu hg t (hp.nodup_iff.2 hS) (by rw [hp.length_eq]; exact hl))⟩
    · rw [if_neg hm]
      refine .inr ⟨hm, _, Nat.add_comm _ _, ?_⟩
      by_cases he : S.length = f
      · rw [if_pos he]
        obtain ⟨y, hy, hgy⟩ := hg S (p :: t) (by rintro rfl; simp at he; omega)
        rw [hgy]
        refine .inr ⟨he, y, hy, ?_⟩
        have hpE : p ∉ S.erase y := fun h => hm (List.mem_of_mem_erase h)
        exact can_perm t (by simp) (can_run hpos hu hg t (nodup_snoc (hS.erase y) hpE)
          (by rw [List.length_append, List.length_erase_of_mem hy]; have := List.length_pos_of_mem hy; simp; omega))
      · rw [if_neg he]
        refine .inl ⟨by omega, ?_⟩
        exact can_perm t (by simp) (can_run hpos hu hg t (nodup_snoc hS hm) (by simp; omega))


/-! ## The recency stack -/

/-- The different pages of a reversed past, the latest first. -/
def stk : List Int → List Int
  | [] => []
  | q :: r => q :: (stk r).filter (fun x => x != q)

theorem stk_nodup : ∀ r, (stk r).Nodup
  | [] => List.nodup_nil
  | q :: r => by
    refine List.nodup_cons.2 ⟨by simp, (stk_nodup r).filter _⟩

theorem mem_stk {p : Int} : ∀ {r}, p ∈ stk r ↔ p ∈ r
  | [] => by simp [stk]
  | q :: r => by
    by_cases h : p = q
    · simp [stk, h]
    · simp [stk, h, mem_stk (r := r)]

theorem take_filter_in {p : Int} : ∀ {s : List Int} {f : Nat}, s.Nodup → p ∈ s.take f → (s.filter (fun x => x != p)).take (f - 1) = (s.take f).filter (fun x => x != p)
  | [], _, _, h => by simp at h
  | a :: s, 0, _, h => by simp at h
  | a :: s, f + 1, hn, h => by
    have hn' := List.nodup_cons.1 hn
    by_cases ha : a = p
    · subst ha
      have e : ∀ t : List Int, a ∉ t → t.filter (fun x => x != a) = t := by
        intro t ht
        rw [List.filter_eq_self]
        intro x hx; simp; rintro rfl; exact ht hx
      simp only [List.take_succ_cons, bne_self_eq_false, Bool.false_eq_true, not_false_eq_true, List.filter_cons_of_neg, Nat.add_sub_cancel]
      rw [e s hn'.1, e (s.take f) (fun h => hn'.1 (List.mem_of_mem_take h))]
    · have hp : p ∈ s.take f := by
        simp only [List.take_succ_cons, List.mem_cons] at h
        rcases h with h | h
        · exact absurd h.symm ha
        · exact h
      have ih := take_filter_in hn'.2 hp
      have hb : (a != p) = true := by simpa using ha
      have hf : f ≠ 0 := by rintro rfl; simp at hp
      obtain ⟨g, rfl⟩ : ∃ g, f = g + 1 := ⟨f - 1, by omega⟩
      simp only [List.take_succ_cons, List.filter_cons, hb, if_true, Nat.add_sub_cancel] at ih ⊢
      rw [ih]

theorem take_filter_out {p : Int} : ∀ {s : List Int} {f : Nat}, p ∉ s.take f → (s.filter (fun x => x != p)).take (f - 1) = s.take (f - 1)
  | [], _, _ => by simp
  | a :: s, 0, _ => by simp
  | a :: s, f + 1, h => by
    have ha : a ≠ p := by rintro rfl; simp at h
    have hp : p ∉ s.take f := by
      intro h'; apply h; simp [h']
    have hb : (a != p) = true := by simpa using ha
    have ih := take_filter_out hp
    cases f with
    | zero => simp [hb]
    | succ g =>
      simp only [List.filter_cons, hb, if_true, Nat.add_sub_cancel, List.take_succ_cons] at ih ⊢
      rw [ih]

/-- How many uses of t are not among the f latest pages. -/
def lastCount (f : Nat) : List Int → List Int → Nat
  | [], _ => 0
  | p :: t, r => (if p ∈ (stk r).take f then 0 else 1) + lastCount f t (p :: r)

def usedLast (h : List Int) (p : Int) : List Int := h.erase p ++ [p]

theorem erase_filter {s : List Int} (h : s.Nodup) (p : Int) : s.erase p = s.filter (fun x => x != p) := by
  have := List.Nodup.erase_eq_filter h p
  rw [this]

theorem lru_run {f : Nat} (hpos : 0 < f) : ∀ (t r : List Int), runP f usedLast (fun _ _ => 0) t ((stk r).take f).reverse = lastCount f t r
  | [], _ => rfl
  | p :: t, r => by
    unfold runP lastCount
    have hn := stk_nodup r
    have hnt : ((stk r).take f).Nodup := List.Sublist.nodup (List.take_sublist f _) hn
    have hnr : ((stk r).take f).reverse.Nodup := nodup_rev hnt
    by_cases hm : p ∈ (stk r).take f
    · have hm' : p ∈ ((stk r).take f).reverse := List.mem_reverse.2 hm
      rw [if_pos hm', if_pos hm, Nat.zero_add, ← lru_run hpos t (p :: r)]
      congr 1
      unfold usedLast
      rw [erase_filter hnr, List.filter_reverse, ← take_filter_in hn hm]
      obtain ⟨g, rfl⟩ : ∃ g, f = g + 1 := ⟨f - 1, by omega⟩
      simp [stk]
    · have hm' : p ∉ ((stk r).take f).reverse := fun h => hm (List.mem_reverse.1 h)
      rw [if_neg hm', if_neg hm, ← lru_run hpos t (p :: r)]
      congr 2
      obtain ⟨g, rfl⟩ : ∃ g, f = g + 1 := ⟨f - 1, by omega⟩
      have ho := take_filter_out hm
      simp only [Nat.add_sub_cancel] at ho
      have e : (stk (p :: r)).take (g + 1) = p :: (stk r).take g := by simp [stk, ho]
      rw [e, List.reverse_cons]
      congr 1
      by_cases hfull : ((stk r).take (g + 1)).reverse.length = g + 1
      · rw [if_pos hfull]
        have hlen : (stk r).length ≥ g + 1 := by simp at hfull; omega
        have e2 : (stk r).take (g + 1) = (stk r).take g ++ [(stk r)[g]] := by rw [List.take_succ_eq_append_getElem (by omega)]
        rw [e2, List.reverse_append]
        rfl
      · rw [if_neg hfull]
        have hlen : (stk r).length ≤ g := by simp at hfull; omega
        rw [List.take_of_length_le (by omega), List.take_of_length_le (by omega)]

theorem lastCount_more {f f' : Nat} (h : f ≤ f') : ∀ (t r : List Int), lastCount f' t r ≤ lastCount f t r
  | [], _ => Nat.le_refl _
  | p :: t, r => by
    unfold lastCount
    have ih := lastCount_more h t (p :: r)
    by_cases hm : p ∈ (stk r).take f
    · have : p ∈ (stk r).take f' := by
        have e : (stk r).take f = ((stk r).take f').take f := by rw [List.take_take, Nat.min_eq_left h]
        rw [e] at hm
        exact List.mem_of_mem_take hm
      rw [if_pos hm, if_pos this]; omega
    · rw [if_neg hm]
      split <;> omega

/-- How many pages were met before p, going back; -1 if p is not met. -/
def spanGo (p : Int) : List Int → List Int → Int
  | [], _ => -1
  | q :: r, seen => if q = p then seen.length else spanGo p r (if q ∈ seen then seen else seen ++ [q])

theorem takeWhile_filter {p q : Int} (h : p ≠ q) : ∀ s : List Int, (s.filter (fun x => x != q)).takeWhile (fun x => x != p) = (s.takeWhile (fun x => x != p)).filter (fun x => x != q)
  | [] => rfl
  | a :: s => by
    have ih := takeWhile_filter h s
    by_cases ha : a = p
    · subst ha
      have : (a != q) = true := by simpa using h
      simp [this]
    · have hb : (a != p) = true := by simpa using ha
      by_cases hq : a = q
      · subst hq
        simp [hb, ih]
      · have hb' : (a != q) = true := by simpa using hq
        simp [hb, hb', ih]

theorem spanGo_eq (p : Int) : ∀ (r seen : List Int), p ∉ seen → spanGo p r seen = if p ∈ r then (seen.length : Int) + (((stk r).takeWhile (fun x => x != p)).countP (fun x => !(seen.contains x)) : Nat) else -1
  | [], seen, _ => by simp [spanGo]
  | q :: r, seen, hp => by
    unfold spanGo
    by_cases hq : q = p
    · subst hq
      simp [stk]
    · rw [if_neg hq]
      have hne : p ≠ q := fun e => hq e.symm
      have hb : (q != p) = true := by simpa using hq
      have hmem : (p ∈ q :: r) ↔ p ∈ r := by simp [hne]
      have e : (stk (q :: r)).takeWhile (fun x => x != p) = q :: ((stk r).takeWhile (fun x => x != p)).filter (fun x => x != q) := by
        simp [stk, hb, takeWhile_filter hne]
      by_cases hs : q ∈ seen
      · rw [if_pos hs, spanGo_eq p r seen hp, e]
        simp only [hmem]
        congr 2
        rw [List.countP_cons_of_neg (by simp [hs]), List.countP_filter]
        congr 1
        apply List.countP_congr
        intro x _
        by_cases hx : x = q
        · subst hx; simp [hs]
        · simp [hx]
      · rw [if_neg hs, spanGo_eq p r (seen ++ [q]) (by simp [hp, hne]), e]
        simp only [hmem]
        by_cases hr : p ∈ r
        · rw [if_pos hr, if_pos hr, List.countP_cons_of_pos (by simp [hs]), List.countP_filter]
          have : ∀ l : List Int, l.countP (fun x => !(seen ++ [q]).contains x) = l.countP (fun a => !seen.contains a && a != q) := by
            intro l
            apply List.countP_congr
            intro x _
            simp
          rw [this]
          simp only [List.length_append, List.length_singleton]
          omega
        · rw [if_neg hr, if_neg hr]

theorem spanGo_nil (p : Int) (r : List Int) : spanGo p r [] = if p ∈ r then (((stk r).takeWhile (fun x => x != p)).length : Int) else -1 := by
  rw [spanGo_eq p r [] (by simp)]
  simp

/-- The page is among the f latest ones just if its span is less than f. -/
theorem mem_take_iff {p : Int} {f : Nat} : ∀ (s : List Int), p ∈ s.take f ↔ p ∈ s ∧ (s.takeWhile (fun x => x != p)).length < f
  | [] => by simp
  | a :: s => by
    cases f with
    | zero => simp
    | succ f =>
      by_cases ha : a = p
      · subst ha; simp
      · have hb : (a != p) = true := by simpa using ha
        have hne : p ≠ a := fun e => ha e.symm
        simp only [List.take_succ_cons, List.mem_cons, hne, false_or, List.takeWhile_cons, hb, if_true, List.length_cons, mem_take_iff s (f := f), Nat.add_lt_add_iff_right]

theorem span_fault {p : Int} {f : Nat} (r : List Int) : (p ∈ (stk r).take f) ↔ ¬ (spanGo p r [] < 0 ∨ (f : Int) ≤ spanGo p r []) := by
  rw [mem_take_iff, mem_stk, spanGo_nil]
  by_cases hr : p ∈ r
  · rw [if_pos hr]; simp only [hr, true_and]; omega
  · rw [if_neg hr]; simp [hr]


/-! ## Laws of runs -/

theorem run_le_length {f : Nat} {used : List Int → Int → List Int} {goes : List Int → List Int → Nat} : ∀ (t held : List Int), runP f used goes t held ≤ t.length
  | [], _ => Nat.le_refl _
  | p :: t, held => by
    unfold runP
    split
    · have := run_le_length (f := f) (used := used) (goes := goes) t (used held p); simp; omega
    · have := run_le_length (f := f) (used := used) (goes := goes) t ((if held.length = f then held.eraseIdx (goes held (p :: t)) else held) ++ [p]); simp; omega

/-- A rule that does not look ahead: the first uses have no more faults. -/
theorem run_prefix {f : Nat} {used : List Int → Int → List Int} : ∀ (t u held : List Int), runP f used (fun _ _ => 0) t held ≤ runP f used (fun _ _ => 0) (t ++ u) held
  | [], _, _ => Nat.zero_le _
  | p :: t, u, held => by
    simp only [List.cons_append, runP]
    split
    · exact run_prefix t u _
    · exact Nat.add_le_add_left (run_prefix t u _) 1

/-- A use repeated at once has no fault. -/
theorem run_again {f : Nat} {used : List Int → Int → List Int} (hin : ∀ held p, p ∈ held → p ∈ used held p) (hsame : ∀ held p, p ∈ held → held.Nodup → used (used held p) p = used held p)
    (hend : ∀ h p, p ∉ h → used (h ++ [p]) p = h ++ [p]) (hperm : ∀ held p, p ∈ held → held.Nodup → (used held p).Nodup) (p : Int) (u : List Int) :
    ∀ (t held : List Int), held.Nodup → runP f used (fun _ _ => 0) (t ++ p :: p :: u) held = runP f used (fun _ _ => 0) (t ++ p :: u) held
  | [], held, hn => by
    simp only [List.nil_append, runP]
    by_cases hm : p ∈ held
    · rw [if_pos hm, if_pos (hin held p hm), if_pos hm, hsame held p hm hn]
    · have hm2 : p ∉ (if held.length = f then held.eraseIdx 0 else held) := by
        split
        · exact fun h => hm (List.mem_of_mem_eraseIdx h)
        · exact hm
      rw [if_neg hm, if_neg hm, if_pos (by simp), hend _ _ hm2]
  | q :: t, held, hn => by
    simp only [List.cons_append, runP]
    by_cases hm : q ∈ held
    · rw [if_pos hm, if_pos hm, run_again hin hsame hend hperm p u t _ (hperm held q hm hn)]
    · rw [if_neg hm, if_neg hm]
      rw [run_again hin hsame hend hperm p u t _]
      have hn2 : (if held.length = f then held.eraseIdx 0 else held).Nodup := by
        split
        · exact List.Sublist.nodup (List.eraseIdx_sublist _ _) hn
        · exact hn
      have hm2 : q ∉ (if held.length = f then held.eraseIdx 0 else held) := by
        split
        · exact fun h => hm (List.mem_of_mem_eraseIdx h)
        · exact hm
      exact nodup_snoc hn2 hm2

theorem can_again {f : Nat} (p : Int) (u : List Int) : ∀ (t : List Int) {S : List Int} {n : Nat}, Can f (t ++ p :: u) S n ↔ Can f (t ++ p :: p :: u) S n
  | [], S, n => by
    simp only [List.nil_append]
    constructor
    · rintro (⟨hm, h⟩ | ⟨hm, m, rfl, h⟩)
      · exact .inl ⟨hm, .inl ⟨hm, h⟩⟩
      · refine .inr ⟨hm, m, rfl, ?_⟩
        rcases h with ⟨hl, h⟩ | ⟨hl, v, hv, h⟩
        · exact .inl ⟨hl, .inl ⟨by simp, h⟩⟩
        · exact .inr ⟨hl, v, hv, .inl ⟨by simp, h⟩⟩
    · rintro (⟨hm, h⟩ | ⟨hm, m, rfl, h⟩)
      · rcases h with ⟨_, h⟩ | ⟨hm', _⟩
        · exact .inl ⟨hm, h⟩
        · exact absurd hm hm'
      · refine .inr ⟨hm, m, rfl, ?_⟩
        rcases h with ⟨hl, h⟩ | ⟨hl, v, hv, h⟩
        · rcases h with ⟨_, h⟩ | ⟨hm', _⟩
          · exact .inl ⟨hl, h⟩
          · exact absurd (by simp) hm'
        · rcases h with ⟨_, h⟩ | ⟨hm', _⟩
          · exact .inr ⟨hl, v, hv, h⟩
          · exact absurd (by simp) hm'
  | q :: t, S, n => by
    simp only [List.cons_append, Can, can_again p u t]

theorem eraseIdx_map' (σ : Int → Int) : ∀ (l : List Int) (k : Nat), (l.map σ).eraseIdx k = (l.eraseIdx k).map σ
  | [], _ => by simp
  | _ :: _, 0 => by simp
  | _ :: l, k + 1 => by simp [eraseIdx_map' σ l k]

/-- Other names for the pages. -/
theorem run_names {f : Nat} {used : List Int → Int → List Int} {goes : List Int → List Int → Nat} {σ : Int → Int} (hσ : ∀ a b, σ a = σ b → a = b)
    (hu : ∀ h p, used (h.map σ) (σ p) = (used h p).map σ) (hg : ∀ h t, goes (h.map σ) (t.map σ) = goes h t) :
    ∀ (t held : List Int), runP f used goes (t.map σ) (held.map σ) = runP f used goes t held
  | [], _ => rfl
  | p :: t, held => by
    have hm : σ p ∈ held.map σ ↔ p ∈ held := by
      simp only [List.mem_map]
      exact ⟨fun ⟨a, ha, e⟩ => hσ _ _ e ▸ ha, fun h => ⟨p, h, rfl⟩⟩
    have hgg := hg held (p :: t)
    simp only [List.map_cons] at hgg
    simp only [List.map_cons, runP, hm, List.length_map]
    split
    · rw [hu, run_names hσ hu hg t]
    · rw [← run_names hσ hu hg t, hgg]
      congr 2
      split
      · simp [eraseIdx_map' σ]
      · simp

/-- The uses that are the first one or follow another page. -/
def changes : Option Int → List Int → Nat
  | _, [] => 0
  | o, p :: t => (if o = some p then 0 else 1) + changes (some p) t

theorem run_one {used : List Int → Int → List Int} {goes : List Int → List Int → Nat} (hu : ∀ p, used [p] p = [p]) (hg : ∀ a t, goes [a] t = 0) :
    ∀ (t : List Int) (o : Option Int), runP 1 used goes t o.toList = changes o t
  | [], _ => by simp [runP, changes]
  | p :: t, none => by
    simp only [Option.toList, runP, changes]
    have := run_one hu hg t (some p)
    simp only [Option.toList] at this
    simp [this]
  | p :: t, some q => by
    have ih := run_one hu hg t (some p)
    simp only [Option.toList] at ih
    simp only [Option.toList, runP, changes]
    by_cases h : p = q
    · subst h
      simp [hu, ih]
    · have h' : ¬ q = p := fun e => h e.symm
      simp [h, h', hg, ih]

/-- How many pages of t are new, beyond those of M. -/
def newCount : List Int → List Int → Nat
  | [], _ => 0
  | p :: t, M => if p ∈ M then newCount t M else 1 + newCount t (p :: M)

theorem newCount_congr : ∀ (t : List Int) {M M' : List Int}, (∀ x, x ∈ M ↔ x ∈ M') → newCount t M = newCount t M'
  | [], _, _, _ => rfl
  | p :: t, M, M', h => by
    simp only [newCount, h p]
    split
    · exact newCount_congr t h
    · rw [newCount_congr t (M := p :: M) (M' := p :: M')]
      intro x; simp [h x]

theorem run_ge {f : Nat} {used : List Int → Int → List Int} {goes : List Int → List Int → Nat} (hu : ∀ h p x, x ∈ used h p → x ∈ h ∨ x = p) :
    ∀ (t held M : List Int), (∀ x, x ∈ held → x ∈ M) → newCount t M ≤ runP f used goes t held
  | [], _, _, _ => Nat.le_refl _
  | p :: t, held, M, h => by
    simp only [newCount, runP]
    by_cases hm : p ∈ held
    · rw [if_pos hm, if_pos (h p hm)]
      exact run_ge hu t _ M (fun x hx => by
        rcases hu _ _ _ hx with hx | rfl
        · exact h x hx
        · exact h _ hm)
    · rw [if_neg hm]
      have hsub : ∀ x, x ∈ (if held.length = f then held.eraseIdx (goes held (p :: t)) else held) ++ [p] → x ∈ held ∨ x = p := by
        intro x hx
        rcases List.mem_append.1 hx with hx | hx
        · left
          split at hx
          · exact List.mem_of_mem_eraseIdx hx
          · exact hx
        · right; simpa using hx
      by_cases hM : p ∈ M
      · rw [if_pos hM]
        have := run_ge hu (f := f) (goes := goes) t _ M (fun x hx => by
          rcases hsub x hx with hx | rfl
          · exact h x hx
          · exact hM)
        omega
      · rw [if_neg hM]
        exact Nat.add_le_add_left (run_ge hu (f := f) (goes := goes) t _ (p :: M) (fun x hx => by
          rcases hsub x hx with hx | rfl
          · exact List.mem_cons_of_mem _ (h x hx)
          · simp)) 1

theorem run_eq {f : Nat} {used : List Int → Int → List Int} {goes : List Int → List Int → Nat} (hu : ∀ h p, p ∈ h → (used h p).Perm h) :
    ∀ (t held : List Int), newCount t held + held.length ≤ f → runP f used goes t held = newCount t held
  | [], _, _ => rfl
  | p :: t, held, h => by
    simp only [newCount, runP] at h ⊢
    by_cases hm : p ∈ held
    · rw [if_pos hm] at h ⊢
      rw [if_pos hm]
      have hp := hu held p hm
      rw [run_eq hu t, newCount_congr t (fun x => hp.mem_iff)]
      rw [newCount_congr t (fun x => hp.mem_iff), hp.length_eq]
      exact h
    · rw [if_neg hm] at h ⊢
      rw [if_neg hm, if_neg (by omega)]
      have e : newCount t (held ++ [p]) = newCount t (p :: held) := newCount_congr t (fun x => by simp [or_comm])
      rw [run_eq hu t, e]
      rw [e]; simp; omega

end Xp
