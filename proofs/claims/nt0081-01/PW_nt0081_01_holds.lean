import PyProof.Rows.All
import Wide.All
import OpenK.AllK
import Wide.FinOn
import Lean
import PySem.Challenge.RW_nt0081_01
set_option Elab.async false
set_option maxRecDepth 100000
set_option linter.all false
set_option genSizeOf false
set_option genInjectivity false
set_option bootstrap.genMatcherCode false
namespace Mini.Internal
section
open PySem PySem.W PySem.Calls PyProof.Rows
noncomputable def kq (p:Program) (w:World) (n₀:Nat) (ann:Option Value):Nat→SharedT→Thread→Option SharedT
 |0,_,_=>none
 |n+1,s,t=>match through t with
  |true=>some s
  |false=>match PySem.W.Fast.tw6613529449190102663 n₀ ann t with
   |false=>none
   |true=>match PySem.W.Fast.tw10156331382660048174 (PySem.W.Fast.tw11892475500146522536 PySem.W.Fast.tw14364793385576792824) p w s t with
    |some (s',t')=>kq p w n₀ ann n s' t'
    |none=>none
theorem xw{p:Program}{w:World}{n₀:Nat}{ann:Option Value}:∀{n:Nat}{s s':SharedT}{t:Thread},kq p w n₀ ann n s t=some s'→topRun treeTable p w n₀ ann n s.abs t=some s'.abs
 |0,_,_,_,h=>nomatch h
 |n+1,s,s',t,h=>by
  unfold kq at h
  rw[←PySem.W.Fast.te6613529449190102663,←PySem.W.Fast.te10156331382660048174,←PySem.W.Fast.te11892475500146522536,←PySem.W.Fast.te14364793385576792824]at h
  unfold topRun
  cases ht:through t with
  |true=>rw[ht]at h;cases h;rfl
  |false=>
   rw[ht]at h
   cases hk:stepOk n₀ ann t with
   |false=>rw[hk]at h;cases h
   |true=>
    rw[hk]at h
    cases hs:stepT (denote treeTable) p w s t with
    |none=>rw[hs]at h;cases h
    |some r=>obtain⟨s₂,t₂⟩:=r;rw[hs]at h;rw[stepT_spec hs];exact xw h
theorem amf{p q:Program}{loose:List Str}{Xt:Shared→Bool}{α:Type}{Yf:Shared→α}{Ya:World→α}{N:Nat}{H₀:Params→Heap}{T₀:Params→BT}{n₁:Nat}{l₀:Params→Life}{d₀:Drawn}{k₀:Nat}{m₀:Nat}{ann:Option Value}{M:Nat}
  (open_:∀w:World,(fencedOpening treeTable p w N).map (fun s=>(s.heap,s.gens,s.drawn,s.toks))=some (H₀ w.params,#[],d₀,k₀))
  (tree:∀P,absHeap (T₀ P) n₁ (l₀ P)=H₀ P)
  (size:∀w:World,((H₀ w.params).isNs mainGlobals,(H₀ w.params).objs.size,(H₀ w.params).nsMap mainGlobals "__annotations__")=(true,m₀,ann)) (le:Nat.ble M N=true)
  (run:∀w:World,(fun os=>(kq p w m₀ ann M ⟨T₀ w.params,n₁,l₀ w.params,#[],d₀,k₀,os⟩ (topStub p)).map fun s=>(staticsOk (importedModules p.main.body) (H₀ w.params) s.abs.heap&&namesBound p s.abs.heap&&gensDone s.abs&&laidKept (H₀ w.params) s.abs.heap,
   openSeen q loose (importedModules p.main.body) Xt true s.abs,Yf s.abs))=fun _=>some (true,openGood q loose,Ya w)):LeftO p q loose Xt Yf Ya N true:=fun w=>by
 obtain⟨⟨h,gs,d,k,os⟩,e,e'⟩:=Option.map_eq_some_iff.mp (open_ w)
 obtain⟨rfl,rfl,rfl,rfl⟩:h=H₀ w.params∧gs=#[]∧d=d₀∧k=k₀:=by simpa using e'
 obtain⟨z1,z2,z3⟩:_∧_∧_:=by simpa only[Prod.mk.injEq]using size w
 obtain⟨s₁,r0,l⟩:=Option.map_eq_some_iff.mp (congrFun (run w) os)
 obtain⟨l1,l2,l3⟩:_∧_∧_:=by simpa only[Prod.mk.injEq]using l
 have r:=topRun_mono (N-M) _ _ _ _ (xw r0)
 rw[show M+(N-M)=N by have:=Nat.le_of_ble_eq_true le;omega]at r
 unfold SharedT.abs at r
 dsimp only at r
 rw[tree]at r
 have t:topFrom treeTable p w N ⟨H₀ w.params,#[],d,k,os⟩=some s₁.abs:=by
  unfold topFrom
  dsimp only
  rw[z1,z2,z3,r]
  refine(?_:(match staticsOk (importedModules p.main.body) (H₀ w.params) s₁.abs.heap&&namesBound p s₁.abs.heap&&gensDone s₁.abs&&laidKept (H₀ w.params) s₁.abs.heap with|true=>_|false=>_)=_)
  rw[l1];rfl
 unfold openEnds
 rw[e]
 refine(?_:(topFrom treeTable p w N _).map _=_)
 rw[t]
 exact congrArg some (Prod.ext l2 l3)
noncomputable def a1w (P:Params):BT:=(boot_heap P).objs.toList.foldl (fun(t:BT×Nat) o=>(t.1.ins t.2 o,t.2+1)) (.nil,0)|>.1
theorem a9o:∀P,absHeap (a1w P) 11 (boot_heap P).life=boot_heap P:=by intro P;kernel_rfl
noncomputable abbrev pw:Program:=PySem.Challenge.pw_nt0081_01
noncomputable def uc:Program:={pw with main:={pw.main with body:=[pw.main.body.getD 106 (.Pass ⟨0,0,0,0⟩)]}}
noncomputable def u4:List Str:=pw.boundNames.filter fun n=>!(n==("law":Str))
theorem aa9:∀w:World,((boot_heap w.params).isNs mainGlobals,(boot_heap w.params).objs.size,(boot_heap w.params).nsMap mainGlobals "__annotations__")=(true,11,some (.ref 6)):=by intro w;kernel_rfl
theorem aik:namesResolve PySem.Challenge.rw_nt0081_01.row.prog=true:=by
 (try rw[PySem.W.Fast.te2368527892694137696]);(try rw[PySem.W.Fast.te8377067652309620493]);kernel_rfl
theorem ajs:noRoadLSs {strict:=!(importedModules PySem.Challenge.rw_nt0081_01.row.prog.main.body).all cThrough.contains,foot:=none,bare:=(["vars","dir","locals"]:List Str).filter (readsOut PySem.Challenge.rw_nt0081_01.row.prog PySem.Challenge.rw_nt0081_01.row.prog.main.body)} PySem.Challenge.rw_nt0081_01.row.prog.main.body=true:=by
 (try rw[PySem.W.Fast.te2368527892694137696]);(try rw[PySem.W.Fast.te13343964577679436407]);(try rw[PySem.W.Fast.te17691160309236699985]);(try rw[PySem.W.Fast.te5923862056798008813]);(try rw[PySem.W.Fast.te8326940854005059898]);(try rw[PySem.W.Fast.te3471404346716756564]);(try rw[PySem.W.R.allR_eq]);(try rw[PySem.W.R.filterR_eq]);(try rw[PySem.W.Fast.sDec_eq]);kernel_rfl
theorem aho:namesMeet PySem.Challenge.rw_nt0081_01.prog PySem.Challenge.rw_nt0081_01.above (fun _ n=>!PySem.Challenge.rw_nt0081_01.own.contains n)=true:=by
 (try rw[PySem.W.Fast.te17119622794617884970]);(try rw[PySem.W.Fast.te10792542408131684335]);(try rw[PySem.W.Fast.te3471404346716756564]);(try rw[PySem.W.Fast.sDec_eq]);kernel_rfl
theorem apr:PySem.Challenge.rw_nt0081_01.wellSaid=true:=by
 unfold OpenLaw.wellSaid OpenRow.wellSaid OpenRow.partSaid looksOpen
 repeat'(with_reducible refine look_both ?_ ?_)
 all_goals first|(with_reducible exact aik)|(with_reducible exact ajs)|(with_reducible exact said5)|(with_reducible exact aho)|((try rw[PySem.W.Fast.te2368527892694137696]);(try rw[PySem.W.Fast.te11788848310118352699]);(try rw[PySem.W.Fast.te12862048085361865435]);(try rw[PySem.W.Fast.te9807087744658564304]);(try rw[PySem.W.Fast.te8377067652309620493]);(try rw[PySem.W.Fast.te14412699480532031325]);(try rw[PySem.W.Fast.te18344453789297297638]);(try rw[PySem.W.Fast.te13343964577679436407]);(try rw[PySem.W.Fast.te17691160309236699985]);(try rw[PySem.W.Fast.te5923862056798008813]);(try rw[PySem.W.Fast.te8326940854005059898]);(try rw[PySem.W.Fast.te17868728402115742887]);(try rw[PySem.W.Fast.te17119622794617884970]);(try rw[PySem.W.Fast.te2357444279172408678]);(try rw[PySem.W.Fast.te13582783067957832011]);(try rw[PySem.W.Fast.te5318747976498570220]);(try rw[PySem.W.Fast.te12749700546528644094]);(try rw[PySem.W.Fast.te10501279942588096481]);(try rw[PySem.W.Fast.te8179353310426384613]);(try rw[PySem.W.Fast.te9572597257264208301]);(try rw[PySem.W.Fast.te797321630700447069]);(try rw[PySem.W.Fast.te9558739934217749035]);(try rw[PySem.W.Fast.te16286561074155671207]);(try rw[PySem.W.Fast.te6984425678791042302]);(try rw[PySem.W.Fast.te12879404354523853263]);(try rw[PySem.W.Fast.te17095254045102204799]);(try rw[PySem.W.Fast.te482687673346738481]);(try rw[PySem.W.Fast.te10792542408131684335]);(try rw[PySem.W.Fast.te7723801398212525404]);(try rw[PySem.W.Fast.te3471404346716756564]);(try rw[PySem.W.R.allR_eq]);(try rw[PySem.W.R.filterR_eq]);(try rw[PySem.W.Fast.named_eq]);(try rw[PySem.W.Fast.sDec_eq]);kernel_rfl)
end
section
theorem kk{a n m:Nat}(h:a≤n)(q:Nat.ble n m=true):a≤m:=Nat.le_trans h (Nat.le_of_ble_eq_true q)
theorem big{a n:Nat}(h:a≤n)(q:Nat.ble n 9223372036854775807=true):(a:Int)<9223372036854775808:=Int.ofNat_lt.mpr (Nat.lt_succ_of_le (kk h q))
theorem a9d{a:Nat}(h:a=1∨a=2):a≤2:=h.elim (fun q=>Nat.le_succ_of_le (Nat.le_of_eq q)) Nat.le_of_eq
theorem ag4{a:Nat}(h:a=1∨a=2):1≤a:=h.elim (fun q=>Nat.le_of_eq q.symm) fun q=>Nat.le_trans (Nat.le_succ 1) (Nat.le_of_eq q.symm)
theorem r12{x:Nat}(h:1≤x) (g:x≤2):x=1∨x=2:=(Nat.lt_or_eq_of_le g).imp (fun q=>Nat.le_antisymm (Nat.le_of_lt_succ q) h) id
theorem om1{a b c:Nat}:a+(b+1)=c→a<c:=fun h=>Nat.lt_of_lt_of_eq (Nat.lt_succ_of_le (Nat.le_add_right a b)) h
theorem agb{a:Nat}:-9223372036854775808<(a:Int):=Int.lt_of_lt_of_le (by decide) (Int.natCast_nonneg a)
theorem ag8{a b c d e:Nat}:min (a-b) (c-d)=e+1→b<a:=fun h=>Nat.lt_of_sub_pos (Nat.le_trans (Nat.le_trans (Nat.succ_pos e) (Nat.le_of_eq h.symm)) (Nat.min_le_left ..))
theorem om0{a:Nat}:a≤50→a≤1000:=fun h=>kk h rfl
theorem om2{a b:Nat}:a+1<b→b=b-1+1:=fun h=>(Nat.sub_add_cancel (Nat.lt_of_le_of_lt (Nat.zero_le _) h)).symm
theorem om3{a:Nat}:a≤1000000→(a:Int)<9223372036854775808:=fun h=>big h rfl
theorem om4{a b:Nat}:a+1≤b→a<b:=by intros;solve_by_elim(maxDepth:=3)[Nat.le_trans,Nat.lt_of_lt_of_le,Nat.lt_of_le_of_lt,Nat.le_of_lt,Nat.lt_succ_of_le,Nat.le_succ_of_le,Nat.succ_le_of_lt,Nat.le_of_lt_succ,Nat.le_of_succ_le,Nat.le_add_right,Nat.le_add_left,Nat.zero_le,Nat.le_refl,Nat.lt_succ_self,Nat.not_lt_of_le,Nat.le_of_not_lt,Nat.lt_of_not_le,Nat.not_le_of_lt,Nat.le_of_eq,Nat.ne_of_lt,Nat.ne_of_gt,Nat.succ_pos,Nat.sub_le,Nat.min_le_left,Nat.min_le_right,Nat.succ_le_succ,Nat.lt_of_sub_pos,Eq.symm,Nat.lt_of_le_of_ne,Nat.sub_lt_of_lt,Nat.le_antisymm,Nat.sub_add_cancel,Nat.sub_le_of_le_add,And.left,And.right,And.intro]
theorem om5{a:Nat}:1≤a→a=a-1+1:=by intros;simp_all
theorem om6{a:Nat}:((a+1:Nat):Int)-1=(a:Int):=by intros;simp_all
theorem om7{a:Nat}:1≤a→(a:Int)-1=((a-1:Nat):Int):=fun h=>(Int.ofNat_sub h).symm
theorem om8{a b c:Nat}:a+(b+1)=c→a+1+b=c:=fun h=>(Nat.succ_add a b).trans h
theorem om9{a b:Nat}:a≤50→a-b<100:=fun h=>kk (n:=51) (Nat.succ_le_succ (Nat.le_trans (Nat.sub_le a b) h)) rfl
theorem aek{a b c:Nat}:a≤10000→b<a→c≤b→c+1≤1000000:=fun h g k=>kk (Nat.le_trans (Nat.succ_le_succ k) (Nat.le_trans g h)) rfl
theorem afa{a b c:Nat}:a<b→c≤a→c<b:=fun h g=>Nat.lt_of_le_of_lt g h
theorem afk{a b c:Nat}:1≤a→a≤b∧b≤a+(c-a)→1≤b:=fun h g=>Nat.le_trans h g.1
theorem afb{a b c:Nat}:a≤b→a≤c∧c≤a+(b-a)→c≤b:=fun h g=>Nat.le_trans g.2 (Nat.le_of_eq (Nat.add_sub_cancel' h))
theorem aeg{a b c d:Nat}:a+b+(c+1)≤d→a+(b+1)+c≤d:=fun h=>Nat.le_trans (Nat.le_of_eq (Nat.succ_add (a+b) c)) h
theorem agt{a b:Nat}:a<b→(a:Int)<(b:Int):=by intros;subst_vars;simp[*]
theorem ahq{a:Nat}:0<a→a=a-1+1:=fun h=>(Nat.sub_add_cancel h).symm
theorem ahb{a:Nat}:0<((a+1:Nat):Int):=by intros;simp_all
theorem age{a b:Nat}:a+0=b→¬(a:Int)<(b:Int):=fun h g=>Nat.lt_irrefl a (Nat.lt_of_lt_of_eq (Int.ofNat_lt.mp g) h.symm)
theorem ahe{a b c:Nat}:a+(b+1)=c→(a:Int)<(c:Int):=fun h=>Int.ofNat_lt.mpr (om1 h)
theorem ahm{a b:Nat}:a≤b→a+(b-a)=b:=fun h=>Nat.add_sub_cancel' h
theorem agj{a b c:Nat}:a≤1000→b+c≤a→b+c≤1000000:=fun h g=>kk (Nat.le_trans g h) rfl
theorem ahf{a:Nat}:a≤100→a≤1000000:=fun h=>kk h rfl
theorem ahy{a b:Nat}:a<b→a-1<b:=by intros;solve_by_elim(maxDepth:=3)[Nat.le_trans,Nat.lt_of_lt_of_le,Nat.lt_of_le_of_lt,Nat.le_of_lt,Nat.lt_succ_of_le,Nat.le_succ_of_le,Nat.succ_le_of_lt,Nat.le_of_lt_succ,Nat.le_of_succ_le,Nat.le_add_right,Nat.le_add_left,Nat.zero_le,Nat.le_refl,Nat.lt_succ_self,Nat.not_lt_of_le,Nat.le_of_not_lt,Nat.lt_of_not_le,Nat.not_le_of_lt,Nat.le_of_eq,Nat.ne_of_lt,Nat.ne_of_gt,Nat.succ_pos,Nat.sub_le,Nat.min_le_left,Nat.min_le_right,Nat.succ_le_succ,Nat.lt_of_sub_pos,Eq.symm,Nat.lt_of_le_of_ne,Nat.sub_lt_of_lt,Nat.le_antisymm,Nat.sub_add_cancel,Nat.sub_le_of_le_add,And.left,And.right,And.intro]
theorem ahg{a b c:Nat}:a-b=c+1→b+(0+1)+c≤a:=fun h=>Nat.le_trans (Nat.le_of_eq ((Nat.succ_add b c).trans (congrArg Nat.succ (Nat.add_comm b c)))) (Nat.add_lt_of_lt_sub (Nat.lt_of_lt_of_eq (Nat.lt_succ_self c) h.symm))
theorem ao6{P0:Prop}{a b c d:Nat}:a+64<b→P0∧c≤6→a+1+min c d<b:=fun h g=>Nat.lt_of_le_of_lt (Nat.add_le_add_left (Nat.le_trans (Nat.min_le_left ..) g.2) (a+1)) (Nat.lt_of_le_of_lt (Nat.add_le_add_left (Nat.le_of_ble_eq_true rfl:7≤64) a) h)
theorem aia{a:Int}:¬0≤a→a<0:=Int.not_le.mp
theorem ajb{a b c:Nat}:¬1000<a→b=a→c=b→c≤1000001:=fun h g k=>kk (n:=1000) (Nat.le_trans (Nat.le_of_eq (k.trans g)) (Nat.le_of_not_lt h)) rfl
theorem akh{a b:Nat}:a+1≤b→a≤b:=by intros;solve_by_elim(maxDepth:=3)[Nat.le_trans,Nat.lt_of_lt_of_le,Nat.lt_of_le_of_lt,Nat.le_of_lt,Nat.lt_succ_of_le,Nat.le_succ_of_le,Nat.succ_le_of_lt,Nat.le_of_lt_succ,Nat.le_of_succ_le,Nat.le_add_right,Nat.le_add_left,Nat.zero_le,Nat.le_refl,Nat.lt_succ_self,Nat.not_lt_of_le,Nat.le_of_not_lt,Nat.lt_of_not_le,Nat.not_le_of_lt,Nat.le_of_eq,Nat.ne_of_lt,Nat.ne_of_gt,Nat.succ_pos,Nat.sub_le,Nat.min_le_left,Nat.min_le_right,Nat.succ_le_succ,Nat.lt_of_sub_pos,Eq.symm,Nat.lt_of_le_of_ne,Nat.sub_lt_of_lt,Nat.le_antisymm,Nat.sub_add_cancel,Nat.sub_le_of_le_add,And.left,And.right,And.intro]
theorem amd{a:Nat}{b:Int}:a≤1000001→b=9223372036854775808→(a:Int)<b:=fun h g=>g▸big h rfl
theorem aou{a b:Nat}:a≤b→a+1≤b+1:=by intros;solve_by_elim(maxDepth:=3)[Nat.le_trans,Nat.lt_of_lt_of_le,Nat.lt_of_le_of_lt,Nat.le_of_lt,Nat.lt_succ_of_le,Nat.le_succ_of_le,Nat.succ_le_of_lt,Nat.le_of_lt_succ,Nat.le_of_succ_le,Nat.le_add_right,Nat.le_add_left,Nat.zero_le,Nat.le_refl,Nat.lt_succ_self,Nat.not_lt_of_le,Nat.le_of_not_lt,Nat.lt_of_not_le,Nat.not_le_of_lt,Nat.le_of_eq,Nat.ne_of_lt,Nat.ne_of_gt,Nat.succ_pos,Nat.sub_le,Nat.min_le_left,Nat.min_le_right,Nat.succ_le_succ,Nat.lt_of_sub_pos,Eq.symm,Nat.lt_of_le_of_ne,Nat.sub_lt_of_lt,Nat.le_antisymm,Nat.sub_add_cancel,Nat.sub_le_of_le_add,And.left,And.right,And.intro]
theorem anf{a b c:Nat}:a=b-c→c<b→b-(c+1)<a:=fun h g=>Nat.lt_of_lt_of_eq (Nat.pred_lt_self (Nat.sub_pos_of_lt g)) h.symm
theorem amv{a:Nat}:a≤1000000→(a:Int)≤1000000:=fun h=>Int.ofNat_le.mpr h
theorem al3{a b c:Nat}:a≤b+1→1≤c∧c≤a→a-c≤b:=fun h g=>Nat.sub_le_of_le_add (Nat.le_trans h (Nat.add_le_add_left g.1 b))
theorem alx{a:Nat}:a≤1000→(a:Int)<9223372036854775808:=fun h=>big h rfl
theorem al4{a b c:Nat}:a+b=c→1<b→(a:Int)+1<(c:Int):=fun h g=>Int.ofNat_lt.mpr (Nat.lt_of_lt_of_eq (Nat.add_lt_add_left g a) h)
theorem anv{a b c:Nat}:a+b=c→¬1<b→¬(a:Int)+1<(c:Int):=fun h g k=>g (Nat.lt_of_add_lt_add_left (Nat.lt_of_lt_of_eq (Int.ofNat_lt.mp k) h.symm))
theorem ajm{a b c:Nat}:a<b-c→c+a<b:=fun h=>Nat.add_lt_of_lt_sub' h
theorem amq{a:Nat}:a≤10→a≤1000:=fun h=>kk h rfl
theorem amt{a:Nat}:a≤50→a≤1000000:=fun h=>kk h rfl
theorem ao7{a b:Nat}:a<b→b≤50→a≤1000000:=fun h g=>kk (Nat.le_trans (Nat.le_of_lt h) g) rfl
theorem ako{a b:Nat}:a≤b→b≤50→a<100:=fun h g=>kk (Nat.succ_le_succ (Nat.le_trans h g)) rfl
theorem aos{a b:Nat}:a<b→b≤50→a<100:=fun h g=>kk (Nat.le_trans h g) rfl
theorem akw{a b:Nat}:a≤b→a≤b+1:=by intros;solve_by_elim(maxDepth:=3)[Nat.le_trans,Nat.lt_of_lt_of_le,Nat.lt_of_le_of_lt,Nat.le_of_lt,Nat.lt_succ_of_le,Nat.le_succ_of_le,Nat.succ_le_of_lt,Nat.le_of_lt_succ,Nat.le_of_succ_le,Nat.le_add_right,Nat.le_add_left,Nat.zero_le,Nat.le_refl,Nat.lt_succ_self,Nat.not_lt_of_le,Nat.le_of_not_lt,Nat.lt_of_not_le,Nat.not_le_of_lt,Nat.le_of_eq,Nat.ne_of_lt,Nat.ne_of_gt,Nat.succ_pos,Nat.sub_le,Nat.min_le_left,Nat.min_le_right,Nat.succ_le_succ,Nat.lt_of_sub_pos,Eq.symm,Nat.lt_of_le_of_ne,Nat.sub_lt_of_lt,Nat.le_antisymm,Nat.sub_add_cancel,Nat.sub_le_of_le_add,And.left,And.right,And.intro]
theorem aku{a:Nat}:a≤2500→a≤1000000:=fun h=>kk h rfl
theorem aj6{a b:Nat}:1≤a→a≤b→a-1<b:=fun h g=>Nat.lt_of_lt_of_le (Nat.pred_lt_self h) g
theorem ak7{a b c:Nat}:a≤10000→b<a→c=b→c+1≤1000000:=fun h g k=>kk (Nat.le_trans (Nat.succ_le_succ (Nat.le_of_eq k)) (Nat.le_trans g h)) rfl
theorem ajc{a b:Nat}:¬a<b→¬(a:Int)<(b:Int):=by intros;subst_vars;simp[*]
theorem aks{a b c:Nat}:a=b→c<b→c<a:=by intros;subst_vars;simp[*]
theorem ajz{a b:Nat}:¬a<b→b≤a:=by intros;simp_all
theorem amz{a b:Nat}:a<b→min a b=a:=fun h=>Nat.min_eq_left (Nat.le_of_lt h)
theorem ajf{a b c:Nat}:a+(b+1)=c→a-1<c:=fun h=>Nat.lt_of_le_of_lt (Nat.sub_le a 1) (om1 h)
theorem aka{a:Nat}:a≤50→a≤10000:=fun h=>kk h rfl
theorem aop{a b c d e:Nat}:min (a-b) (c-d)=e+1→d<c:=fun h=>Nat.lt_of_sub_pos (Nat.le_trans (Nat.le_trans (Nat.succ_pos e) (Nat.le_of_eq h.symm)) (Nat.min_le_right ..))
theorem ams{a b:Nat}:1≤a→((b+a-1:Nat):Int)+1=((b+a:Nat):Int):=fun h=>congrArg Int.ofNat (Nat.sub_add_cancel (Nat.le_trans h (Nat.le_add_left ..)))
theorem anh{a b:Nat}:a=1∨a=2→1≤b→1≤min a b:=fun h g=>Nat.le_min_of_le_of_le (ag4 h) g
theorem al5{a b c d:Nat}:1≤a→a≤min b (c-d)→d<c:=fun h g=>Nat.lt_of_sub_pos (Nat.le_trans h (Nat.le_trans g (Nat.min_le_right ..)))
theorem ajn{a:Nat}:0<a→0<(a:Int):=by intros;simp_all
theorem aip{a:Int}{b:Nat}:a=(b:Int)→0≤a:=by intros;simp_all
theorem aj0{a:Int}:0≤a→-9223372036854775808<a:=fun h=>Int.lt_of_lt_of_le (by decide) h
theorem ajq:1≤2:=by intros;solve_by_elim(maxDepth:=3)[Nat.le_trans,Nat.lt_of_lt_of_le,Nat.lt_of_le_of_lt,Nat.le_of_lt,Nat.lt_succ_of_le,Nat.le_succ_of_le,Nat.succ_le_of_lt,Nat.le_of_lt_succ,Nat.le_of_succ_le,Nat.le_add_right,Nat.le_add_left,Nat.zero_le,Nat.le_refl,Nat.lt_succ_self,Nat.not_lt_of_le,Nat.le_of_not_lt,Nat.lt_of_not_le,Nat.not_le_of_lt,Nat.le_of_eq,Nat.ne_of_lt,Nat.ne_of_gt,Nat.succ_pos,Nat.sub_le,Nat.min_le_left,Nat.min_le_right,Nat.succ_le_succ,Nat.lt_of_sub_pos,Eq.symm,Nat.lt_of_le_of_ne,Nat.sub_lt_of_lt,Nat.le_antisymm,Nat.sub_add_cancel,Nat.sub_le_of_le_add,And.left,And.right,And.intro]
theorem ai5{a:Nat}:a<6→1+a≤1000000:=fun h=>kk (n:=6) (Nat.le_trans (Nat.le_of_eq (Nat.add_comm 1 a)) h) rfl
theorem amk{a:Nat}:a<3→a≤1000000:=fun h=>kk (Nat.le_of_lt h) rfl
theorem ami{a b:Nat}:1≤a→b<b+a:=fun h=>Nat.lt_add_of_pos_right h
theorem ak0{a b:Nat}:a≤6→b≤a→b≤50:=fun h g=>kk (Nat.le_trans g h) rfl
theorem anu:2500≤10000:=by intros;subst_vars;simp[*]
theorem aon{a b c d:Nat}:a+b+(c+1)≤d→a+b<d:=fun h=>Nat.lt_of_lt_of_le (Nat.lt_succ_of_le (Nat.le_add_right (a+b) c)) h
theorem am6{a b:Nat}:a<b+1→a≠b→a<b:=by lia
theorem ap3{a:Nat}:a≤a+1:=by intros;subst_vars;simp[*]
theorem ap1{P0:Prop}{a:Nat}:P0∧a+1≤6→a≤6:=fun h=>Nat.le_of_succ_le h.2
theorem aq4{a b:Nat}:a≤1000001→a=b→b≤1000001:=by intros;subst_vars;simp[*]
theorem ape{a:Int}:0≤a→¬a<0:=by intros;simp_all
theorem ap5{a:Int}{b:Nat}:0≤a→a<(b:Int)→0≤a∧a<(b:Int):=fun h g=>⟨h,g⟩
theorem aqa{a:Int}{b:Nat}:¬0≤a→0≤a+(b:Int)→0≤a+(b:Int)∧a+(b:Int)<(b:Int):=fun h g=>⟨g,Eq.subst (motive:=fun x=>a+b<x) (Int.zero_add (b:Int)) (Int.add_lt_add_right (Int.not_le.mp h) b)⟩
theorem apx{a b c:Nat}:a≤b→min (min c b-a) (b-a)=min (c-a) (b-a):=fun _=>(Nat.sub_min_sub_right ..).trans ((congrArg (·-a) (Nat.min_eq_left (Nat.min_le_right c b))).trans (Nat.sub_min_sub_right ..).symm)
theorem apb{a:Nat}:a<63→a+1≤64:=by intros;solve_by_elim(maxDepth:=3)[Nat.le_trans,Nat.lt_of_lt_of_le,Nat.lt_of_le_of_lt,Nat.le_of_lt,Nat.lt_succ_of_le,Nat.le_succ_of_le,Nat.succ_le_of_lt,Nat.le_of_lt_succ,Nat.le_of_succ_le,Nat.le_add_right,Nat.le_add_left,Nat.zero_le,Nat.le_refl,Nat.lt_succ_self,Nat.not_lt_of_le,Nat.le_of_not_lt,Nat.lt_of_not_le,Nat.not_le_of_lt,Nat.le_of_eq,Nat.ne_of_lt,Nat.ne_of_gt,Nat.succ_pos,Nat.sub_le,Nat.min_le_left,Nat.min_le_right,Nat.succ_le_succ,Nat.lt_of_sub_pos,Eq.symm,Nat.lt_of_le_of_ne,Nat.sub_lt_of_lt,Nat.le_antisymm,Nat.sub_add_cancel,Nat.sub_le_of_le_add,And.left,And.right,And.intro]
theorem aq7{a b c d:Nat}:a+b≤1000000→c=a→d=b→c+d≤1000001:=fun h g k=>Nat.le_succ_of_le (Nat.le_trans (Nat.add_le_add (Nat.le_of_eq g) (Nat.le_of_eq k)) h)
theorem apc{a:Int}:0≤a→a≤1000000→-9223372036854775808≤a∧a<9223372036854775808:=fun h g=>⟨Int.le_trans (by decide) h,Int.lt_of_le_of_lt g (by decide)⟩
theorem apm{a:Int}:a≤1000000→a≤1152921504606846975:=fun h=>Int.le_trans h (by decide)
theorem apa{a:Int}:a≤1000000→a≤16777216:=fun h=>Int.le_trans h (by decide)
theorem app{a:Int}:a≤1000000→a.toNat≤1000001:=fun h=>Nat.le_succ_of_le (Int.toNat_le.mpr h)
theorem apf{a b c:Nat}:a≤b→min c a≤b:=fun h=>Nat.le_trans (Nat.min_le_right ..) h
theorem aq9{a b:Nat}:a<b→a≠b:=by intros;solve_by_elim(maxDepth:=3)[Nat.le_trans,Nat.lt_of_lt_of_le,Nat.lt_of_le_of_lt,Nat.le_of_lt,Nat.lt_succ_of_le,Nat.le_succ_of_le,Nat.succ_le_of_lt,Nat.le_of_lt_succ,Nat.le_of_succ_le,Nat.le_add_right,Nat.le_add_left,Nat.zero_le,Nat.le_refl,Nat.lt_succ_self,Nat.not_lt_of_le,Nat.le_of_not_lt,Nat.lt_of_not_le,Nat.not_le_of_lt,Nat.le_of_eq,Nat.ne_of_lt,Nat.ne_of_gt,Nat.succ_pos,Nat.sub_le,Nat.min_le_left,Nat.min_le_right,Nat.succ_le_succ,Nat.lt_of_sub_pos,Eq.symm,Nat.lt_of_le_of_ne,Nat.sub_lt_of_lt,Nat.le_antisymm,Nat.sub_add_cancel,Nat.sub_le_of_le_add,And.left,And.right,And.intro]
theorem apy{a b c:Nat}:a≤1000001→min b a-c≤1000001:=fun h=>Nat.le_trans (Nat.sub_le ..) (Nat.le_trans (Nat.min_le_right ..) h)
theorem apd{a b c:Nat}:a<b→c=b→a<c:=by intros;simp_all
theorem apz{a b:Nat}:a≤1000001→min b a≤1000001:=fun h=>Nat.le_trans (Nat.min_le_right ..) h
theorem apw{a:Nat}:a≤15→0+a≤1000000:=fun h=>kk (Nat.le_trans (Nat.le_of_eq (Nat.zero_add a)) h) rfl
theorem apl{a:Nat}:a-1<a→a≤a-1+1:=fun h=>Nat.le_of_eq (Nat.sub_add_cancel (Nat.lt_of_le_of_lt (Nat.zero_le _) h)).symm
theorem aq2{a:Nat}:¬a-1<a→a=0:=fun h=>(Nat.eq_zero_or_pos a).resolve_right fun q=>h (Nat.pred_lt_self q)
theorem aq5{a b c d:Nat}:a=b→b+c≤1000000→d=c→a+d≤1000001:=fun h g k=>Nat.le_succ_of_le (Nat.le_trans (Nat.add_le_add (Nat.le_of_eq h) (Nat.le_of_eq k)) g)
theorem aq8{P0:Prop}{a:Int}{b c:Nat}:0≤a∧a≤(b:Int)∧P0→c=b→min a.toNat c=a.toNat:=fun h g=>Nat.min_eq_left (Nat.le_trans (Int.toNat_le.mpr h.2.1) (Nat.le_of_eq g.symm))
theorem ap9{P0:Prop}{a:Int}{b c:Nat}:0≤a∧a≤(b:Int)∧P0→c≤1000001→c=b→-9223372036854775808≤a∧a<9223372036854775808:=fun h g k=>⟨Int.le_trans (by decide) h.1,Int.lt_of_le_of_lt h.2.1 (big (Nat.le_trans (Nat.le_of_eq k.symm) g) rfl)⟩
theorem apo{a b:Nat}{c:Int}:a=b→b+1≤1000000→min c.toNat a+(a-c.toNat+1)≤1000001:=fun h g=>Nat.succ_le_succ (Nat.le_trans (Nat.le_of_eq ((Nat.add_comm ..).trans ((congrArg (a-c.toNat+·) (Nat.min_comm ..)).trans (Nat.sub_add_min_cancel a c.toNat)))) (Nat.le_trans (Nat.le_of_eq h) (Nat.le_of_succ_le g)))
theorem ap2{a:Nat}:a≤1000001→a-1≤1000001:=fun h=>Nat.le_trans (Nat.sub_le a 1) h
theorem aq1{a b:Nat}:a<b→¬(a:Int)<0:=by intros;subst_vars;simp[*]
theorem apu{a b:Nat}:a=b+2→b≤a:=fun h=>Nat.le_trans (Nat.le_add_right b 2) (Nat.le_of_eq h.symm)
theorem ala{a b:Nat}:a=b+2→b+1<a:=by intros;simp_all
theorem ak4{a b:Nat}:a=b+5→b≤a:=by intros;simp_all
theorem ali{a b:Nat}:a=b+5→b+4<a:=by intros;simp_all
theorem aj8{a:Nat}:a≤1000→a≤16777216+1:=fun h=>kk h rfl
theorem ajd{a b:Nat}:(a:Int)<(b:Int)→a<b:=by intros;simp_all
theorem aj5{a:Int}{b c:Nat}{d:Int}:0≤a∧a<(b:Int)→c≤1000001→c=b→d=9223372036854775808→a<d:=fun h g k e=>e▸Int.lt_trans h.2 (big (Nat.le_trans (Nat.le_of_eq k.symm) g) rfl)
theorem al6{a:Int}{b c:Nat}:0≤a∧a<(b:Int)→c=b→a<(c:Int):=by intros;simp_all
theorem am7{a b:Nat}:a+64<b→a+1<b:=fun h=>Nat.lt_of_le_of_lt (Nat.add_le_add_left (Nat.le_of_ble_eq_true rfl:1≤64) a) h
theorem aok{P0:Prop}{a:Nat}:¬1000<a∧P0→a≤1000:=fun h=>Nat.le_of_not_lt h.1
theorem am8{a b c:Nat}:a=b→c=b→a=c:=by intros;subst_vars;simp[*]
theorem aoh{a b c:Nat}:a=b→c=a→b=c:=by intros;subst_vars;simp[*]
theorem anc{a b:Nat}:a=b→b≤a:=by intros;subst_vars;simp[*]
theorem ano{a b:Nat}:a=b→a≤b:=by intros;solve_by_elim(maxDepth:=3)[Nat.le_trans,Nat.lt_of_lt_of_le,Nat.lt_of_le_of_lt,Nat.le_of_lt,Nat.lt_succ_of_le,Nat.le_succ_of_le,Nat.succ_le_of_lt,Nat.le_of_lt_succ,Nat.le_of_succ_le,Nat.le_add_right,Nat.le_add_left,Nat.zero_le,Nat.le_refl,Nat.lt_succ_self,Nat.not_lt_of_le,Nat.le_of_not_lt,Nat.lt_of_not_le,Nat.not_le_of_lt,Nat.le_of_eq,Nat.ne_of_lt,Nat.ne_of_gt,Nat.succ_pos,Nat.sub_le,Nat.min_le_left,Nat.min_le_right,Nat.succ_le_succ,Nat.lt_of_sub_pos,Eq.symm,Nat.lt_of_le_of_ne,Nat.sub_lt_of_lt,Nat.le_antisymm,Nat.sub_add_cancel,Nat.sub_le_of_le_add,And.left,And.right,And.intro]
theorem ao3{a b c d:Nat}:a+2*(b+1)≤c→d≤a+1→d<c:=fun h g=>Nat.le_trans (Nat.le_trans (Nat.succ_le_succ g) (Nat.add_le_add_left (Nat.le_add_left 2 (2*b)) a)) h
theorem alf{a b c d:Nat}:a+8*(b+1)+64<c→d≤a+4→d+3+64<c:=fun h g=>Nat.lt_of_le_of_lt (Nat.le_trans (Nat.add_le_add_right g 67) (Nat.add_le_add_right (Nat.le_trans (Nat.le_add_right a (8*b)) (Nat.le_succ _)) 71)) h
theorem aof{a b c d:Nat}:a+2*(b+1)≤c→d≤a+1→d+1+2*b≤c:=fun h g=>Nat.le_trans (Nat.le_trans (Nat.le_of_eq (Nat.succ_add d (2*b))) (Nat.succ_le_succ (Nat.le_trans (Nat.add_le_add_right g (2*b)) (Nat.le_of_eq (Nat.succ_add a (2*b)))))) h
theorem ame{a b c d:Nat}:a+8*(b+1)+64<c→d≤a+4→d+3+8*b+64<c:=fun h g=>Nat.lt_of_le_of_lt (Nat.add_le_add_right (Nat.le_trans (Nat.le_of_eq (Nat.add_right_comm d 3 (8*b))) (Nat.le_trans (Nat.add_le_add_right (Nat.le_trans (Nat.add_le_add_right g (8*b)) (Nat.le_of_eq (Nat.add_right_comm a 4 (8*b)))) 3) (Nat.le_succ _))) 64) h
theorem ao0{a b c:Nat}:a≤b∧b≤a+c→a+c-b≤c:=fun h=>Nat.sub_le_of_le_add (Nat.le_trans (Nat.le_of_eq (Nat.add_comm a c)) (Nat.add_le_add_left h.1 c))
theorem ant{a b c d:Nat}:a≤b→c=d→d≤b∧b≤d+a→c=b-a+(d+a-b):=fun h g k=>g.trans (Nat.add_right_cancel (m:=a) ((Nat.add_right_comm (b-a) (d+a-b) a).trans ((congrArg (·+(d+a-b)) (Nat.sub_add_cancel h)).trans (Nat.add_sub_cancel' k.2))).symm)
theorem amo{a:Nat}:¬(63:Int)<(a:Int)→a≤63:=fun h=>Nat.le_of_not_lt fun q=>h (Int.ofNat_lt.mpr q)
theorem aiz{a b:Nat}:a≤63→b=a→b≤1000001:=fun h g=>kk (Nat.le_trans (Nat.le_of_eq g) h) rfl
theorem am5{a b:Nat}:a+8*21+64<b→a+3+64<b:=fun h=>Nat.lt_of_le_of_lt (Nat.add_le_add_left (Nat.le_of_ble_eq_true rfl:67≤232) a) h
theorem akt{a b:Nat}:a+2*21≤b→a+1+2*20≤b:=fun h=>Nat.le_trans (Nat.le_succ _) h
theorem alh{a b:Nat}:a+8*21+64<b→a+3+8*20+64<b:=fun h=>Nat.lt_of_le_of_lt (Nat.add_le_add_left (Nat.le_of_ble_eq_true rfl:227≤232) a) h
theorem akn{a:Nat}:0<a→¬0≤-1:=by intros;grind
theorem ai8{a:Nat}:0<a→(-1+(a:Int)).toNat=a-1:=fun _=>(congrArg Int.toNat (Int.add_comm (-1) a)).trans (Int.toNat_sub a 1)
theorem ak8{a:Nat}:a≤3→a≤1000000:=fun h=>kk h rfl
theorem ai3{a b:Nat}:a≤1000→min a b≤1000000:=fun h=>kk (Nat.le_trans (Nat.min_le_left ..) h) rfl
theorem ajl{P0:Prop}{a:Nat}:P0∧1<a→1≤2∧2≤a:=fun h=>⟨Nat.le_succ 1,h.2⟩
theorem an2{a:Nat}:0<a→1≤1∧1≤a:=fun h=>⟨Nat.le_refl 1,h⟩
theorem ank{a b:Nat}:1≤a∧a≤b→b=b-1+1:=fun h=>(Nat.sub_add_cancel (Nat.le_trans h.1 h.2)).symm
theorem ao9{a b c:Nat}:1≤a∧a≤b→b=c+1→b-a≤c:=fun h g=>Nat.sub_le_of_le_add (Nat.le_trans (Nat.le_of_eq g) (Nat.add_le_add_left h.1 c))
theorem amb{a b c:Nat}:1≤a→a≤b→(c:Int)<((c+b:Nat):Int):=fun h g=>Int.ofNat_lt.mpr (Nat.lt_add_of_pos_right (Nat.le_trans h g))
theorem ak9{a b:Nat}:((a:Int)-(b:Int)).toNat=a-b:=by intros;subst_vars;simp[*]
theorem aio{a b:Nat}:min a b≤a:=by intros;solve_by_elim(maxDepth:=3)[Nat.le_trans,Nat.lt_of_lt_of_le,Nat.lt_of_le_of_lt,Nat.le_of_lt,Nat.lt_succ_of_le,Nat.le_succ_of_le,Nat.succ_le_of_lt,Nat.le_of_lt_succ,Nat.le_of_succ_le,Nat.le_add_right,Nat.le_add_left,Nat.zero_le,Nat.le_refl,Nat.lt_succ_self,Nat.not_lt_of_le,Nat.le_of_not_lt,Nat.lt_of_not_le,Nat.not_le_of_lt,Nat.le_of_eq,Nat.ne_of_lt,Nat.ne_of_gt,Nat.succ_pos,Nat.sub_le,Nat.min_le_left,Nat.min_le_right,Nat.succ_le_succ,Nat.lt_of_sub_pos,Eq.symm,Nat.lt_of_le_of_ne,Nat.sub_lt_of_lt,Nat.le_antisymm,Nat.sub_add_cancel,Nat.sub_le_of_le_add,And.left,And.right,And.intro]
theorem ajk{a b c:Nat}:a≤50*b→c≤50→a+(c-b)≤50*b+50:=fun h g=>Nat.add_le_add h (Nat.le_trans (Nat.sub_le ..) g)
theorem akj{a b:Nat}:0<a→(b:Int)<((b+a:Nat):Int):=fun h=>Int.ofNat_lt.mpr (Nat.lt_add_of_pos_right h)
theorem an0{a b c d:Nat}:a+b<c→c≤50→d≤10*(b+1)→d≤1000:=fun h g k=>kk (n:=10*50) (Nat.le_trans k (Nat.mul_le_mul_left 10 (Nat.le_trans (Nat.succ_le_succ (Nat.le_add_left b a)) (Nat.le_trans h g)))) rfl
theorem ao1{a b:Nat}:¬0<a→¬(b:Int)<((b+a:Nat):Int):=fun h g=>h (Nat.pos_of_lt_add_right (Int.ofNat_lt.mp g))
theorem aj4{a b c d:Nat}:a≤50*b+c→b+c<d→d≤50→a+1≤1000000:=fun h g k=>kk (n:=50*50+50) (Nat.le_trans (Nat.succ_le_succ h) (Nat.add_le_add (Nat.mul_le_mul_left 50 (Nat.le_trans (Nat.le_add_right b c) (Nat.le_trans (Nat.le_of_lt g) k))) (Nat.le_trans (Nat.succ_le_succ (Nat.le_add_left c b)) (Nat.le_trans g k)))) rfl
theorem alv{a b c:Nat}:a≤50*b+c→a≤50*b+(c+1):=by intros;solve_by_elim(maxDepth:=3)[Nat.le_trans,Nat.lt_of_lt_of_le,Nat.lt_of_le_of_lt,Nat.le_of_lt,Nat.lt_succ_of_le,Nat.le_succ_of_le,Nat.succ_le_of_lt,Nat.le_of_lt_succ,Nat.le_of_succ_le,Nat.le_add_right,Nat.le_add_left,Nat.zero_le,Nat.le_refl,Nat.lt_succ_self,Nat.not_lt_of_le,Nat.le_of_not_lt,Nat.lt_of_not_le,Nat.not_le_of_lt,Nat.le_of_eq,Nat.ne_of_lt,Nat.ne_of_gt,Nat.succ_pos,Nat.sub_le,Nat.min_le_left,Nat.min_le_right,Nat.succ_le_succ,Nat.lt_of_sub_pos,Eq.symm,Nat.lt_of_le_of_ne,Nat.sub_lt_of_lt,Nat.le_antisymm,Nat.sub_add_cancel,Nat.sub_le_of_le_add,And.left,And.right,And.intro]
theorem alz{a:Nat}:a≤10→a≤10*(0+1):=by intros;solve_by_elim(maxDepth:=3)[Nat.le_trans,Nat.lt_of_lt_of_le,Nat.lt_of_le_of_lt,Nat.le_of_lt,Nat.lt_succ_of_le,Nat.le_succ_of_le,Nat.succ_le_of_lt,Nat.le_of_lt_succ,Nat.le_of_succ_le,Nat.le_add_right,Nat.le_add_left,Nat.zero_le,Nat.le_refl,Nat.lt_succ_self,Nat.not_lt_of_le,Nat.le_of_not_lt,Nat.lt_of_not_le,Nat.not_le_of_lt,Nat.le_of_eq,Nat.ne_of_lt,Nat.ne_of_gt,Nat.succ_pos,Nat.sub_le,Nat.min_le_left,Nat.min_le_right,Nat.succ_le_succ,Nat.lt_of_sub_pos,Eq.symm,Nat.lt_of_le_of_ne,Nat.sub_lt_of_lt,Nat.le_antisymm,Nat.sub_add_cancel,Nat.sub_le_of_le_add,And.left,And.right,And.intro]
theorem ait{a b:Nat}:a≤b→¬a=b→a<b:=fun h g=>Nat.lt_of_le_of_ne h g
theorem ain{a b c:Nat}:a<b-c→c+a+1≤b:=fun h=>Nat.add_lt_of_lt_sub' h
theorem aml{a b c:Nat}:a≤50→b≤50*c→b+(a-c)≤50*(c+1):=fun h g=>Nat.add_le_add g (Nat.le_trans (Nat.sub_le ..) h)
theorem ai6{a b:Nat}:a<b+0→a<b:=by intros;solve_by_elim(maxDepth:=3)[Nat.le_trans,Nat.lt_of_lt_of_le,Nat.lt_of_le_of_lt,Nat.le_of_lt,Nat.lt_succ_of_le,Nat.le_succ_of_le,Nat.succ_le_of_lt,Nat.le_of_lt_succ,Nat.le_of_succ_le,Nat.le_add_right,Nat.le_add_left,Nat.zero_le,Nat.le_refl,Nat.lt_succ_self,Nat.not_lt_of_le,Nat.le_of_not_lt,Nat.lt_of_not_le,Nat.not_le_of_lt,Nat.le_of_eq,Nat.ne_of_lt,Nat.ne_of_gt,Nat.succ_pos,Nat.sub_le,Nat.min_le_left,Nat.min_le_right,Nat.succ_le_succ,Nat.lt_of_sub_pos,Eq.symm,Nat.lt_of_le_of_ne,Nat.sub_lt_of_lt,Nat.le_antisymm,Nat.sub_add_cancel,Nat.sub_le_of_le_add,And.left,And.right,And.intro]
theorem ajo{a b:Nat}:a≤2500→b<a→b≤1000000:=fun h g=>kk (Nat.le_trans (Nat.le_of_lt g) h) rfl
theorem alb{a b c:Nat}:a≤3→b<a→c=b→c+1≤1000000:=fun h g k=>kk (Nat.le_trans (Nat.succ_le_succ (Nat.le_of_eq k)) (Nat.le_trans g h)) rfl
theorem aj1{a:Nat}:a≤1000→a≤1000000:=fun h=>kk h rfl
theorem amp{a:Nat}:a≤1000000→0≤(a:Int):=by intros;subst_vars;simp[*]
theorem al2{a:Nat}:a≤1000000→((a+1:Nat):Int)<9223372036854775808:=fun h=>big (Nat.succ_le_succ h) rfl
theorem am3{a b:Nat}:a+b≤1000000→(a:Int)<9223372036854775808:=fun h=>big (Nat.le_trans (Nat.le_add_right a b) h) rfl
theorem alp{a b:Nat}:a+b≤1000000→((a+b:Nat):Int)<9223372036854775808:=fun h=>big h rfl
theorem aj2{a b c:Nat}:a≤1000→b+c≤a→c≤1000000:=fun h g=>kk (Nat.le_trans (Nat.le_add_left c b) (Nat.le_trans g h)) rfl
theorem aoq{a b c:Nat}:a≤1000→b+c≤a→c≤10000:=fun h g=>kk (Nat.le_trans (Nat.le_add_left c b) (Nat.le_trans g h)) rfl
theorem ajp{a:Nat}:a≤1000→a≤10000:=fun h=>kk h rfl
theorem akk{a b:Nat}:a<b-1→1+a<b:=fun h=>Nat.add_lt_of_lt_sub' h
theorem aol{a b c:Nat}:a≤100→b<a-1→c≤2+b→c≤1000000:=fun h g k=>kk (n:=2+100) (Nat.le_trans k (Nat.add_le_add_left (Nat.le_trans (Nat.le_of_lt g) (Nat.le_trans (Nat.sub_le ..) h)) 2)) rfl
theorem aoi{a b:Nat}:a<b→0≤(a:Int)∧(a:Int)<(b:Int):=by intros;subst_vars;simp[*]
theorem ajj{a b:Nat}:a≤500+10*b→a≤500+10*(b+1):=fun h=>Nat.le_trans h (Nat.le_add_right _ 10)
theorem aiy{a:Nat}:a≤500→a≤500+10*0:=by intros;solve_by_elim(maxDepth:=3)[Nat.le_trans,Nat.lt_of_lt_of_le,Nat.lt_of_le_of_lt,Nat.le_of_lt,Nat.lt_succ_of_le,Nat.le_succ_of_le,Nat.succ_le_of_lt,Nat.le_of_lt_succ,Nat.le_of_succ_le,Nat.le_add_right,Nat.le_add_left,Nat.zero_le,Nat.le_refl,Nat.lt_succ_self,Nat.not_lt_of_le,Nat.le_of_not_lt,Nat.lt_of_not_le,Nat.not_le_of_lt,Nat.le_of_eq,Nat.ne_of_lt,Nat.ne_of_gt,Nat.succ_pos,Nat.sub_le,Nat.min_le_left,Nat.min_le_right,Nat.succ_le_succ,Nat.lt_of_sub_pos,Eq.symm,Nat.lt_of_le_of_ne,Nat.sub_lt_of_lt,Nat.le_antisymm,Nat.sub_add_cancel,Nat.sub_le_of_le_add,And.left,And.right,And.intro]
theorem aow{a b:Nat}:a≤50→a-b≤50:=fun h=>Nat.le_trans (Nat.sub_le a b) h
theorem ake{a b c d:Nat}:a<b→b=c-d→d+a<c:=fun h g=>Nat.add_lt_of_lt_sub' (Nat.lt_of_lt_of_eq h g)
theorem ajr{a b c:Nat}:a<b→b≤50→c≤10*a→c≤500:=fun h g k=>Nat.le_trans k (Nat.mul_le_mul_left 10 (Nat.le_trans (Nat.le_of_lt h) g))
theorem aig{a b c:Nat}:a=b→c<a+0→c<b:=fun h g=>Nat.lt_of_lt_of_eq g h
theorem akx{a b c:Nat}:a<b→b≤50→c≤10*(a+1)→c≤1000000:=fun h g k=>kk (n:=10*50) (Nat.le_trans k (Nat.mul_le_mul_left 10 (Nat.le_trans h g))) rfl
theorem aog{a b:Nat}:a≤10→b=a→b≤1000000:=fun h g=>kk (Nat.le_trans (Nat.le_of_eq g) h) rfl
theorem akc{a:Nat}:a≤10→a≤1000000:=fun h=>kk h rfl
theorem aov{a b:Nat}:a+0=b→1≤a→a-1<b:=fun h g=>Nat.lt_of_lt_of_eq (Nat.pred_lt_self g) h
theorem ai4{a b c:Nat}:a+(b+1)=c→¬a=c:=fun h=>Nat.ne_of_lt (om1 h)
theorem akr{a b c:Nat}:a+b<c→a+b+1≤c:=by intros;solve_by_elim(maxDepth:=3)[Nat.le_trans,Nat.lt_of_lt_of_le,Nat.lt_of_le_of_lt,Nat.le_of_lt,Nat.lt_succ_of_le,Nat.le_succ_of_le,Nat.succ_le_of_lt,Nat.le_of_lt_succ,Nat.le_of_succ_le,Nat.le_add_right,Nat.le_add_left,Nat.zero_le,Nat.le_refl,Nat.lt_succ_self,Nat.not_lt_of_le,Nat.le_of_not_lt,Nat.lt_of_not_le,Nat.not_le_of_lt,Nat.le_of_eq,Nat.ne_of_lt,Nat.ne_of_gt,Nat.succ_pos,Nat.sub_le,Nat.min_le_left,Nat.min_le_right,Nat.succ_le_succ,Nat.lt_of_sub_pos,Eq.symm,Nat.lt_of_le_of_ne,Nat.sub_lt_of_lt,Nat.le_antisymm,Nat.sub_add_cancel,Nat.sub_le_of_le_add,And.left,And.right,And.intro]
theorem aj7{a b c:Nat}:a+1≤b∧b≤a+1+c→a≤b∧b≤a+(c+1):=fun h=>⟨Nat.le_of_succ_le h.1,Nat.le_trans h.2 (Nat.le_of_eq (Nat.succ_add a c))⟩
theorem an4{a b c:Nat}:a≤50→b<a→c≤b→c+1≤1000000:=fun h g k=>kk (Nat.le_trans (Nat.succ_le_succ k) (Nat.le_trans g h)) rfl
theorem al7{a:Nat}:a≤50→a≤100:=fun h=>kk h rfl
theorem amu{a b:Nat}:a≤3→b=a→b≤10:=fun h g=>kk (Nat.le_trans (Nat.le_of_eq g) h) rfl
theorem alw{a b c:Nat}:a≤100→b<a→c=b→c+1≤1000000:=fun h g k=>kk (Nat.le_trans (Nat.succ_le_succ (Nat.le_of_eq k)) (Nat.le_trans g h)) rfl
theorem aly{a:Nat}:a≤10→a+1≤1000000:=fun h=>kk (Nat.succ_le_succ h) rfl
theorem am9{a b c d e:Nat}:min (a-b) (c-d)=e+1→min (a-(b+(0+1))) (c-(d+1))=e:=fun h=>(Nat.sub_min_sub_right (a-b) (c-d) 1).trans (congrArg Nat.pred h)
theorem ana{a b c d e:Nat}:a≤10→min (a-b) (c-d)=e+1→b+(0+1)≤10:=fun h g=>Nat.le_trans (ag8 g) h
theorem aid{a b c:Nat}:a≤10→min a (b-c)<100:=fun h=>kk (n:=11) (Nat.succ_le_succ (Nat.le_trans (Nat.min_le_left ..) h)) rfl
theorem amy{a b c d:Nat}:a=1∨a=2→1≤b→b≤min a (c-d)→min a (c-d)=1∨min a (c-d)=2:=fun h g k=>r12 (Nat.le_trans g k) (Nat.le_trans (Nat.min_le_left ..) (a9d h))
theorem akb{a b c d:Nat}:a≤b∧b<a+c→c≤d-a→b<d:=fun h g=>Nat.lt_of_not_le fun q=>Nat.lt_irrefl c (Nat.lt_of_le_of_lt (Nat.le_trans g (Nat.sub_le_sub_right q a)) (Nat.sub_lt_left_of_lt_add h.1 h.2))
theorem ajh{a:Nat}:1≤a→0<(a:Int):=by lia
theorem alt{a b c:Nat}:a=1∨a=2→b=a→min c b≤1000000:=fun h g=>kk (n:=2) (Nat.le_trans (Nat.min_le_right ..) (Nat.le_trans (Nat.le_of_eq g) (a9d h))) rfl
theorem anl{a b:Nat}:1≤a→b=1∨b=2→a<b→a=1:=fun h g k=>Nat.le_antisymm (Nat.le_of_lt_succ (Nat.lt_of_lt_of_le k (a9d g))) h
theorem alg{a b:Nat}:¬a<b→a≤b→b=a:=fun h g=>Nat.le_antisymm (Nat.le_of_not_lt h) g
theorem aki{a b c d:Nat}:a=1∨a=2→b≤min a (c-d)→b≤1000000:=fun h g=>kk (n:=2) (Nat.le_trans g (Nat.le_trans (Nat.min_le_left ..) (a9d h))) rfl
theorem akf{a b c d e:Nat}:a=1∨a=2→b≤min a (c-d)→e=b→e≤100:=fun h g k=>kk (n:=2) (Nat.le_trans (Nat.le_of_eq k) (Nat.le_trans g (Nat.le_trans (Nat.min_le_left ..) (a9d h)))) rfl
theorem aie{a b:Nat}:a=1∨a=2→b≤a→b-1<a:=fun h g=>Nat.lt_of_le_of_lt (Nat.pred_le_pred g) (Nat.pred_lt_self (ag4 h))
theorem aoe{a b:Nat}:1≤a→b+1*(a-1)=b+a-1:=fun h=>(congrArg (b+·) (Nat.one_mul _)).trans (Nat.add_sub_assoc h b).symm
theorem am2{a b:Nat}:¬1<a→¬1<min b a:=fun h g=>h (Nat.lt_of_lt_of_le g (Nat.min_le_right ..))
theorem ais{a b:Nat}:a=1∨a=2→1<min a b→min a b=2:=fun h g=>Nat.le_antisymm (Nat.le_trans (Nat.min_le_left ..) (a9d h)) g
theorem aji{a b:Nat}:min a b=2→2≤b:=fun h=>Nat.le_trans (Nat.le_of_eq h.symm) (Nat.min_le_right ..)
theorem an5{a:Nat}:¬((a+1:Nat):Int)<(a:Int):=fun h=>Nat.lt_irrefl a (Nat.lt_of_succ_lt (Int.ofNat_lt.mp h))
theorem aoc{a:Nat}:(a:Int)<((a+1:Nat):Int):=Int.ofNat_lt.mpr (Nat.lt_succ_self a)
theorem ao4{a:Nat}:a≤90→a≤1000000:=fun h=>kk h rfl
theorem aob{a:Nat}:a≤90→(a:Int)≤1000000:=fun h=>Int.ofNat_le.mpr (kk h rfl)
theorem ai7{a b c d:Nat}:a+b≤c→a≤d∧d<a+b→d<c:=fun h g=>Nat.lt_of_lt_of_le g.2 h
theorem aju{a b c:Nat}:a≤90→b+c≤a→c≤1000000:=fun h g=>kk (Nat.le_trans (Nat.le_add_left c b) (Nat.le_trans g h)) rfl
theorem aj9{a b c d:Nat}:a≤90→b≤c→c+d=a→b+1≤1000000:=fun h g k=>kk (n:=91) (Nat.succ_le_succ (Nat.le_trans g (Nat.le_trans (Nat.le_trans (Nat.le_add_right c d) (Nat.le_of_eq k)) h))) rfl
theorem amh{a:Int}:0≤a→a=(a:Int).toNat:=fun h=>(Int.toNat_of_nonneg h).symm
theorem alj{a:Int}{b:Nat}:0≤a→a<(b:Int)→a.toNat<b:=by intros;subst_vars;simp[*]
theorem am0{a:Nat}{b:Int}:a<2147483647→b=(a:Int)→b<2147483647:=fun h g=>g▸Int.ofNat_lt.mpr h
theorem anr{a:Int}:a<2147483647→a<9223372036854775808:=fun h=>Int.lt_trans h (by decide)
theorem aiq{a:Nat}:min 40 a≤40:=by intros;solve_by_elim(maxDepth:=3)[Nat.le_trans,Nat.lt_of_lt_of_le,Nat.lt_of_le_of_lt,Nat.le_of_lt,Nat.lt_succ_of_le,Nat.le_succ_of_le,Nat.succ_le_of_lt,Nat.le_of_lt_succ,Nat.le_of_succ_le,Nat.le_add_right,Nat.le_add_left,Nat.zero_le,Nat.le_refl,Nat.lt_succ_self,Nat.not_lt_of_le,Nat.le_of_not_lt,Nat.lt_of_not_le,Nat.not_le_of_lt,Nat.le_of_eq,Nat.ne_of_lt,Nat.ne_of_gt,Nat.succ_pos,Nat.sub_le,Nat.min_le_left,Nat.min_le_right,Nat.succ_le_succ,Nat.lt_of_sub_pos,Eq.symm,Nat.lt_of_le_of_ne,Nat.sub_lt_of_lt,Nat.le_antisymm,Nat.sub_add_cancel,Nat.sub_le_of_le_add,And.left,And.right,And.intro]
theorem aic{a:Int}:a<1000003→a<2147483647:=fun h=>Int.lt_trans h (by decide)
theorem alu{a:Nat}{b:Int}:a<1000003→b=(a:Int)→b<1000003:=fun h g=>g▸Int.ofNat_lt.mpr h
theorem aja{a:Int}:a<1000003→a<9223372036854775808:=fun h=>Int.lt_trans h (by decide)
theorem amc{a:Nat}:a≤1000→-9223372036854775808<(a:Int):=fun _=>agb
theorem aii{a:Nat}:a≤100→1≤3:=by intros;solve_by_elim(maxDepth:=3)[Nat.le_trans,Nat.lt_of_lt_of_le,Nat.lt_of_le_of_lt,Nat.le_of_lt,Nat.lt_succ_of_le,Nat.le_succ_of_le,Nat.succ_le_of_lt,Nat.le_of_lt_succ,Nat.le_of_succ_le,Nat.le_add_right,Nat.le_add_left,Nat.zero_le,Nat.le_refl,Nat.lt_succ_self,Nat.not_lt_of_le,Nat.le_of_not_lt,Nat.lt_of_not_le,Nat.not_le_of_lt,Nat.le_of_eq,Nat.ne_of_lt,Nat.ne_of_gt,Nat.succ_pos,Nat.sub_le,Nat.min_le_left,Nat.min_le_right,Nat.succ_le_succ,Nat.lt_of_sub_pos,Eq.symm,Nat.lt_of_le_of_ne,Nat.sub_lt_of_lt,Nat.le_antisymm,Nat.sub_add_cancel,Nat.sub_le_of_le_add,And.left,And.right,And.intro]
theorem ao2:-9223372036854775808<16:=by intros;solve_by_elim(maxDepth:=3)[Nat.le_trans,Nat.lt_of_lt_of_le,Nat.lt_of_le_of_lt,Nat.le_of_lt,Nat.lt_succ_of_le,Nat.le_succ_of_le,Nat.succ_le_of_lt,Nat.le_of_lt_succ,Nat.le_of_succ_le,Nat.le_add_right,Nat.le_add_left,Nat.zero_le,Nat.le_refl,Nat.lt_succ_self,Nat.not_lt_of_le,Nat.le_of_not_lt,Nat.lt_of_not_le,Nat.not_le_of_lt,Nat.le_of_eq,Nat.ne_of_lt,Nat.ne_of_gt,Nat.succ_pos,Nat.sub_le,Nat.min_le_left,Nat.min_le_right,Nat.succ_le_succ,Nat.lt_of_sub_pos,Eq.symm,Nat.lt_of_le_of_ne,Nat.sub_lt_of_lt,Nat.le_antisymm,Nat.sub_add_cancel,Nat.sub_le_of_le_add,And.left,And.right,And.intro]
theorem ao5{a:Nat}:a<3→a≤1000:=fun h=>kk (Nat.le_of_lt h) rfl
theorem ak3{a:Nat}:a<3→1+a≤3:=fun h=>Nat.le_trans (Nat.le_of_eq (Nat.add_comm 1 a)) h
theorem ama{a b:Nat}:a=1+b→1≤a:=by intros;subst_vars;simp[*]
theorem ajv{a b:Nat}:a<6→b=1+a→b≤6:=fun h g=>Nat.le_trans (Nat.le_of_eq (g.trans (Nat.add_comm 1 a))) h
theorem aix{a:Nat}:a<2→1+a≤1000:=fun h=>kk (n:=2) (Nat.le_trans (Nat.le_of_eq (Nat.add_comm 1 a)) h) rfl
theorem amg{a b:Nat}:a<2→min (1+a) b≤2:=fun h=>Nat.le_trans (Nat.min_le_left ..) (Nat.le_trans (Nat.le_of_eq (Nat.add_comm 1 a)) h)
theorem an7{a b:Nat}:a<3→b=a→b≤2:=fun h g=>Nat.le_of_lt_succ (Nat.lt_of_le_of_lt (Nat.le_of_eq g) h)
theorem aib{a b c:Nat}:a=b-c→1≤c∧c≤b→c+a=b:=fun h g=>(congrArg (c+·) h).trans (Nat.add_sub_cancel' g.2)
theorem ajy{a b c:Nat}:a≤b-c→1≤c∧c≤b→a+1≤b:=fun h g=>Nat.le_trans (Nat.add_le_add h g.1) (Nat.le_of_eq (Nat.sub_add_cancel g.2))
theorem anb{a b:Nat}:a≤3→b=a→b≤50:=fun h g=>kk (Nat.le_trans (Nat.le_of_eq g) h) rfl
theorem al9{a b c:Nat}:a+b≤c→a≤c:=fun h=>Nat.le_trans (Nat.le_add_right a b) h
theorem am1{a b c d e:Nat}:a+b≤c→b=d+e→a+d≤c:=fun h g=>Nat.le_trans (Nat.add_le_add_left (Nat.le_trans (Nat.le_add_right d e) (Nat.le_of_eq g.symm)) a) h
theorem amn{a b c d e:Nat}:a+b≤c→b=d+e→a+d+e≤c:=fun h g=>Nat.le_trans (Nat.le_of_eq ((Nat.add_assoc a d e).trans (congrArg (a+·) g.symm))) h
theorem aoa{a:Nat}:a≤6→a≤50:=fun h=>kk h rfl
theorem an9{a:Nat}:a≤6→a≤100:=fun h=>kk h rfl
theorem al8{a:Nat}:a≤3→a≤1000:=fun h=>kk h rfl
theorem ajt{a b:Nat}:a<b+1→¬a=b→a<b:=fun h g=>Nat.lt_of_le_of_ne (Nat.le_of_lt_succ h) g
theorem aje{a b c:Nat}:a<b→c=a→c<b:=by intros;subst_vars;simp[*]
theorem akg{a b c d:Nat}:a<b→c≤a→b≤d→c<d:=fun h g k=>Nat.lt_of_le_of_lt g (Nat.lt_of_lt_of_le h k)
theorem aiu{a b c:Nat}:a<min b c→a<b:=fun h=>Nat.lt_of_lt_of_le h (Nat.min_le_left ..)
theorem ail{a b:Nat}:1≤a→a+0=b→a-1<b:=fun h g=>Nat.lt_of_lt_of_eq (Nat.pred_lt_self h) g
theorem an6{a b c:Nat}:a=b→b<c→a<c:=by intros;subst_vars;simp[*]
theorem aor{a b c:Nat}:a<b∧b≤c→a≤c:=fun h=>Nat.le_trans (Nat.le_of_lt h.1) h.2
theorem anw{a b c d:Nat}:a<b∧b≤c→d<a→¬b≤d:=fun h g k=>Nat.lt_irrefl d (Nat.lt_of_lt_of_le (Nat.lt_trans g h.1) k)
theorem als{a b c:Nat}:a<b→b≤c→a≤c:=fun h g=>Nat.le_of_lt (Nat.lt_of_lt_of_le h g)
theorem aih{a b c:Nat}:a<b→c<a→¬b≤c:=fun h g k=>Nat.lt_irrefl c (Nat.lt_of_lt_of_le (Nat.lt_trans g h) k)
theorem al0{P0:Prop}{a:Nat}:1≤a∧a≤0∧P0→¬a≤0:=fun h g=>Nat.lt_irrefl 0 (Nat.le_trans h.1 g)
theorem ak2{a b:Nat}:a=b+1→a=1+b:=fun h=>h.trans (Nat.add_comm b 1)
theorem akd{a b:Nat}:a<b+1→a≤b:=by intros;solve_by_elim(maxDepth:=3)[Nat.le_trans,Nat.lt_of_lt_of_le,Nat.lt_of_le_of_lt,Nat.le_of_lt,Nat.lt_succ_of_le,Nat.le_succ_of_le,Nat.succ_le_of_lt,Nat.le_of_lt_succ,Nat.le_of_succ_le,Nat.le_add_right,Nat.le_add_left,Nat.zero_le,Nat.le_refl,Nat.lt_succ_self,Nat.not_lt_of_le,Nat.le_of_not_lt,Nat.lt_of_not_le,Nat.not_le_of_lt,Nat.le_of_eq,Nat.ne_of_lt,Nat.ne_of_gt,Nat.succ_pos,Nat.sub_le,Nat.min_le_left,Nat.min_le_right,Nat.succ_le_succ,Nat.lt_of_sub_pos,Eq.symm,Nat.lt_of_le_of_ne,Nat.sub_lt_of_lt,Nat.le_antisymm,Nat.sub_add_cancel,Nat.sub_le_of_le_add,And.left,And.right,And.intro]
theorem aom{a b:Nat}:a≤b→¬a=b→a≤b-1:=fun h g=>Nat.le_pred_of_lt (Nat.lt_of_le_of_ne h g)
theorem anp{a b c:Nat}:a=b→c<a→c<b:=by intros;subst_vars;simp[*]
theorem an3{a b c:Nat}:a=b→c≤a→c≤b:=by intros;simp_all
theorem alq{a b c:Nat}:a<b→b≤c→b-1<c:=fun h g=>Nat.lt_of_lt_of_le (Nat.pred_lt_self (Nat.lt_of_le_of_lt (Nat.zero_le _) h)) g
section
variable{P:Prop}
theorem bj{α β:Type}{x:Option α}{f:α→Option β}{r:β}(e:x.bind f=some r)(k:∀a,x=some a→f a=some r→P):P:=
 let⟨a,h1,h2⟩:=Option.bind_eq_some_iff.mp e;k a h1 h2
theorem ag{α γ β:Type}{x:Option (α×γ)}{f:α×γ→Option β}{r:β}(e:x.bind f=some r)(k:∀a b,x=some (a,b)→f (a,b)=some r→P):P:=
 let⟨(a,b),h1,h2⟩:=Option.bind_eq_some_iff.mp e;k a b h1 h2
theorem ag7{α γ δ β:Type}{x:Option ((α×γ)×δ)}{f:(α×γ)×δ→Option β}{r:β}(e:x.bind f=some r)(k:∀a b c,x=some ((a,b),c)→f ((a,b),c)=some r→P):P:=
 let⟨((a,b),c),h1,h2⟩:=Option.bind_eq_some_iff.mp e;k a b c h1 h2
theorem de{α β:Type}{x:Option α}{f:α→β}{r:β}(e:x.map f=some r)(k:∀a,x=some a→f a=r→P):P:=
 let⟨a,h1,h2⟩:=Option.map_eq_some_iff.mp e;k a h1 h2
theorem nt{α γ β:Type}{x:Option (α×γ)}{f:α×γ→β}{r:β}(e:x.map f=some r)(k:∀a b,x=some (a,b)→f (a,b)=r→P):P:=
 let⟨(a,b),h1,h2⟩:=Option.map_eq_some_iff.mp e;k a b h1 h2
theorem ai{α:Type}{c:Prop}[Decidable c]{a b r:α}(e:(if c then a else b)=r)(h1:c→a=r→P)(h2:¬c→b=r→P):P:=by
 by_cases q:c
 ·rw[if_pos q]at e;exact h1 q e
 ·rw[if_neg q]at e;exact h2 q e
theorem j8{α:Type}{P:α→Prop}{a b:α}(e:some a=some b)(k:P a):P b:=Option.some.inj e▸k
theorem du{α β:Type}{P:α→β→Prop}{a c:α}{b d:β}(e:some (a,b)=some (c,d))(k:P a b):P c d:=by cases e;exact k
theorem a61{α β γ:Type}{P:α→β→γ→Prop}{a a':α}{b b':β}{c c':γ}(e:some ((a,b),c)=some ((a',b'),c'))(k:P a b c):P a' b' c':=by cases e;exact k
theorem re1{α:Type}{P:α→Prop}{a b:α}(e:a=b)(k:P a):P b:=e▸k
theorem re2{α β:Type}{P:α→β→Prop}{a c:α}{b d:β}(e:(a,b)=(c,d))(k:P a b):P c d:=by cases e;exact k
theorem no{α:Type}{r:α}(e:none=some r):P:=nomatch e
theorem bk{A B:Prop}(h:A∧B)(k:A→B→P):P:=k h.1 h.2
theorem f5{A B C:Prop}(h:A∧B∧C)(k:A→B→C→P):P:=k h.1 h.2.1 h.2.2
theorem alc{α:Type}{P:α→Prop}{x:α}{l:List α}(h:P x) (t:∀b∈l,P b):∀b∈x::l,P b:=fun b hb=>(List.mem_cons.mp hb).elim (fun e=>e▸h) (t b)
theorem aln{α:Type}{P:α→Prop}:∀b∈([]:List α),P b:=fun b hb=>nomatch hb
theorem nn{b:Bool}(h:¬(!b)=true):b=true:=by cases b<;>first|rfl|exact absurd rfl h
theorem tt{b c:Bool}(h:(b&&c)=true):b=true∧c=true:=by cases b<;>cases c<;>first|exact⟨rfl,rfl⟩|cases h
theorem nn2{b c:Bool}(h:¬(!(b&&c))=true):b=true∧c=true:=tt (nn h)
theorem ahv{A B C D:Prop}(h:A∧B∧C∧D)(k:A→B→C→D→P):P:=k h.1 h.2.1 h.2.2.1 h.2.2.2
universe u v w x
variable{α:Sort u}{β:α→Sort v}{γ:(a:α)→β a→Sort w}{δ:(a:α)→(b:β a)→γ a b→Sort x}
theorem ex1{A:α→Prop}(h:∃a,A a)(k:∀a,A a→P):P:=let⟨a,h⟩:=h;k a h
theorem ar{A B:α→Prop}(h:∃a,A a∧B a)(k:∀a,A a→B a→P):P:=let⟨a,h,i⟩:=h;k a h i
theorem dz{A B C:α→Prop}(h:∃a,A a∧B a∧C a)(k:∀a,A a→B a→C a→P):P:=let⟨a,h,i,j⟩:=h;k a h i j
theorem alo{A B C D:α→Prop}(h:∃a,A a∧B a∧C a∧D a)(k:∀a,A a→B a→C a→D a→P):P:=let⟨a,h,i,j,l⟩:=h;k a h i j l
theorem a2b{A:(a:α)→β a→Prop}(h:∃a b,A a b)(k:∀a b,A a b→P):P:=let⟨a,b,h⟩:=h;k a b h
theorem a8p{A B:(a:α)→β a→Prop}(h:∃a b,A a b∧B a b)(k:∀a b,A a b→B a b→P):P:=let⟨a,b,h,i⟩:=h;k a b h i
theorem aba{A B C:(a:α)→β a→Prop}(h:∃a b,A a b∧B a b∧C a b)(k:∀a b,A a b→B a b→C a b→P):P:=let⟨a,b,h,i,j⟩:=h;k a b h i j
theorem yh{A B C D:(a:α)→β a→Prop}(h:∃a b,A a b∧B a b∧C a b∧D a b)(k:∀a b,A a b→B a b→C a b→D a b→P):P:=let⟨a,b,h,i,j,l⟩:=h;k a b h i j l
theorem aft{A:(a:α)→(b:β a)→γ a b→Prop}(h:∃a b c,A a b c)(k:∀a b c,A a b c→P):P:=let⟨a,b,c,h⟩:=h;k a b c h
theorem ro{A B:(a:α)→(b:β a)→γ a b→Prop}(h:∃a b c,A a b c∧B a b c)(k:∀a b c,A a b c→B a b c→P):P:=let⟨a,b,c,h,i⟩:=h;k a b c h i
theorem ahd{A B C:(a:α)→(b:β a)→γ a b→Prop}(h:∃a b c,A a b c∧B a b c∧C a b c)(k:∀a b c,A a b c→B a b c→C a b c→P):P:=let⟨a,b,c,h,i,j⟩:=h;k a b c h i j
end
end
section
open PySem
inductive Kd where
 |any|str|int|tup
 deriving DecidableEq,Inhabited
inductive D where
 |none
 |bool (b:Bool)
 |int (i:Int)
 |str (s:Str)
 |tuple (ds:List D)
 |list (ds:List D)
 |dict (kd:Kd)(kvs:List (D×D))
 |inst (c:Str)(fs:List (Str×D))
 deriving Inhabited
inductive V where
 |d(x:D)
 |m(i:Nat)
 deriving Inhabited
inductive MO where
 |list (xs:List D)
 |dict (kd:Kd)(kvs:List (D×V))
 |inst (c:Str)(fs:List (Str×V))
 |frozen (x:D)
 deriving Inhabited
structure Sto where
 objs:List MO
 ver:Nat
 deriving Inhabited
mutual
noncomputable def D.beq:D→D→Bool
 |.none,.none=>true
 |.bool a,.bool b=>a==b
 |.int a,.int b=>a==b
 |.str a,.str b=>a==b
 |.tuple a,.tuple b=>D.beqs a b
 |.list a,.list b=>D.beqs a b
 |_,_=>false
noncomputable def D.beqs:List D→List D→Bool
 |[],[]=>true
 |x::xs,y::ys=>D.beq x y&&D.beqs xs ys
 |_,_=>false
end
noncomputable def an1 (x:Str):Bool:=x.cps.all (·<0x110000)
noncomputable def D.plainAt:Nat→D→Bool
 |_,.none|_,.int _=>true
 |_,.str x=>an1 x
 |n+1,.tuple ds|n+1,.list ds=>ds.all (D.plainAt n)
 |_,_=>false
noncomputable def D.plain(d:D):Bool:=D.plainAt 6 d
noncomputable def D.plains (ds:List D):Bool:=ds.all (D.plainAt 5)
noncomputable def D.allInts:List D→Bool
 |[]=>true
 |.int _::r=>D.allInts r
 |_=>false
noncomputable def D.kind:D→Kd
 |.int _=>.int
 |.str _=>.str
 |.tuple ds=>if D.allInts ds then .tup else .any
 |_=>.any
noncomputable def Kd.asks(k:Kd)(d:D):Bool:=d.kind !=.any&&(k==.any||k==d.kind)
noncomputable def Kd.takes(k:Kd)(d:D):Option Kd:=if d.kind==.any then none else match k with
 |.any=>some d.kind
 |k=>if k==d.kind then some k else none
noncomputable def a6{β:Type}(k:D):List (D×β)→Option β
 |[]=>none
 |(k',v)::r=>if D.beq k' k then some v else a6 k r
noncomputable def setKey{β:Type}(k:D)(v:β):List (D×β)→List (D×β)
 |[]=>[(k,v)]
 |(k',v')::r=>if D.beq k' k then(k',v)::r else(k',v')::setKey k v r
noncomputable def Sto.alloc(σ:Sto)(o:MO):V×Sto:=(.m σ.objs.length,⟨σ.objs++[o],σ.ver+1⟩)
noncomputable def Sto.put(σ:Sto)(i:Nat)(o:MO):Sto:=⟨σ.objs.set i o,σ.ver+1⟩
noncomputable def norm (σ:Sto):V→V
 |.m i=>match σ.objs[i]? with
  |some (.frozen x)=>.d x
  |_=>.m i
 |v=>v
noncomputable def peek (σ:Sto):V→Option D
 |.d x=>some x
 |.m i=>match σ.objs[i]? with
  |some (.frozen x)=>some x
  |some (.list xs)=>some (.list xs)
  |_=>none
noncomputable def MO.live:MO→Bool
 |.frozen _=>false
 |_=>true
noncomputable def a30(σ:Sto)(i:Nat):Bool:=match σ.objs[i]? with
 |some o=>o.live
 |none=>false
noncomputable def kn (f:Sto→V→Option (D×Sto)){κ:Type}:List (κ×V)→Sto→Option (List (κ×D)×Sto)
 |[],σ=>some ([],σ)
 |(k,v)::r,σ=>(f σ v).bind fun p=>(kn f r p.2).map fun q=>((k,p.1)::q.1,q.2)
noncomputable def oz:Nat→Sto→V→Option (D×Sto)
 |_,σ,.d x=>some (x,σ)
 |0,_,_=>none
 |n+1,σ,.m i=>match σ.objs[i]? with
  |some (.frozen x)=>some (x,σ)
  |some (.list xs)=>some (.list xs,σ.put i (.frozen (.list xs)))
  |some (.dict kd kvs)=>(kn (oz n) kvs σ).bind fun p=>if a30 p.2 i then some (.dict kd p.1,p.2.put i (.frozen (.dict kd p.1)))else none
  |some (.inst c fs)=>(kn (oz n) fs σ).bind fun p=>if a30 p.2 i then some (.inst c p.1,p.2.put i (.frozen (.inst c p.1)))else none
  |none=>none
noncomputable def toD (σ:Sto)(v:V):Option (D×Sto):=oz 8 σ v
noncomputable def a00:List V→Sto→Option (List D×Sto)
 |[],σ=>some ([],σ)
 |v::r,σ=>(toD σ v).bind fun p=>(a00 r p.2).map fun q=>(p.1::q.1,q.2)
inductive Key where
 |fn(f:Str)
 |meth(c m:Str)
 deriving DecidableEq
structure Fx where
 pure:Key→List D→Option D
 eff:Key→List V→Sto→Option (V×Sto)
noncomputable def fe (n:Nat):Bool:=decide (n≤1000000)
noncomputable abbrev Rho:=List (Str×Option V)
noncomputable def Rho.get(ρ:Rho)(x:Str):Option V:=(ρ.lookup x).bind id
noncomputable def Rho.set (x:Str)(v:V):Rho→Option Rho
 |[]=>none
 |(y,u)::r=>if y==x then some ((y,some v)::r)else(Rho.set x v r).map ((y,u)::·)
noncomputable def o7(l:List String):List Str:=l.map Str.ofString
noncomputable def fw:List Str:=o7 ["is_hangul_syllable","hangul_numbers","hangul_parts","hangul_kind","cluster_kind","cluster_hangul_joins","cluster_pair","cluster_is_conjunct","cluster_is_joined_picture","cluster_flags_before","cluster_is_flag","cluster_break","weighted","search_levels","search_cuts","search_pieces","search_wanted","search_ends","search_begins","search_stretch","search_widest","search_whole","search_chosen","search_all","search_apart","search_apart_back","matches","place_by_half","form_mapping","form_expanded","ordered","form_sorted","decomposed","form_of","nfd","coll_ideographs","coll_live","coll_decomposed","range_are_like",
 "_law_elements","_law_told","_law_joined","_law_is_idle","_law_pieces","_law_stretches","_law_wide","_law_is_end","_law_whole","_law_apart","_law_due","SearchPiece","CollBase","CollMatch"]
noncomputable def ky:List Str:=o7 ["_law_deck","_law_draw","_law_rows","Elements","Data","RangeMap","data_defaults"]
noncomputable def yn:List Str:=o7 ["put","put_implicit","map_of"]
noncomputable def xz (x:Str):Option D:=
 (([("SYLLABLE_FIRST",.int 44032),("LEAD_FIRST",.int 4352),("VOWEL_FIRST",.int 4449),("TAIL_NONE",.int 4519),("LEADS",.int 19),("VOWELS",.int 21),("TAILS",.int 28),("SYLLABLES",.int 11172),
  ("CLUSTER_ENDS",.tuple [.str "CR",.str "LF",.str "Control"]),("CLUSTER_MARKS",.tuple [.str "Extend",.str "ZWJ"]),("CLUSTER_JOINTS",.tuple [.str "Extend",.str "Linker"]),
  ("COLLKEY_TOP",.int 65535),("SEARCH_LEVELS",.int 4),("MAX_CODE",.int 1114111),("COLL_OTHERS",.int 64448),("COLL_CORE",.int 64320),("COLL_EXTENSIONS",.int 64384),
  ("_law_signs",.tuple [.int 97,.int 98,.int 99,.int 100,.int 101,.int 120,.int 121])]:List (Str×D)).lookup x)
noncomputable def dr (n:Nat)(k:Int):Option Nat:=if 0≤k then(if k<n then some k.toNat else none)else(if 0≤k+n then some (k+n).toNat else none)
noncomputable def cut{α:Type}(xs:List α)(l u:Option Int):List α:=(xs.take (u.elim xs.length Int.toNat)).drop (l.elim 0 Int.toNat)
noncomputable def v4:List D→Option (List Int)
 |[]=>some []
 |.int i::r=>(v4 r).map (i::·)
 |_=>none
noncomputable def mj:List D→Option (List Bool)
 |[]=>some []
 |.bool i::r=>(mj r).map (i::·)
 |_=>none
noncomputable def lim:Int:=9223372036854775808
noncomputable def small (i:Int):Bool:=decide (-lim<i)&&decide (i<lim)
noncomputable def eh (i:Int):Bool:=decide (0≤i)&&decide (i<lim)
noncomputable def ee (a b:Int):List D:=(List.range (b-a).toNat).map fun(i:Nat)=>D.int (a+(i:Int))
noncomputable def gj:Nat→List D→List D
 |_,[]=>[]
 |i,x::r=>.tuple [.int (i:Int),x]::gj (i+1) r
noncomputable def x5:List D→List D→List D
 |x::xs,y::ys=>.tuple [x,y]::x5 xs ys
 |_,_=>[]
noncomputable def f9 (op:Operator)(a b:D):Option D:=match op,a,b with
 |.Add,.int x,.int y=>some (.int (x+y))
 |.Sub,.int x,.int y=>some (.int (x-y))
 |.Mult,.int x,.int y=>if small x&&small y then some (.int (x*y))else none
 |.FloorDiv,.int x,.int y=>if y=0 then none else if decide (y.natAbs<1073741824)then some (.int (x.fdiv y))else none
 |.Mod,.int x,.int y=>if y=0 then none else some (.int (x.fmod y))
 |.Add,.list x,.list y=>if fe (x.length+y.length)then some (.list (x++y))else none
 |.Mult,.list [x],.int n=>if 0≤n∧n≤1000000 then some (.list (List.replicate n.toNat x))else none
 |_,_,_=>none
noncomputable def memD(k:D):List D→Bool
 |[]=>false
 |x::r=>D.beq x k||memD k r
noncomputable def zs (op:CmpOp)(a b:D):Option Bool:=match op with
 |.Eq=>if a.plain&&b.plain then some (D.beq a b)else none
 |.NotEq=>if a.plain&&b.plain then some (!D.beq a b)else none
 |.Lt=>match a,b with|.int x,.int y=>some (decide (x<y))|_,_=>none
 |.LtE=>match a,b with|.int x,.int y=>some (decide (x≤y))|_,_=>none
 |.Gt=>match a,b with|.int x,.int y=>some (decide (y<x))|_,_=>none
 |.GtE=>match a,b with|.int x,.int y=>some (decide (y≤x))|_,_=>none
 |.In=>match b with
  |.tuple xs|.list xs=>if a.plain&&D.plains xs then some (memD a xs)else none
  |.dict kd kvs=>if kd.asks a then some (a6 a kvs).isSome else none
  |_=>none
 |.NotIn=>match b with
  |.tuple xs|.list xs=>if a.plain&&D.plains xs then some (!memD a xs)else none
  |.dict kd kvs=>if kd.asks a then some (a6 a kvs).isNone else none
  |_=>none
 |_=>none
noncomputable def a2z:V→Bool
 |.d .none=>true
 |_=>false
noncomputable def b8 (σ:Sto)(op:CmpOp)(a b:V):Option Bool:=match op with
 |.Is=>match b with|.d .none=>some (a2z (norm σ a))|_=>none
 |.IsNot=>match b with|.d .none=>some (!a2z (norm σ a))|_=>none
 |.In=>match b with
  |.m i=>match σ.objs[i]? with
   |some (.dict kd kvs)=>(peek σ a).bind fun k=>if kd.asks k then some (a6 k kvs).isSome else none
   |_=>(peek σ a).bind fun x=>(peek σ b).bind fun y=>zs .In x y
  |_=>(peek σ a).bind fun x=>(peek σ b).bind fun y=>zs .In x y
 |.NotIn=>match b with
  |.m i=>match σ.objs[i]? with
   |some (.dict kd kvs)=>(peek σ a).bind fun k=>if kd.asks k then some (a6 k kvs).isNone else none
   |_=>(peek σ a).bind fun x=>(peek σ b).bind fun y=>zs .NotIn x y
  |_=>(peek σ a).bind fun x=>(peek σ b).bind fun y=>zs .NotIn x y
 |op=>(peek σ a).bind fun x=>(peek σ b).bind fun y=>zs op x y
noncomputable def mv:List Str:=o7 ["first","behind","levels","last","base","origin","elements","places","onward","table","longest","factors","bases","default","starts","values","defaults","maps","properties","words"]
noncomputable def qt:List Str:=o7 ["SearchPiece","CollBase","CollMatch","Elements","RangeMap","Data"]
noncomputable def ph (σ:Sto)(v:V)(a:Str):Option V:=if !mv.contains a then none else match v with
 |.d (.inst _ fs)=>(fs.lookup a).map .d
 |.m i=>match σ.objs[i]? with
  |some (.inst _ fs)=>(fs.lookup a).map (norm σ)
  |some (.frozen (.inst _ fs))=>(fs.lookup a).map .d
  |_=>none
 |_=>none
noncomputable def bx (σ:Sto)(o i:V):Option V:=match o,i with
 |.m j,.d k=>match σ.objs[j]? with
  |some (.dict kd kvs)=>if kd.asks k then(a6 k kvs).map (norm σ)else none
  |some (.list xs)=>match k with|.int z=>(dr xs.length z).bind fun n=>(xs[n]?).map .d|_=>none
  |_=>none
 |.d (.list xs),.d (.int z)=>(dr xs.length z).bind fun n=>(xs[n]?).map .d
 |.d (.tuple xs),.d (.int z)=>(dr xs.length z).bind fun n=>(xs[n]?).map .d
 |.d (.dict kd kvs),.d k=>if kd.asks k then(a6 k kvs).map .d else none
 |_,_=>none
noncomputable def a95 (σ:Sto):V→Option Nat
 |.d (.list xs)|.d (.tuple xs)=>some xs.length
 |.m i=>match σ.objs[i]? with
  |some (.list xs)=>some xs.length
  |_=>none
 |_=>none
noncomputable def afn:List Int→Option Int
 |[]=>none
 |x::r=>some (r.foldl (fun a b=>if b<a then b else a) x)
noncomputable def aev:List Int→Option Int
 |[]=>none
 |x::r=>some (r.foldl (fun a b=>if a<b then b else a) x)
noncomputable def builtin (f:Str)(σ:Sto)(vs:List V):Option D:=
 if f==("len":Str)then(match vs with|[v]=>(a95 σ v).map fun(n:Nat)=>.int (n:Int)|_=>none)
 else if f==("min":Str)then(match vs with
  |[.d (.int a),.d (.int b)]=>some (.int (if b<a then b else a))
  |[v]=>(peek σ v).bind (fun|.list xs=>(v4 xs).bind fun l=>(afn l).map .int|_=>none)
  |_=>none)
 else if f==("max":Str)then(match vs with
  |[.d (.int a),.d (.int b)]=>some (.int (if a<b then b else a))
  |[v]=>(peek σ v).bind (fun|.list xs=>(v4 xs).bind fun l=>(aev l).map .int|_=>none)
  |_=>none)
 else if f==("sum":Str)then(match vs with|[v]=>(peek σ v).bind (fun|.list xs=>(v4 xs).bind fun l=>if fe l.length&&l.all (fun i=>decide (0≤i)&&decide (i≤1000000))then some (.int l.sum)else none|_=>none)|_=>none)
 else if f==("all":Str)then(match vs with|[v]=>(peek σ v).bind (fun|.list xs=>(mj xs).map fun l=>.bool (l.all id)|_=>none)|_=>none)
 else if f==("tuple":Str)then(match vs with|[v]=>(peek σ v).bind (fun|.list xs=>some (.tuple xs)|.tuple xs=>some (.tuple xs)|_=>none)|_=>none)
 else if f==("list":Str)then(match vs with|[v]=>(peek σ v).bind (fun|.list xs=>some (.list xs)|_=>none)|_=>none)
 else if f==("int":Str)then(match vs with|[.d (.int a)]=>some (.int a)|_=>none)
 else none
noncomputable def bw:List Str:=o7 ["len","min","max","sum","all","tuple","list","int"]
noncomputable def e7:List Str:=o7 ["len","min","max","sum","all","tuple","list","int","range","enumerate","zip","sorted"]
noncomputable def dm (σ:Sto)(o:V)(name:Str)(vs:List V):Option (V×Sto):=match o with
 |.m i=>match σ.objs[i]? with
  |some (.list xs)=>
   if name==("append":Str)then(match vs with|[v]=>(toD σ v).bind fun p=>(match p.2.objs[i]? with|some (.list ys)=>if fe (ys.length+1)then some (.d .none,p.2.put i (.list (ys++[p.1])))else none|_=>none)|_=>none)
   else if name==("extend":Str)then(match vs with|[v]=>(match v with|.d (.list ys)=>if fe (xs.length+ys.length)then some (.d .none,σ.put i (.list (xs++ys)))else none|_=>none)|_=>none)
   else if name==("insert":Str)then(match vs with|[.d (.int k),v]=>(toD σ v).bind fun p=>(match p.2.objs[i]? with|some (.list ys)=>(if 0≤k∧k≤ys.length∧fe (ys.length+1)=true then some (.d .none,p.2.put i (.list (ys.take k.toNat++p.1::ys.drop k.toNat)))else none)|_=>none)|_=>none)
   else if name==("pop":Str)then(match vs with|[]=>(xs.getLast?).map fun x=>(.d x,σ.put i (.list xs.dropLast))|_=>none)
   else none
  |some (.dict kd kvs)=>
   if name==("get":Str)then(match vs with
    |[.d k]=>if kd.asks k&&k.kind !=.tup then some ((match a6 k kvs with|some v=>norm σ v|none=>.d .none),σ)else none
    |[.d k,v]=>if kd.asks k&&k.kind !=.tup then some ((match a6 k kvs with|some v=>norm σ v|none=>v),σ)else none
    |_=>none)
   else none
  |_=>none
 |.d (.dict kd kvs)=>
   if name==("get":Str)then(match vs with
    |[.d k]=>if kd.asks k&&k.kind !=.tup then some ((match a6 k kvs with|some v=>.d v|none=>.d .none),σ)else none
    |[.d k,v]=>if kd.asks k&&k.kind !=.tup then some ((match a6 k kvs with|some v=>.d v|none=>v),σ)else none
    |_=>none)
   else none
 |_=>none
noncomputable def m8 (σ:Sto)(m:Str):V→Option Str
 |.d (.inst c fs)=>if(fs.lookup m).isNone then some c else none
 |.m i=>match σ.objs[i]? with
  |some (.inst c fs)=>if(fs.lookup m).isNone then some c else none
  |_=>none
 |_=>none
noncomputable def gn (σ:Sto):V→Option Bool
 |.d (.dict _ _)=>some false
 |.m i=>match σ.objs[i]? with
  |some (.list _)=>some true
  |some (.dict _ _)=>some false
  |_=>none
 |_=>none
noncomputable def gx:Expr→Bool
 |.List ..|.ListComp ..|.BinOp ..=>true
 |.Subscript _ (.Slice ..) _=>true
 |_=>false
noncomputable def a6k (σ:Sto):V→V×Sto
 |.d (.list xs)=>σ.alloc (.list xs)
 |v=>(v,σ)
noncomputable def aj:Nat→Expr→D→Rho→Option Rho
 |0,_,_,_=>none
 |_+1,.Name x _,v,ρ=>ρ.set x (.d v)
 |n+1,.Tuple ts _ _,.tuple vs,ρ=>go n ts vs ρ
 |_,_,_,_=>none
where
  go : Nat → List Expr → List D → Rho → Option Rho
    | _, [], [], ρ => some ρ
    | n, t :: ts, v :: vs, ρ => (aj n t v ρ).bind (go n ts vs)
    | _, _, _, _ => none

noncomputable def bz:Nat→Expr→List Str
 |0,_=>[]
 |_+1,.Name x _=>[x]
 |n+1,.Tuple ts _ _=>ts.flatMap (bz n)
 |_,_=>[]
noncomputable def js (sc csc:Scope)(target:Expr):Bool:=csc.kind==.function&&(csc.names.lookup ("__debug__":Str)).isNone&&(csc.names.lookup ("__classdict__":Str)).isNone&&csc.names.all (fun x=>(x.2 !=.cell||csc.names.lookup x.1==some .cell)&&(x.2 !=.local||csc.names.lookup x.1==some .local)&&(x.2 !=.free||sc.names.lookup x.1==some .cell||sc.names.lookup x.1==some .free)&&
 (x.2 !=.free||csc.names.lookup x.1==some .free)&&(x.2 !=.globalImplicit||csc.names.lookup x.1==some .globalImplicit))&&
 (bz 4 target).all (fun y=>csc.names.lookup y==some .local||csc.names.lookup y==some .cell)&&(csc.names.lookup ("sorted":Str)).isNone
section
variable(Φ:Fx)
noncomputable def fj (ev:Expr→Sto→Option (V×Sto)):List Expr→Sto→Option (List V×Sto)
 |[],σ=>some ([],σ)
 |e::r,σ=>(ev e σ).bind fun p=>(fj ev r p.2).map fun q=>(p.1::q.1,q.2)
noncomputable def a05 (ev:Expr→Sto→Option (V×Sto)):List Expr→Sto→Option (List D×Sto)
 |[],σ=>some ([],σ)
 |e::r,σ=>(ev e σ).bind fun p=>(toD p.2 p.1).bind fun q=>(a05 ev r q.2).map fun u=>(q.1::u.1,u.2)
noncomputable def evO (ev:Expr→Sto→Option (V×Sto)):Option Expr→Sto→Option (Option Int×Sto)
 |none,σ=>some (none,σ)
 |some e,σ=>(ev e σ).bind fun p=>match p.1 with|.d (.int i)=>some (some i,p.2)|_=>none
noncomputable def j5 (ev:Expr→Sto→Option (V×Sto)):V→List CmpOp→List Expr→Sto→Option (Bool×Sto)
 |l,[op],[r],σ=>(ev r σ).bind fun p=>(b8 p.2 op l p.1).map fun b=>(b,p.2)
 |l,op::op'::ops,r::r'::rs,σ=>(ev r σ).bind fun p=>(b8 p.2 op l p.1).bind fun b=>if b then j5 ev p.1 (op'::ops) (r'::rs) p.2 else some (false,p.2)
 |_,_,_,_=>none
noncomputable def km (ev:Expr→Sto→Option (V×Sto))(op:BoolOp):List Expr→Sto→Option (V×Sto)
 |[],_=>none
 |[e],σ=>ev e σ
 |e::r,σ=>(ev e σ).bind fun p=>match op,p.1 with
  |.And,.d (.bool false)=>some (.d (.bool false),p.2)
  |.And,.d (.bool true)=>km ev op r p.2
  |.Or,.d (.bool true)=>some (.d (.bool true),p.2)
  |.Or,.d (.bool false)=>km ev op r p.2
  |_,_=>none
noncomputable def u8 (ev:Expr→Sto→Option (V×Sto)) (evm:Expr→Sto→Option (V×Sto)):List (Option Expr)→List Expr→Kd→List (D×V)→Sto→Option ((Kd×List (D×V))×Sto)
 |[],[],kd,acc,σ=>some ((kd,acc),σ)
 |some k::ks,e::es,kd,acc,σ=>(ev k σ).bind fun p=>match p.1 with
  |.d x=>if x.kind==.tup then none else(evm e p.2).bind fun q=>(kd.takes x).bind fun kd'=>u8 ev evm ks es kd' (setKey x q.1 acc) q.2
  |_=>none
 |_,_,_,_,_=>none
noncomputable def mo (evt:Expr→Sto→Option (Bool×Sto)):List Expr→Sto→Option (Bool×Sto)
 |[],σ=>some (true,σ)
 |e::r,σ=>(evt e σ).bind fun p=>if p.1 then mo evt r p.2 else some (false,p.2)
noncomputable def be (turn:D→Sto→Option (Option D×Sto)):List D→Sto→Option (List D×Sto)
 |[],σ=>some ([],σ)
 |x::r,σ=>(turn x σ).bind fun p=>(be turn r p.2).map fun q=>(match p.1 with|some y=>y::q.1|none=>q.1,q.2)
noncomputable def a3l:D→Option (List D)
 |.list xs=>some xs
 |.tuple xs=>some xs
 |.dict _ kvs=>some (kvs.map (·.1))
 |_=>none
noncomputable def a04 (σ:Sto):V→Option ((List D×Bool)×Sto)
 |.d x=>(a3l x).map fun l=>((l,false),σ)
 |.m i=>match σ.objs[i]? with
  |some (.list xs)=>some ((xs,true),σ)
  |_=>(toD σ (.m i)).bind fun q=>(a3l q.1).map fun l=>((l,false),q.2)
noncomputable def n7 (t:Expr):Expr→Bool
 |.Call (.Name f _) _ _ _=>(f !=("enumerate":Str)&&f !=("zip":Str))||(match t with|.Tuple ..=>true|_=>false)
 |.Set ..=>false
 |_=>true
noncomputable def r5(csc:Scope)(ρ:Rho):Rho:=ρ.filter fun p=>csc.names.lookup p.1==some .free
noncomputable def a98:Keyword→Bool
 |⟨some k,.Lambda ⟨_,_,_,_,[],_,[]⟩ _ lsc _,_⟩=>k==Str.ofString "key"&&lsc.names.all (fun x=>x.2 !=.free)
 |_=>false
noncomputable def f8:Expr→Bool
 |.Call (.Name id _) [] [] _=>id !=("super":Str)
 |_=>true
mutual
noncomputable def evE:Nat→Scope→Rho→Expr→Sto→Option (V×Sto)
 |0,_,_,_,_=>none
 |n+1,sc,ρ,e,σ=>match e with
  |.Constant c _ _=>match c with
   |.none=>some (.d .none,σ)
   |.bool b=>some (.d (.bool b),σ)
   |.int i=>some (.d (.int i),σ)
   |.str s=>some (.d (.str s),σ)
   |_=>none
  |.Name x _=>match sc.names.lookup x with
   |some .local|some .cell|some .free=>(ρ.get x).map fun v=>(norm σ v,σ)
   |some .globalImplicit=>(xz x).map fun d=>(.d d,σ)
   |_=>none
  |.Attribute o a _=>if !f8 o then none else(evE n sc ρ o σ).bind fun p=>(ph p.2 p.1 a).map fun v=>(v,p.2)
  |.Subscript o (.Slice l u st _) _=>(evE n sc ρ o σ).bind fun p=>(evO (evE n sc ρ) l p.2).bind fun ql=>(evO (evE n sc ρ) u ql.2).bind fun qu=>(evO (evE n sc ρ) st qu.2).bind fun qs=>if !(qu.1.all eh&&ql.1.all eh)then none else
    (peek qs.2 p.1).bind fun x=>match x,qs.1 with
     |.list xs,none=>some (.d (.list (cut xs ql.1 qu.1)),qs.2)
     |.tuple xs,none=>(match ql.1,qu.1 with|none,some b=>if 1≤b∧b<xs.length then some (.d (.tuple (xs.take b.toNat)),qs.2)else none|_,_=>none)
     |.list xs,some (-1)=>if ql.1.isNone&&qu.1.isNone then some (.d (.list xs.reverse),qs.2)else none
     |_,_=>none
  |.Subscript o i _=>(evE n sc ρ o σ).bind fun p=>(evE n sc ρ i p.2).bind fun q=>(bx q.2 p.1 q.1).map fun v=>(v,q.2)
  |.BinOp l op r _=>(evE n sc ρ l σ).bind fun p=>(evE n sc ρ r p.2).bind fun q=>(peek q.2 p.1).bind fun a=>(peek q.2 q.1).bind fun b=>(f9 op a b).map fun d=>(.d d,q.2)
  |.UnaryOp .Not x _=>(evE n sc ρ x σ).bind fun p=>match p.1 with|.d (.bool b)=>some (.d (.bool !b),p.2)|_=>none
  |.UnaryOp .USub x _=>(evE n sc ρ x σ).bind fun p=>match p.1 with|.d (.int i)=>some (.d (.int (-i)),p.2)|_=>none
  |.BoolOp op vs _=>km (evE n sc ρ) op vs σ
  |.Compare l ops rs _=>if lastMarks ops rs then none else(evE n sc ρ l σ).bind fun p=>(j5 (evE n sc ρ) p.1 ops rs p.2).map fun q=>(.d (.bool q.1),q.2)
  |.IfExp t b o _=>(evT n sc ρ t σ).bind fun p=>if p.1 then evE n sc ρ b p.2 else evE n sc ρ o p.2
  |.Tuple es _ _=>if 1000<es.length then none else(a05 (evE n sc ρ) es σ).map fun p=>(.d (.tuple p.1),p.2)
  |.List es _=>if 1000<es.length then none else(a05 (evE n sc ρ) es σ).map fun p=>(.d (.list p.1),p.2)
  |.Dict ks vs _=>if ks.length≤15 then(u8 (evE n sc ρ) (evM n sc ρ) ks vs .any [] σ).map fun p=>p.2.alloc (.dict p.1.1 p.1.2)else none
  |.ListComp elt [⟨target,iter,ifs,0⟩] csc _=>if !(js sc csc target&&n7 target iter)then none else(gf n sc ρ iter σ).bind fun p=>if !fe p.1.1.length then none else
    (be (fun x σ=>(aj 4 target x ((bz 4 target).map fun y=>(y,none))).bind fun ρc=>
     (mo (evT n csc (ρc++r5 csc ρ)) ifs σ).bind fun t=>if t.1 then(evE n csc (ρc++r5 csc ρ) elt t.2).bind fun q=>(toD q.2 q.1).bind fun u=>if p.1.2&&u.2.ver !=p.2.ver then none else some (some u.1,u.2)else
      if p.1.2&&t.2.ver !=p.2.ver then none else some (none,t.2)) p.1.1 p.2).map fun q=>(.d (.list q.1),q.2)
  |.Call (.Name f _) args kws _=>match sc.names.lookup f with
   |some .globalImplicit=>(match kws with
    |[]=>if fw.contains f then(fj (evE n sc ρ) args σ).bind fun p=>(a00 p.1 p.2).bind fun q=>(Φ.pure (.fn f) q.1).map fun d=>(.d d,q.2)
     else if ky.contains f then(fj (evE n sc ρ) args σ).bind fun p=>Φ.eff (.fn f) p.1 p.2
     else if bw.contains f then(fj (evE n sc ρ) args σ).bind fun p=>(builtin f p.2 p.1).map fun d=>(.d d,p.2)
     else none
    |_=>none)
   |_=>none
  |.Call (.Attribute o m apos) args [] pos=>if !(f8 o&&apos.endLine==pos.line&&decide (args.length<30))then none else(evE n sc ρ o σ).bind fun p=>(fj (evE n sc ρ) args p.2).bind fun q=>
    match m8 p.2 m p.1 with
    |some c=>if yn.contains m then Φ.eff (.meth c m) (p.1::q.1) q.2 else(a00 (p.1::q.1) q.2).bind fun u=>(Φ.pure (.meth c m) u.1).map fun d=>(.d d,u.2)
    |none=>if gn p.2 p.1==gn q.2 p.1 then dm q.2 p.1 m q.1 else none
  |_=>none
noncomputable def evT:Nat→Scope→Rho→Expr→Sto→Option (Bool×Sto)
 |0,_,_,_,_=>none
 |n+1,sc,ρ,e,σ=>(evE n sc ρ e σ).bind fun p=>match p.1 with|.d (.bool b)=>some (b,p.2)|_=>none
noncomputable def evM:Nat→Scope→Rho→Expr→Sto→Option (V×Sto)
 |0,_,_,_,_=>none
 |n+1,sc,ρ,e,σ=>(evE n sc ρ e σ).bind fun p=>some (if gx e then a6k p.2 p.1 else p)
noncomputable def gf:Nat→Scope→Rho→Expr→Sto→Option ((List D×Bool)×Sto)
 |0,_,_,_,_=>none
 |n+1,sc,ρ,e,σ=>match e with
  |.Call (.Name f _) args [] _=>
   if f==("range":Str)then(if sc.names.lookup f==some .globalImplicit then(fj (evE n sc ρ) args σ).bind fun p=>match p.1 with
    |[.d (.int b)]=>if b≤1000000&&small b then some ((ee 0 b,false),p.2)else none
    |[.d (.int a),.d (.int b)]=>if small a&&small b&&decide (b-a≤1000000)then some ((ee a b,false),p.2)else none
    |_=>none else none)
   else if f==("enumerate":Str)then(if sc.names.lookup f==some .globalImplicit then(fj (evE n sc ρ) args σ).bind fun p=>match p.1 with
    |[.d (.list xs)]=>some ((gj 0 xs,false),p.2)
    |[.m i]=>match p.2.objs[i]? with|some (.list xs)=>some ((gj 0 xs,true),p.2)|_=>none
    |_=>none else none)
   else if f==("zip":Str)then(if sc.names.lookup f==some .globalImplicit then(fj (evE n sc ρ) args σ).bind fun p=>match p.1 with
    |[.d (.list xs),.d (.list ys)]=>some ((x5 xs ys,false),p.2)
    |_=>none else none)
   else if f==("sorted":Str)then none
   else(evE n sc ρ e σ).bind fun p=>a04 p.2 p.1
  |.Call (.Name f _) args [kw] _=>if f==("sorted":Str)&&sc.names.lookup f==some .globalImplicit&&a98 kw then(fj (evE n sc ρ) args σ).bind fun p=>match p.1 with
    |[.d (.list [])]=>some (([],false),p.2)
    |_=>none else none
  |e=>(evE n sc ρ e σ).bind fun p=>a04 p.2 p.1
end
structure St where
 ρ:Rho
 σ:Sto
inductive Fl where
 |next|brk|cont
 |ret(v:V)
noncomputable def setFld (a:Str)(v:V):List (Str×V)→List (Str×V)
 |[]=>[(a,v)]
 |(b,u)::r=>if b==a then(b,v)::r else(b,u)::setFld a v r
noncomputable def setField (i:Nat)(a:Str)(v:V)(σ:Sto):Option Sto:=if !mv.contains a then none else match σ.objs[i]? with
 |some (.inst c fs)=>if fs.length≤100 then some (σ.put i (.inst c (setFld a v fs)))else none
 |_=>none
noncomputable def i6 (σ:Sto)(o i v:V):Option Sto:=match o,i with
 |.m j,.d k=>match σ.objs[j]? with
  |some (.list _)=>(match k with
   |.int z=>(toD σ v).bind fun p=>match p.2.objs[j]? with|some (.list ys)=>(if 0≤z∧z<ys.length then some (p.2.put j (.list (ys.set z.toNat p.1)))else none)|_=>none
   |_=>none)
  |some (.dict kd kvs)=>if fe kvs.length then(kd.takes k).map fun kd'=>σ.put j (.dict kd' (setKey k v kvs))else none
  |_=>none
 |_,_=>none
noncomputable def ch(n:Nat)(sc:Scope)(t:Expr)(v:V)(s:St):Option St:=match t with
 |.Name x _=>(s.ρ.set x v).map fun ρ=>⟨ρ,s.σ⟩
 |.Attribute o a _=>(evE Φ n sc s.ρ o s.σ).bind fun p=>match p.1 with|.m i=>(setField i a v p.2).map fun σ=>⟨s.ρ,σ⟩|_=>none
 |.Subscript o i _=>(evE Φ n sc s.ρ o s.σ).bind fun p=>(evE Φ n sc s.ρ i p.2).bind fun q=>(i6 q.2 p.1 q.1 v).map fun σ=>⟨s.ρ,σ⟩
 |_=>none
noncomputable def ig (n:Nat)(sc:Scope):List Expr→List V→St→Option St
 |[],[],s=>some s
 |t::ts,v::vs,s=>(ch Φ n sc t v s).bind (ig n sc ts vs)
 |_,_,_=>none
noncomputable def evR (n:Nat)(muts:List Str)(sc:Scope)(ρ:Rho)(t e:Expr)(σ:Sto):Option (V×Sto):=match t with
 |.Name x _=>if muts.contains x then evM Φ n sc ρ e σ else evE Φ n sc ρ e σ
 |_=>evM Φ n sc ρ e σ
noncomputable def aan (n:Nat)(muts:List Str)(sc:Scope)(ρ:Rho):List Expr→List Expr→Sto→Option (List V×Sto)
 |[],[],σ=>some ([],σ)
 |t::ts,e::es,σ=>(evR Φ n muts sc ρ t e σ).bind fun p=>(aan n muts sc ρ ts es p.2).map fun q=>(p.1::q.1,q.2)
 |_,_,_=>none
noncomputable def cc (f:Stmt→St→Option (Fl×St)):List Stmt→St→Option (Fl×St)
 |[],s=>some (.next,s)
 |t::r,s=>(f t s).bind fun p=>match p.1 with|.next=>cc f r p.2|x=>some (x,p.2)
noncomputable def iu (turn:D→St→Option (Fl×St)):List D→St→Option (Fl×St)
 |[],s=>some (.next,s)
 |x::r,s=>(turn x s).bind fun p=>match p.1 with
  |.next|.cont=>iu turn r p.2
  |.brk=>some (.next,p.2)
  |.ret v=>some (.ret v,p.2)
noncomputable def b7 (test:St→Option (Bool×St))(body:St→Option (Fl×St)):Nat→St→Option (Fl×St)
 |0,_=>none
 |k+1,s=>(test s).bind fun p=>if p.1 then(body p.2).bind fun q=>match q.1 with
   |.next|.cont=>b7 test body k q.2
   |.brk=>some (.next,q.2)
   |.ret v=>some (.ret v,q.2)
  else some (.next,p.2)
noncomputable def a1s(kind:Str→Option NameKind)(line:Nat)(e:Expr):Option Str:=match e with|.Name id pos=>if kind id==some .local&&pos.line==line then some id else none|_=>none
noncomputable def a3s (kind:Str→Option NameKind)(ts vs:List Expr):Option (Option (List Str)):=
 if !(ts.length==2||ts.length==3)||vs.length !=ts.length then some none
 else if vs.any (fun|.Starred ..=>true|_=>false)then some none
 else
  let line:=(ts.head?.map (·.pos.line)).getD 0
  let names:=ts.filterMap (a1s kind line)
  if names.length !=ts.length||names.eraseDups.length !=names.length then some none
  else if vs.all (foldedForSure 8)then some none
  else if vs.all (constantsAlone 8)then none
  else some (some names)
noncomputable def vj (sc:Scope) (ts vs:List Expr):Bool:=match a3s (fun x=>sc.names.lookup x) ts vs with
 |none=>false
 |some none=>true
 |some (some names)=>decide names.Nodup
noncomputable def oy:Operator→Bool
 |.Add|.Sub=>true
 |_=>false
noncomputable def a4f:Nat:=100
noncomputable def ak:Nat:=40
noncomputable def evS (muts:List Str) (sc:Scope):Nat→Stmt→St→Option (Fl×St)
 |0,_,_=>none
 |n+1,st,s=>match st with
  |.Expr e _=>if gx e then none else(evE Φ ak sc s.ρ e s.σ).map fun p=>(.next,⟨s.ρ,p.2⟩)
  |.Pass _=>some (.next,s)
  |.Break _=>some (.brk,s)
  |.Continue _=>some (.cont,s)
  |.Return (some e) _=>(evE Φ ak sc s.ρ e s.σ).map fun p=>(.ret p.1,⟨s.ρ,p.2⟩)
  |.Return none _=>some (.ret (.d .none),s)
  |.Assign [.Tuple ts _ _] (.Tuple es _ _) _=>if 1000<es.length||!vj sc ts es then none else(aan Φ ak muts sc s.ρ ts es s.σ).bind fun p=>(ig Φ ak sc ts p.1 ⟨s.ρ,p.2⟩).map fun s=>(.next,s)
  |.Assign [.Tuple ts k q] e _=>(evE Φ ak sc s.ρ e s.σ).bind fun p=>match p.1 with
   |.d x=>(aj 4 (.Tuple ts k q) x s.ρ).map fun ρ=>(.next,⟨ρ,p.2⟩)
   |_=>none
  |.Assign [t] e _=>(evR Φ ak muts sc s.ρ t e s.σ).bind fun p=>(ch Φ ak sc t p.1 ⟨s.ρ,p.2⟩).map fun s=>(.next,s)
  |.AugAssign (.Name x _) op e _=>if !oy op then none else(s.ρ.get x).bind fun v=>match v with
   |.d a=>(evE Φ ak sc s.ρ e s.σ).bind fun p=>match p.1 with
    |.d (.int b)=>(match a with|.int _=>(f9 op a (.int b)).bind fun r=>(s.ρ.set x (.d r)).map fun ρ=>(.next,⟨ρ,p.2⟩)|_=>none)
    |_=>none
   |_=>none
  |.If t b o _=>(evT Φ ak sc s.ρ t s.σ).bind fun p=>if p.1 then cc (evS muts sc n) b ⟨s.ρ,p.2⟩else cc (evS muts sc n) o ⟨s.ρ,p.2⟩
  |.While t b [] _=>b7 (fun s=>(evT Φ ak sc s.ρ t s.σ).map fun p=>(p.1,⟨s.ρ,p.2⟩)) (cc (evS muts sc n) b) a4f s
  |.For target iter b [] _=>if !n7 target iter then none else(gf Φ ak sc s.ρ iter s.σ).bind fun p=>if p.1.2 then none else
    iu (fun x s=>(aj 4 target x s.ρ).bind fun ρ=>cc (evS muts sc n) b ⟨ρ,s.σ⟩) p.1.1 ⟨s.ρ,p.2⟩
  |_=>none
end
structure Fn where
 params:List Str
 dflts:List D
 muts:List Str
 body:List Stmt
 scope:Scope
noncomputable def vx:List Str→List V→List D→Option (List (Str×V))
 |ps,vs,ds=>if vs.length≤ps.length&&ps.length≤vs.length+ds.length then some (ps.zip (vs++(ds.drop (vs.length+ds.length-ps.length)).map .d))else none
noncomputable def gp (sc:Scope)(b:List (Str×V)):Rho:=(sc.names.filter fun x=>x.2==.local||x.2==.cell).map fun x=>(x.1,b.lookup x.1)
noncomputable def om (Φ:Fx) (f:Fn) (vs:List V) (σ:Sto):Option (V×Sto):=
 (vx f.params vs f.dflts).bind fun b=>(cc (evS Φ f.muts f.scope 20) f.body ⟨gp f.scope b,σ⟩).bind fun p=>match p.1 with
  |.ret v=>some (norm p.2.σ v,p.2.σ)
  |.next=>some (.d .none,p.2.σ)
  |_=>none
noncomputable def tm (Φ:Fx) (f:Fn) (ds:List D):Option D:=(om Φ f (ds.map .d) ⟨[],0⟩).bind fun p=>(toD p.2 p.1).map (·.1)
noncomputable def ak5 (i:Nat):Stmt:=PySem.Challenge.pw_nt0081_01.main.body.getD i (.Pass ⟨0,0,0,0⟩)
noncomputable def ahp:Expr→D
 |.Constant (.int i) _ _=>.int i
 |.Constant (.bool b) _ _=>.bool b
 |.Constant (.str s) _ _=>.str s
 |_=>.none
noncomputable def acx (muts:List Str):Stmt→Fn
 |.FunctionDef _ a body _ _ _ sc _ _ _=>⟨a.args.map (·.arg),a.defaults.map ahp,muts,body,sc⟩
 |_=>⟨[],[],[],[],⟨.function,[],false,false,[]⟩⟩
noncomputable def amx (i j:Nat):Stmt:=match ak5 i with
 |.ClassDef _ _ _ body _ _ _ _ _ _ _=>body.getD j (.Pass ⟨0,0,0,0⟩)
 |_=>.Pass ⟨0,0,0,0⟩
inductive Def where
 |fn(f:Fn)
 |cls(c:Str)(f:Fn)
noncomputable def ae (i:Nat) (muts:List String:=[]):Fn:=acx (o7 muts) (ak5 i)
noncomputable def agu(i:Nat):Fn:={ae i with dflts:=[]}
noncomputable def d0 (i j:Nat) (muts:List String:=[]):Fn:=acx (o7 muts) (amx i j)
noncomputable def af:List (Key×Def):=[
 (.fn "is_hangul_syllable",.fn (ae 10)),(.fn "hangul_parts",.fn (ae 12)),(.fn "hangul_kind",.fn (ae 14)),
 (.fn "cluster_kind",.fn (ae 19)),(.fn "cluster_hangul_joins",.fn (ae 20)),(.fn "cluster_pair",.fn (ae 21)),(.fn "cluster_is_conjunct",.fn (ae 22)),(.fn "cluster_is_joined_picture",.fn (ae 23)),
 (.fn "cluster_flags_before",.fn (ae 24)),(.fn "cluster_is_flag",.fn (ae 25)),(.fn "cluster_break",.fn (ae 26)),(.fn "weighted",.fn (ae 31 ["found"])),
 (.fn "SearchPiece",.cls "SearchPiece" (d0 34 0)),(.meth "SearchPiece" "is_idle",.fn (d0 34 1)),(.fn "search_levels",.fn (ae 35 ["levels"])),(.fn "search_cuts",.fn (ae 36 ["least","cuts"])),
 (.fn "search_pieces",.fn (ae 37 ["elements","pieces"])),(.fn "search_wanted",.fn (ae 38)),(.fn "search_ends",.fn (ae 39)),(.fn "search_begins",.fn (ae 40)),(.fn "search_stretch",.fn (ae 41 ["levels"])),
 (.fn "search_widest",.fn (ae 42)),(.fn "search_whole",.fn (ae 43)),(.fn "search_chosen",.fn (ae 45)),(.fn "search_all",.fn (ae 46 ["found"])),(.fn "search_apart",.fn (ae 47 ["apart"])),(.fn "search_apart_back",.fn (ae 48 ["apart"])),
 (.fn "matches",.fn (agu 49)),(.fn "place_by_half",.fn (ae 54)),(.fn "form_mapping",.fn (ae 56)),(.fn "form_expanded",.fn (ae 57 ["found","waiting"])),(.fn "ordered",.fn (ae 58 ["found"])),(.fn "form_sorted",.fn (ae 59)),
 (.fn "decomposed",.fn (ae 60 ["found"])),(.fn "form_of",.fn (ae 65)),(.fn "nfd",.fn (ae 66)),(.fn "coll_ideographs",.fn (ae 76 ["rows"])),(.fn "CollBase",.cls "CollBase" (d0 77 0)),(.fn "CollMatch",.cls "CollMatch" (d0 79 0)),
 (.meth "Elements" "match",.fn (d0 80 10)),(.meth "Elements" "with_marks",.fn (d0 80 11)),(.meth "Elements" "located",.fn (d0 80 12 ["found"])),(.meth "Elements" "elements_of",.fn (d0 80 13 ["found"])),
 (.fn "coll_live",.fn (ae 81 ["found"])),(.fn "coll_decomposed",.fn (ae 82 ["rows"])),(.fn "range_are_like",.fn (ae 84)),(.meth "RangeMap" "get",.fn (d0 85 1)),(.meth "Data" "get",.fn (d0 89 2)),
 (.fn "_law_elements",.fn (ae 95)),(.fn "_law_told",.fn (ae 96)),(.fn "_law_joined",.fn (ae 97)),(.fn "_law_is_idle",.fn (ae 98)),(.fn "_law_pieces",.fn (ae 99 ["found"])),(.fn "_law_stretches",.fn (ae 100 ["found"])),
 (.fn "_law_wide",.fn (ae 101)),(.fn "_law_is_end",.fn (ae 102)),(.fn "_law_whole",.fn (ae 103)),(.fn "_law_apart",.fn (ae 104 ["found"])),(.fn "_law_due",.fn (ae 105))]
noncomputable def nk:List (Key×Def):=[
 (.fn "_law_deck",.fn (ae 92)),(.fn "_law_draw",.fn (ae 93)),(.fn "_law_rows",.fn (ae 94)),(.fn "data_defaults",.fn (ae 88)),
 (.fn "Elements",.cls "Elements" (d0 80 0)),(.meth "Elements" "put",.fn (d0 80 1)),(.meth "Elements" "put_implicit",.fn (d0 80 7)),
 (.fn "RangeMap",.cls "RangeMap" (d0 85 0)),(.meth "RangeMap" "put",.fn (d0 85 2 ["starts","values"])),
 (.fn "Data",.cls "Data" (d0 89 0)),(.meth "Data" "put",.fn (d0 89 1)),(.meth "Data" "map_of",.fn (d0 89 3))]
noncomputable def v7 (Φ:Fx) (c:Str) (f:Fn) (vs:List V) (σ:Sto):Option (V×Sto):=
 let p:=σ.alloc (.inst c [])
 (om Φ f (p.1::vs) p.2).bind fun q=>match q.1 with|.d .none=>some (p.1,q.2)|_=>none
noncomputable def fx:Nat→Fx
 |0=>⟨fun _ _=>none,fun _ _ _=>none⟩
 |n+1=>{
  pure:=fun f ds=>match af.lookup f with
   |some (.fn F)=>tm (fx n) F ds
   |some (.cls c F)=>(v7 (fx n) c F (ds.map .d) ⟨[],0⟩).bind fun p=>(toD p.2 p.1).map (·.1)
   |none=>none
  eff:=fun f vs σ=>match nk.lookup f with
   |some (.fn F)=>om (fx n) F vs σ
   |some (.cls c F)=>v7 (fx n) c F vs σ
   |none=>none}
noncomputable def acd:Fn:=ae 106
noncomputable def law (script:List Int):Option D:=tm (fx 20) acd [.list (script.map .int)]
end
section
open PySem PySem.W PySem.Calls PyProof.Rows
structure Cfg where
 prog:Program
 w:World
 K:Frag
 base:Heap
 P:Addr
 mg:Str→Option Value
 mb:Str→Option Value
noncomputable def dl (K:Frag)(c:Str):Option Addr:=if qt.contains c then match nsIn K mainGlobals c with
 |some (some (.ref a))=>some a
 |_=>none else none
noncomputable def ab5 (K:Frag) (c:Addr):Bool:=plainGet K c ""&&hasDictIn K c&&mv.all fun a=>findIn K (.ref c) a==some none
noncomputable def abf (K:Frag) (c:Addr):Bool:=plainOver K c&&findIn K (.ref c) "__setattr__"==some (some (.builtin "object.__setattr__"))
variable(C:Cfg)
noncomputable def bb (h:Heap) (B:Addr→Prop) (a:Addr) (kd:Kd) (kvs:List (D×Value)):Prop:=
 (a==sysModules)=false∧kvs.length≤1000001∧match kd with
 |.any=>kvs=[]∧∃n,h.get? a=some {cls:=.type "dict",data:=.dict #[] n}
 |.str=>∃l:List (Str×Value),kvs=l.map (fun p=>(D.str p.1,p.2))∧h.DictOf (strKind C.prog C.w) a l
 |.int=>∃l:List (Int×Value),kvs=l.map (fun p=>(D.int p.1,p.2))∧h.DictOf (intKind C.prog C.w) a l
 |.tup=>∃l:List (List Int×Addr×Value),kvs=l.map (fun p=>(D.tuple (p.1.map .int),p.2.2))∧h.DictOfH (tupleKind (intKind C.prog C.w)) a l∧∀p∈l,¬B p.2.1∧p.1.length≤1000001
noncomputable def oo (es:List DictEntry)(fs:List (Str×Value)):Prop:=(∀a,getL a es=some (fs.lookup a))∧es.length≤fs.length
mutual
inductive RepD (C:Cfg) (h:Heap) (B:Addr→Prop):Value→D→Prop
 |none:RepD C h B .none .none
 |bool (b:Bool):RepD C h B (.bool b) (.bool b)
 |int (i:Int) (t:Tok):RepD C h B (.int i t) (.int i)
 |str (x:Str) (t:Tok):RepD C h B (.str x t) (.str x)
 |tuple{a:Addr}{vs:List Value}{ds:List D}:h.IsTuple a vs.toArray→¬B a→vs.length≤1000001→RepDs C h B vs ds→RepD C h B (.ref a) (.tuple ds)
 |list{a:Addr}{vs:List Value}{ds:List D}:h.PlainList a vs.toArray→¬B a→vs.length≤1000001→RepDs C h B vs ds→RepD C h B (.ref a) (.list ds)
 |dict{a:Addr}{kd:Kd}{kvs:List (D×Value)}{kds:List (D×D)}:bb C h B a kd kvs→¬B a→RepKs C h B kvs kds→RepD C h B (.ref a) (.dict kd kds)
 |inst{x dx c:Addr}{es:List DictEntry}{n:Nat}{cn:Str}{fs:List (Str×Value)}{fds:List (Str×D)}:h.get? x=some (instObj c dx)→h.get? dx=some (dictOf es n)→¬B x→¬B dx→dl C.K cn=some c→
  oo es fs→RepFs C h B fs fds→RepD C h B (.ref x) (.inst cn fds)
inductive RepDs (C:Cfg) (h:Heap) (B:Addr→Prop):List Value→List D→Prop
 |nil:RepDs C h B [] []
 |cons{v:Value}{d:D}{vs:List Value}{ds:List D}:RepD C h B v d→RepDs C h B vs ds→RepDs C h B (v::vs) (d::ds)
inductive RepKs (C:Cfg) (h:Heap) (B:Addr→Prop):List (D×Value)→List (D×D)→Prop
 |nil:RepKs C h B [] []
 |cons{k:D}{v:Value}{d:D}{vs:List (D×Value)}{ds:List (D×D)}:RepD C h B v d→RepKs C h B vs ds→RepKs C h B ((k,v)::vs) ((k,d)::ds)
inductive RepFs (C:Cfg) (h:Heap) (B:Addr→Prop):List (Str×Value)→List (Str×D)→Prop
 |nil:RepFs C h B [] []
 |cons{k:Str}{v:Value}{d:D}{vs:List (Str×Value)}{ds:List (Str×D)}:RepD C h B v d→RepFs C h B vs ds→RepFs C h B ((k,v)::vs) ((k,d)::ds)
end
theorem bb.mono{C:Cfg}{h h':Heap}{B B':Addr→Prop}{a:Addr}{kd:Kd}{kvs:List (D×Value)}(x:bb C h B a kd kvs) (ha:∀o,h.get? a=some o→h'.get? a=some o)
  (hk:∀b o,¬B b→h.get? b=some o→h'.get? b=some o) (hb:∀b o,h.get? b=some o→¬B b→¬B' b):bb C h' B' a kd kvs:=by
 refine f5 x ?_;clear x;intro h1 h2 h3
 refine⟨h1,h2,?_⟩
 cases kd with
 |any=>exact⟨h3.1,ex1 h3.2 fun n ho=>⟨n,ha _ ho⟩⟩
 |str=>exact ar h3 fun l e x=>⟨l,e,x.at ha⟩
 |int=>exact ar h3 fun l e x=>⟨l,e,x.at ha⟩
 |tup=>
  refine dz h3 ?_;clear h3;intro l e pq2 hB;refine ro pq2 ?_;clear pq2;intro o es ep ho r
  have key:∀p∈l,IsTupleKey (intKind C.prog C.w) h p.1 p.2.1:=r.2.2.2.1
  refine⟨l,e,⟨o,es,ep,ha _ ho,r.1,r.2.1,r.2.2.1,fun p hp=>?_,r.2.2.2.2⟩,fun p hp=>?_⟩
  ·refine ro (key p hp) ?_;intro o' items n ho' q
   exact⟨o',items,n,hk _ _ (hB p hp).1 ho',q⟩
  ·refine ro (key p hp) ?_;intro o' items n ho' q
   exact⟨hb _ _ ho' (hB p hp).1,(hB p hp).2⟩
section
variable{C:Cfg}{h h':Heap}{B B':Addr→Prop}
theorem IsTuple.mono{a:Addr}{vs:Array Value}(x:h.IsTuple a vs)(ha:∀o,h.get? a=some o→h'.get? a=some o):h'.IsTuple a vs:=let⟨o,ho,r⟩:=x;⟨o,ha _ ho,r⟩
theorem yi{K:Type}[DecidableEq K]{prog:Program}{w:World}{knd:KeyKind prog w K}{a:Addr}{l:List (K×Value)}(x:h.DictOf knd a l):∃o,h.get? a=some o∧o.cls=.type "dict"∧o.dict=none:=ro x fun o _ _ ho r=>⟨o,ho,r.1.1,r.1.2.1⟩
theorem bb.obj{a:Addr}{kd:Kd}{kvs:List (D×Value)}(x:bb C h B a kd kvs):∃o,h.get? a=some o∧o.cls=.type "dict"∧o.dict=none:=by
 have h3:=x.2.2
 cases kd with
 |any=>exact ex1 h3.2 fun n ho=>⟨_,ho,rfl,rfl⟩
 |str=>exact ar h3 fun _ _ x=>yi x
 |int=>exact ar h3 fun _ _ x=>yi x
 |tup=>exact dz h3 fun _ _ x _=>ro x fun o _ _ ho r=>⟨o,ho,r.1.1,r.1.2.1⟩
theorem RepD.mono (hk:∀b o,¬B b→h.get? b=some o→h'.get? b=some o) (hb:∀b o,h.get? b=some o→¬B b→¬B' b){v:Value}{d:D}(r:RepD C h B v d):RepD C h' B' v d:=
 RepD.rec (motive_1:=fun v d _=>RepD C h' B' v d) (motive_2:=fun vs ds _=>RepDs C h' B' vs ds) (motive_3:=fun l ks _=>RepKs C h' B' l ks) (motive_4:=fun l fs _=>RepFs C h' B' l fs)
  .none .bool .int .str (fun x nb hl _ ih=>.tuple (IsTuple.mono x fun o e=>hk _ o nb e) (ar x fun o ho _=>hb _ o ho nb) hl ih) (fun x nb hl _ ih=>ex1 x fun n ho=>.list ⟨n,hk _ _ nb ho⟩ (hb _ _ ho nb) hl ih)
  (fun x nb _ ih=>.dict (x.mono (fun o e=>hk _ o nb e) hk hb) (ar x.obj fun o ho _=>hb _ o ho nb) ih) (fun h1 h2 n1 n2 hc hf _ ih=>.inst (hk _ _ n1 h1) (hk _ _ n2 h2) (hb _ _ h1 n1) (hb _ _ h2 n2) hc hf ih)
  .nil (fun _ _ a b=>.cons a b) .nil (fun _ _ a b=>.cons a b) .nil (fun _ _ a b=>.cons a b) r
theorem RepDs.mono (hk:∀b o,¬B b→h.get? b=some o→h'.get? b=some o) (hb:∀b o,h.get? b=some o→¬B b→¬B' b){vs:List Value}{ds:List D}(r:RepDs C h B vs ds):RepDs C h' B' vs ds:=by
 induction ds generalizing vs with
 |nil=>cases r;exact .nil
 |cons d ds ih=>cases r with|cons a b=>exact .cons (a.mono hk hb) (ih b)
end
noncomputable abbrev a7:=List (Addr×Addr)
noncomputable def Mut(σ:Sto)(α:a7)(a:Addr):Prop:=∃(i:Nat)(p:Addr×Addr)(o:MO),α[i]?=some p∧σ.objs[i]?=some o∧o.live=true∧(a=p.1∨a=p.2)
noncomputable def Bad(X:Addr→Prop)(σ:Sto)(α:a7)(a:Addr):Prop:=X a∨Mut σ α a
inductive RepV (C:Cfg) (h:Heap) (B:Addr→Prop) (α:a7):Value→V→Prop
 |d{v:Value}{x:D}:RepD C h B v x→RepV C h B α v (.d x)
 |m{i:Nat}{p:Addr×Addr}:α[i]?=some p→RepV C h B α (.ref p.1) (.m i)
inductive RepVs (C:Cfg) (h:Heap) (B:Addr→Prop) (α:a7):List Value→List V→Prop
 |nil:RepVs C h B α [] []
 |cons{v:Value}{x:V}{vs:List Value}{xs:List V}:RepV C h B α v x→RepVs C h B α vs xs→RepVs C h B α (v::vs) (x::xs)
inductive RepKVs (C:Cfg) (h:Heap) (B:Addr→Prop) (α:a7){κ:Type}:List (κ×Value)→List (κ×V)→Prop
 |nil:RepKVs C h B α [] []
 |cons{k:κ}{v:Value}{x:V}{vs:List (κ×Value)}{xs:List (κ×V)}:RepV C h B α v x→RepKVs C h B α vs xs→RepKVs C h B α ((k,v)::vs) ((k,x)::xs)
noncomputable def o5 (C:Cfg) (h:Heap) (B:Addr→Prop) (α:a7) (p:Addr×Addr):MO→Prop
 |.list xs=>p.2=p.1∧∃vs:List Value,h.PlainList p.1 vs.toArray∧vs.length≤1000001∧RepDs C h B vs xs
 |.dict kd kvs=>p.2=p.1∧∃l:List (D×Value),bb C h B p.1 kd l∧RepKVs C h B α l kvs
 |.inst cn fs=>∃c es n,∃l:List (Str×Value),h.get? p.1=some (instObj c p.2)∧h.get? p.2=some (dictOf es n)∧dl C.K cn=some c∧oo es l∧RepKVs C h B α l fs
 |.frozen x=>RepD C h B (.ref p.1) x
theorem RepV.mono{C:Cfg}{h h':Heap}{B B':Addr→Prop}{α α':a7}(hk:∀b o,¬B b→h.get? b=some o→h'.get? b=some o)(hb:∀b o,h.get? b=some o→¬B b→¬B' b)
  (hα:∀(i:Nat)p,α[i]?=some p→α'[i]?=some p){v:Value}{x:V}(r:RepV C h B α v x):RepV C h' B' α' v x:=by
 cases r with
 |d r=>exact .d (r.mono hk hb)
 |m e=>exact .m (hα _ _ e)
theorem RepVs.mono{C:Cfg}{h h':Heap}{B B':Addr→Prop}{α α':a7}(hk:∀b o,¬B b→h.get? b=some o→h'.get? b=some o) (hb:∀b o,h.get? b=some o→¬B b→¬B' b)
  (hα:∀(i:Nat) p,α[i]?=some p→α'[i]?=some p){vs:List Value}{xs:List V}(r:RepVs C h B α vs xs):RepVs C h' B' α' vs xs:=by
 induction r with
 |nil=>exact .nil
 |cons a _ ih=>exact .cons (a.mono hk hb hα) ih
theorem RepKVs.mono{C:Cfg}{h h':Heap}{B B':Addr→Prop}{α α':a7}{κ:Type}(hk:∀b o,¬B b→h.get? b=some o→h'.get? b=some o) (hb:∀b o,h.get? b=some o→¬B b→¬B' b)
  (hα:∀(i:Nat) p,α[i]?=some p→α'[i]?=some p){vs:List (κ×Value)}{xs:List (κ×V)}(r:RepKVs C h B α vs xs):RepKVs C h' B' α' vs xs:=by
 induction r with
 |nil=>exact .nil
 |cons a _ ih=>exact .cons (a.mono hk hb hα) ih
noncomputable def acg (P:Addr)(h:Heap):Prop:=∃ps:Array Value,h.get? P=some (tabObj ps)∧TriplesOk ps.toList
structure SRel (C:Cfg) (X:Addr→Prop) (α:a7) (σ:Sto) (h:Heap):Prop where
 len:α.length=σ.objs.length
 obj:∀(i:Nat) p o,α[i]?=some p→σ.objs[i]?=some o→o5 C h (Bad X σ α) α p o
 apart:∀(i j:Nat) p q,α[i]?=some p→α[j]?=some q→i≠j→p.1≠q.1∧p.1≠q.2∧p.2≠q.1∧p.2≠q.2
 notX:∀(i:Nat) p,α[i]?=some p→¬X p.1∧¬X p.2
 notBase:∀(i:Nat) p,α[i]?=some p→C.base.get? p.1=none∧C.base.get? p.2=none
 lt:∀(i:Nat) p,α[i]?=some p→p.1<h.objs.size∧p.2<h.objs.size
 xBase:∀a,X a→C.base.get? a=none
 xLt:∀a,X a→a<h.objs.size
 xP:X C.P
 stays:∀b o,C.base.get? b=some o→h.get? b=some o
 sz:C.base.objs.size≤h.objs.size
 tab:acg C.P h
structure Step(C:Cfg)(X:Addr→Prop)(α:a7)(σ:Sto)(s:Shared)(α':a7)(σ':Sto)(s':Shared):Prop where
 sh:∃h' tk,s'={s with heap:=h',toks:=tk}
 ext:∃β,α'=α++β
 srel:SRel C X α' σ' s'.heap
 keep:∀a o,¬Mut σ α a→a≠C.P→s.heap.get? a=some o→s'.heap.get? a=some o
 muts:∀a,Mut σ' α' a→Mut σ α a∨s.heap.objs.size≤a
 grow:s.heap.objs.size≤s'.heap.objs.size
 verle:σ.ver≤σ'.ver
 same:σ'.ver=σ.ver→σ'=σ∧α'=α∧∀a o,a≠C.P→s.heap.get? a=some o→s'.heap.get? a=some o
section
variable{C:Cfg}{X:Addr→Prop}{α α' α'':a7}{σ σ' σ'':Sto}{s s' s'':Shared}
theorem Step.refl(r:SRel C X α σ s.heap):Step C X α σ s α σ s:=
 ⟨⟨_,_,rfl⟩,⟨[],by simp⟩,r,fun _ _ _ _ e=>e,fun _ m=>.inl m,Nat.le_refl _,Nat.le_refl _,fun _=>⟨rfl,rfl,fun _ _ _ e=>e⟩⟩
theorem Mut.lt(r:SRel C X α σ s.heap){a:Addr}(m:Mut σ α a):a<s.heap.objs.size:=by
 obtain⟨i,p,o,h1,_,_,e⟩:=m
 have:=r.lt i p h1
 rcases e with rfl|rfl
 ·exact this.1
 ·exact this.2
theorem Step.trans (a:Step C X α σ s α' σ' s') (b:Step C X α' σ' s' α'' σ'' s''):Step C X α σ s α'' σ'' s'':=by
 refine a2b a.sh ?_;intro h1 t1 e1
 refine a2b b.sh ?_;intro h2 t2 e2
 refine ex1 a.ext ?_;intro β eβ
 refine ex1 b.ext ?_;intro γ eγ
 refine⟨⟨h2,t2,by rw[e2,e1]⟩,⟨β++γ,by rw[eγ,eβ,List.append_assoc]⟩,b.srel,fun x o nm np e=>?_,fun x m=>?_,Nat.le_trans a.grow b.grow,Nat.le_trans a.verle b.verle,fun hv=>?_⟩
 ·refine b.keep x o (fun m=>?_) np (a.keep x o nm np e)
  rcases a.muts x m with m|m
  ·exact nm m
  ·exact absurd (Heap.lt_size e) (Nat.not_lt.mpr m)
 ·rcases b.muts x m with m|m
  ·exact a.muts x m
  ·exact .inr (Nat.le_trans a.grow m)
 ·have v1:σ'.ver=σ.ver:=Nat.le_antisymm (hv▸b.verle) a.verle
  refine f5 (a.same v1) ?_;intro e1 e2 k1
  refine f5 (b.same (hv.trans v1.symm)) ?_;intro e3 e4 k2
  exact⟨e3.trans e1,e4.trans e2,fun x o np e=>k2 x o np (k1 x o np e)⟩
theorem Step.bad (r:SRel C X α σ s.heap) (a:Step C X α σ s α' σ' s'):∀b o,s.heap.get? b=some o→¬Bad X σ α b→¬Bad X σ' α' b:=fun b o e nb m=>by
 rcases m with m|m
 ·exact nb (.inl m)
 ·rcases a.muts b m with m|m
  ·exact nb (.inr m)
  ·exact absurd (Heap.lt_size e) (Nat.not_lt.mpr m)
theorem Step.kept (r:SRel C X α σ s.heap) (a:Step C X α σ s α' σ' s'):∀b o,¬Bad X σ α b→s.heap.get? b=some o→s'.heap.get? b=some o:=fun b o nb e=>
 a.keep b o (fun m=>nb (.inr m)) (fun q=>nb (.inl (q▸r.xP))) e
theorem Step.alpha (a:Step C X α σ s α' σ' s'):∀(i:Nat)p,α[i]?=some p→α'[i]?=some p:=fun i p e=>by
 obtain⟨β,rfl⟩:=a.ext
 rw[List.getElem?_append_left (List.getElem?_eq_some_iff.mp e).1];exact e
theorem Step.repD (r:SRel C X α σ s.heap) (a:Step C X α σ s α' σ' s'){v:Value}{d:D}(x:RepD C s.heap (Bad X σ α) v d):RepD C s'.heap (Bad X σ' α') v d:=x.mono (a.kept r) (a.bad r)
theorem Step.repDs (r:SRel C X α σ s.heap) (a:Step C X α σ s α' σ' s'){v:List Value}{d:List D}(x:RepDs C s.heap (Bad X σ α) v d):RepDs C s'.heap (Bad X σ' α') v d:=x.mono (a.kept r) (a.bad r)
theorem Step.repV (r:SRel C X α σ s.heap) (a:Step C X α σ s α' σ' s'){v:Value}{d:V}(x:RepV C s.heap (Bad X σ α) α v d):RepV C s'.heap (Bad X σ' α') α' v d:=x.mono (a.kept r) (a.bad r) a.alpha
theorem Step.repVs (r:SRel C X α σ s.heap) (a:Step C X α σ s α' σ' s'){v:List Value}{d:List V}(x:RepVs C s.heap (Bad X σ α) α v d):RepVs C s'.heap (Bad X σ' α') α' v d:=x.mono (a.kept r) (a.bad r) a.alpha
end
structure Ok (C:Cfg):Prop where
 kin:C.K.In C.base
 g:C.base.Ns mainGlobals C.mg
 b:C.base.Ns builtinsNs C.mb
 blt:∀x:Str,x≠"__name__"→C.mb x=bootBuiltins x
 ba:C.base.BuiltinsAt C.mg C.P
 nolimit:C.base.NoLimit
 consts:∀x d,xz x=some d→∃v,C.mg x=some v∧RepD C C.base (fun _=>False) v d
 cls:∀cn c,dl C.K cn=some c→ab5 C.K c=true
 set:∀cn c,dl C.K cn=some c→abf C.K c=true
noncomputable def m4 (env:Env)(h:Heap)(x:Str)(u:Value):Prop:=
 (env.kindOf x=some .local∧∃m,h.Ns env.locals m∧m x=some u)∨((env.kindOf x=some .cell∨env.kindOf x=some .free)∧∃c,env.cells.lookup x=some c∧h.IsCell c (some u))
structure EnvOk (C:Cfg)(env:Env)(sc:Scope)(X:Addr→Prop):Prop where
 kind:env.scope.kind=.function
 globals:env.globals=mainGlobals
 builtins:env.builtins=builtinsNs
 glob:∀x,sc.names.lookup x=some .globalImplicit→env.kindOf x=some .globalImplicit
 cells:∀x,(sc.names.lookup x=some .cell∨sc.names.lookup x=some .free)→∃c,env.cells.lookup x=some c
 xL:X env.locals
 xC:∀x c,env.cells.lookup x=some c→X c
 nP:env.locals≠C.P∧∀x c,env.cells.lookup x=some c→c≠C.P
 debug:sc.names.lookup ("__debug__":Str)=none
 cdict:env.kindOf ("__classdict__":Str)=none
 loc:∀x,sc.names.lookup x=some .local→env.kindOf x=some .local
 cel:∀x,sc.names.lookup x=some .cell→env.kindOf x=some .cell
 fre:∀x,sc.names.lookup x=some .free→env.kindOf x=some .cell∨env.kindOf x=some .free
 inj:∀x y c,env.cells.lookup x=some c→env.cells.lookup y=some c→x=y
 lc:∀x c,env.cells.lookup x=some c→c≠env.locals
 lam:sc.names.lookup ("sorted":Str)=some .globalImplicit→∃c,env.code=.ref c∧CodeHd C.base c C.P
noncomputable def b0 (C:Cfg) (env:Env) (ρ:Rho) (X:Addr→Prop) (α:a7) (σ:Sto) (h:Heap):Prop:=
 ∀x v,ρ.get x=some v→∃u,m4 env h x u∧RepV C h (Bad X σ α) α u v
noncomputable def a1e(env:Env)(sc:Scope)(h:Heap):Prop:=(∃m,h.Ns env.locals m)∧∀x c,sc.names.lookup x=some .cell→env.cells.lookup x=some c→∃v,h.IsCell c v
noncomputable def Own(env:Env)(sc:Scope)(a:Addr):Prop:=a=env.locals∨∃x,sc.names.lookup x=some .cell∧env.cells.lookup x=some a
section
variable{C:Cfg}{h:Heap}{B:Addr→Prop}{α:a7}{P:Prop}{us:List Value}{u v:Value}
noncomputable def apt (P:Prop)(C:Cfg)(h:Heap)(B:Addr→Prop)(v:Value):D→Prop
 |.int i=>(∀t,v=.int i t→P)→P
 |.bool b=>(v=.bool b→P)→P
 |.str x=>(∀t,v=.str x t→P)→P
 |.none=>(v=.none→P)→P
 |.list ds=>(∀a vs,v=.ref a→h.PlainList a vs.toArray→¬B a→vs.length≤1000001→RepDs C h B vs ds→P)→P
 |.tuple ds=>(∀a vs,v=.ref a→h.IsTuple a vs.toArray→¬B a→vs.length≤1000001→RepDs C h B vs ds→P)→P
 |.dict kd kds=>(∀a kvs,v=.ref a→bb C h B a kd kvs→¬B a→RepKs C h B kvs kds→P)→P
 |.inst cn fds=>(∀x dx c es n fs,v=.ref x→h.get? x=some (instObj c dx)→h.get? dx=some (dictOf es n)→dl C.K cn=some c→oo es fs→RepFs C h B fs fds→P)→P
theorem RepD.inv{d:D}(r:RepD C h B v d):apt P C h B v d:=by
 cases r with
 |inst h1 h2 n1 n2 h3 h4 h5=>exact fun k=>k _ _ _ _ _ _ rfl h1 h2 h3 h4 h5
 |dict h1 h2 h3=>exact fun k=>k _ _ rfl h1 h2 h3
 |list h1 h2 h3 h4=>exact fun k=>k _ _ rfl h1 h2 h3 h4
 |tuple h1 h2 h3 h4=>exact fun k=>k _ _ rfl h1 h2 h3 h4
 |none=>exact fun k=>k rfl
 |bool=>exact fun k=>k rfl
 |_=>exact fun k=>k _ rfl
theorem gd{i:Int}(r:RepD C h B v (.int i))(k:∀t,v=.int i t→P):P:=r.inv k
theorem yv{b:Bool}(r:RepD C h B v (.bool b))(k:v=.bool b→P):P:=r.inv k
theorem ahk{x:Str}(r:RepD C h B v (.str x))(k:∀t,v=.str x t→P):P:=r.inv k
theorem a92(r:RepD C h B v .none)(k:v=.none→P):P:=r.inv k
theorem vv{ds:List D}(r:RepD C h B v (.list ds))(k:∀a vs,v=.ref a→h.PlainList a vs.toArray→¬B a→vs.length≤1000001→RepDs C h B vs ds→P):P:=r.inv k
theorem adk{ds:List D}(r:RepD C h B v (.tuple ds))(k:∀a vs,v=.ref a→h.IsTuple a vs.toArray→¬B a→vs.length≤1000001→RepDs C h B vs ds→P):P:=r.inv k
theorem a8e{kd:Kd}{kds:List (D×D)}(r:RepD C h B v (.dict kd kds))(k:∀a kvs,v=.ref a→bb C h B a kd kvs→¬B a→RepKs C h B kvs kds→P):P:=r.inv k
theorem adt{cn:Str}{fds:List (Str×D)}(r:RepD C h B v (.inst cn fds))(k:∀x dx c es n fs,v=.ref x→h.get? x=some (instObj c dx)→h.get? dx=some (dictOf es n)→dl C.K cn=some c→oo es fs→RepFs C h B fs fds→P):P:=r.inv k
noncomputable def apj(P:Prop)(C:Cfg)(h:Heap)(B:Addr→Prop)(α:a7)(v:Value):V→Prop
 |.d d=>RepD C h B v d
 |.m i=>(∀p,α[i]?=some p→v=.ref p.1→P)→P
theorem RepV.inv{w:V}(r:RepV C h B α v w):apj P C h B α v w:=by
 cases r with
 |d r=>exact r
 |m e=>exact fun k=>k _ e rfl
theorem vd{d:D}(r:RepV C h B α v (.d d)):RepD C h B v d:=r.inv (P:=True)
theorem vm{i:Nat}(r:RepV C h B α v (.m i))(k:∀p,α[i]?=some p→v=.ref p.1→P):P:=r.inv k
theorem a0h{i:Int}(r:RepV C h B α u (.d (.int i))) (k:∀t,u=.int i t→P):P:=gd (vd r) k
noncomputable def anq(P:Prop)(C:Cfg)(h:Heap)(B:Addr→Prop)(α:a7)(us:List Value):List V→Prop
 |[]=>(us=[]→P)→P
 |v::vs=>(∀u us',us=u::us'→RepV C h B α u v→RepVs C h B α us' vs→P)→P
theorem RepVs.inv{vs:List V}(r:RepVs C h B α us vs):anq P C h B α us vs:=by
 cases r with
 |nil=>exact fun k=>k rfl
 |cons a b=>exact fun k=>k _ _ rfl a b
theorem rs0(rs:RepVs C h B α us [])(k:us=[]→P):P:=rs.inv k
theorem rs1{v:V}(rs:RepVs C h B α us [v]) (k:∀u,us=[u]→RepV C h B α u v→P):P:=rs.inv fun u us' e a b=>rs0 b fun e0=>k u (e.trans (congrArg _ e0)) a
theorem rs2{v w:V}(rs:RepVs C h B α us [v,w]) (k:∀u u',us=[u,u']→RepV C h B α u v→RepV C h B α u' w→P):P:=rs.inv fun u us' e a b=>rs1 b fun u' e0 a'=>k u u' (e.trans (congrArg _ e0)) a a'
theorem isList{o:Option MO}{β:Type}{f:List D→Option β}{r:β}(e:(match o with|some (.list ys)=>f ys|_=>none)=some r)(k:∀ys,o=some (.list ys)→f ys=some r→P):P:=by
 revert e;generalize hq:o=q;intro e
 cases q with
 |none=>exact no e
 |some ob=>cases ob with
  |list xs=>exact k xs hq e
  |_=>exact no e
theorem afz{β:Type}{v:D}{f:Int→Option β}{r:β}(e:(match v with|.int i=>f i|_=>none)=some r)(k:∀x,v=.int x→f x=some r→P):P:=by
 revert e;generalize hq:v=q;intro e
 cases q with
 |int x=>exact k x hq e
 |_=>exact no e
noncomputable def air(P:Prop)(C:Cfg)(h:Heap)(B:Addr→Prop)(us:List Value):List D→Prop
 |[]=>(us=[]→P)→P
 |v::vs=>(∀u us',us=u::us'→RepD C h B u v→RepDs C h B us' vs→P)→P
theorem RepDs.inv{vs:List D}(r:RepDs C h B us vs):air P C h B us vs:=by
 cases r with
 |nil=>exact fun k=>k rfl
 |cons a b=>exact fun k=>k _ _ rfl a b
theorem a89(rs:RepDs C h B us [])(k:us=[]→P):P:=rs.inv k
theorem aa1{d:D}{ds:List D}(rs:RepDs C h B us (d::ds))(k:∀u us',us=u::us'→RepD C h B u d→RepDs C h B us' ds→P):P:=rs.inv k
theorem ag3{β:Type}{v:V}{f:Option β}{r:β}(e:(match v with|.d .none=>f|_=>none)=some r)(k:v=.d .none→f=some r→P):P:=by
 revert e;generalize hq:v=q;intro e
 cases q with
 |m _=>exact no e
 |d x=>cases x with
  |none=>exact k hq e
  |_=>exact no e
theorem iiE{β:Type}{a b:D}{f:Int→Int→Option β}{r:β}(e:(match a,b with|.int x,.int y=>f x y|_,_=>none)=some r)(k:∀x y,a=.int x→b=.int y→f x y=some r→P):P:=by
 revert e;generalize hq:a=q,hp:b=p;intro e
 cases q with
 |int x=>cases p with
  |int y=>exact k x y hq hp e
  |_=>exact no e
 |_=>exact no e
theorem inE{β:Type}{b:D}{f:List D→Option β}{g:Kd→List (D×D)→Option β}{r:β}(e:(match b with|.tuple xs|.list xs=>f xs|.dict kd kvs=>g kd kvs|_=>none)=some r) (k1:∀xs,b=.tuple xs∨b=.list xs→f xs=some r→P) (k2:∀kd kvs,b=.dict kd kvs→g kd kvs=some r→P):P:=by
 revert e;generalize hq:b=q;intro e
 cases q with
 |tuple xs=>exact k1 xs (.inl hq) e
 |list xs=>exact k1 xs (.inr hq) e
 |dict kd kvs=>exact k2 kd kvs hq e
 |_=>exact no e
theorem ag9{β:Type}{o:Option MO}{f:Kd→List (D×V)→Option β}{g:Option β}{r:β}(e:(match o with|some (.dict kd kvs)=>f kd kvs|_=>g)=some r)(k1:∀kd kvs,o=some (.dict kd kvs)→f kd kvs=some r→P)(k2:g=some r→P):P:=by
 revert e;generalize hq:o=q;intro e
 cases q with
 |none=>exact k2 e
 |some ob=>cases ob with
  |dict kd kvs=>exact k1 kd kvs hq e
  |_=>exact k2 e
theorem apv{β:Type}{o:Option MO}{f:Kd→List (D×V)→Option β}{g:List D→Option β}{r:β}(e:(match o with|some (.dict kd kvs)=>f kd kvs|some (.list xs)=>g xs|_=>none)=some r)(k1:∀kd kvs,o=some (.dict kd kvs)→f kd kvs=some r→P)(k2:∀xs,o=some (.list xs)→g xs=some r→P):P:=by
 revert e;generalize hq:o=q;intro e
 cases q with
 |none=>exact no e
 |some ob=>cases ob with
  |dict kd kvs=>exact k1 kd kvs hq e
  |list xs=>exact k2 xs hq e
  |_=>exact no e
theorem amm{β:Type}{o:Option MO}{g:Str→List (Str×D)→Option β}{f':Str→List (Str×V)→Option β}{r:β}(e:(match o with|some (.inst c fs)=>f' c fs|some (.frozen (.inst c fs))=>g c fs|_=>none)=some r)(k1:∀c fs,o=some (.inst c fs)→f' c fs=some r→P)(k2:∀c fs,o=some (.frozen (.inst c fs))→g c fs=some r→P):P:=by
 revert e;generalize hq:o=q;intro e
 cases q with
 |none=>exact no e
 |some ob=>cases ob with
  |inst c fs=>exact k1 c fs hq e
  |frozen x=>cases x with
   |inst c fs=>exact k2 c fs hq e
   |_=>exact no e
  |_=>exact no e
theorem ade{β:Type}{o:Option MO}{f:Str→List (Str×V)→Option β}{r:β}(e:(match o with|some (.inst c fs)=>f c fs|_=>none)=some r)(k:∀c fs,o=some (.inst c fs)→f c fs=some r→P):P:=by
 revert e;generalize hq:o=q;intro e
 cases q with
 |none=>exact no e
 |some ob=>cases ob with
  |inst c fs=>exact k c fs hq e
  |_=>exact no e
theorem a2q{β:Type}{o:Option MO}{f:List D→Option β}{g:Kd→List (D×V)→Option β}{r:β}(e:(match o with|some (.list xs)=>f xs|some (.dict kd kvs)=>g kd kvs|_=>none)=some r)(k1:∀xs,o=some (.list xs)→f xs=some r→P)(k2:∀kd kvs,o=some (.dict kd kvs)→g kd kvs=some r→P):P:=by
 revert e;generalize hq:o=q;intro e
 cases q with
 |none=>exact no e
 |some ob=>cases ob with
  |list xs=>exact k1 xs hq e
  |dict kd kvs=>exact k2 kd kvs hq e
  |_=>exact no e
theorem ao8{P:V→V→V→Prop}{σ:Sto}{o i x:V}(e:bx σ o i=some x) (k1:∀j k kd kvs y,σ.objs[j]?=some (.dict kd kvs)→kd.asks k=true→a6 k kvs=some y→P (.m j) (.d k) (norm σ y))
  (k2:∀j xs z n d,σ.objs[j]?=some (.list xs)→dr xs.length z=some n→xs[n]?=some d→P (.m j) (.d (.int z)) (.d d)) (k3:∀xs z n d,dr xs.length z=some n→xs[n]?=some d→P (.d (.list xs)) (.d (.int z)) (.d d))
  (k4:∀xs z n d,dr xs.length z=some n→xs[n]?=some d→P (.d (.tuple xs)) (.d (.int z)) (.d d)) (k5:∀k kd kvs y,kd.asks k=true→a6 k kvs=some y→P (.d (.dict kd kvs)) (.d k) (.d y)):P o i x:=by
 cases i with
 |m _=>cases o with
  |m _=>exact no e
  |d y=>cases y<;>exact no e
 |d k=>cases o with
  |m j=>
   exact apv e (fun kd kvs ho e=>ai e (fun q e=>de e fun y e1 e2=>e2▸k1 j k kd kvs y ho q e1) fun _ e=>no e) fun xs ho e=>afz e fun z hz e=>bj e fun n e1 e=>de e fun d e2 e3=>e3▸hz▸k2 j xs z n d ho e1 e2
  |d y=>cases y with
   |list xs=>cases k with
    |int z=>exact bj e fun n e1 e=>de e fun d e2 e3=>e3▸k3 xs z n d e1 e2
    |_=>exact no e
   |tuple xs=>cases k with
    |int z=>exact bj e fun n e1 e=>de e fun d e2 e3=>e3▸k4 xs z n d e1 e2
    |_=>exact no e
   |dict kd kvs=>exact ai e (fun q e=>de e fun y e1 e2=>e2▸k5 k kd kvs y q e1) fun _ e=>no e
   |_=>exact no e
end
section
variable{C:Cfg}{h h':Heap}{B B':Addr→Prop}{α α':a7}{p:Addr×Addr}{o:MO}
theorem o5.mono(hk:∀b o,¬B b→h.get? b=some o→h'.get? b=some o)(hb:∀b o,h.get? b=some o→¬B b→¬B' b)(hα:∀(i:Nat)p,α[i]?=some p→α'[i]?=some p)
  (h1:∀o,h.get? p.1=some o→h'.get? p.1=some o)(h2:∀o,h.get? p.2=some o→h'.get? p.2=some o)(x:o5 C h B α p o):o5 C h' B' α' p o:=by
 cases o with
 |list xs=>obtain⟨e,vs,⟨n,hp⟩,hl,r⟩:=x;exact⟨e,vs,⟨n,h1 _ hp⟩,hl,r.mono hk hb⟩
 |dict kd kvs=>obtain⟨e,l,hd,r⟩:=x;exact⟨e,l,hd.mono h1 hk hb,r.mono hk hb hα⟩
 |inst cn fs=>obtain⟨c,es,n,l,a1,a2,a3,a4,r⟩:=x;exact⟨c,es,n,l,h1 _ a1,h2 _ a2,a3,a4,r.mono hk hb hα⟩
 |frozen x'=>exact RepD.mono hk hb x
end
section
variable{C:Cfg}{X:Addr→Prop}{α:a7}{σ:Sto}{s:Shared}{h h':Heap}
theorem acg.keep{P:Addr}(z:acg P h)(k:∀o,h.get? P=some o→h'.get? P=some o):acg P h':=let⟨ps,e,r⟩:=z;⟨ps,k _ e,r⟩
theorem SRel.keepAll (r:SRel C X α σ h) (hk:∀a o,h.get? a=some o→h'.get? a=some o) (hs:h.objs.size≤h'.objs.size):SRel C X α σ h' where
 len:=r.len
 obj:=fun i p o h1 h2=>(r.obj i p o h1 h2).mono (fun b o _ e=>hk b o e) (fun _ _ _ n=>n) (fun _ _ e=>e) (fun o e=>hk _ o e) (fun o e=>hk _ o e)
 apart:=r.apart
 notX:=r.notX
 notBase:=r.notBase
 lt:=fun i p e=>⟨Nat.lt_of_lt_of_le (r.lt i p e).1 hs,Nat.lt_of_lt_of_le (r.lt i p e).2 hs⟩
 xBase:=r.xBase
 xLt:=fun a x=>Nat.lt_of_lt_of_le (r.xLt a x) hs
 xP:=r.xP
 stays:=fun b o e=>hk b o (r.stays b o e)
 sz:=Nat.le_trans r.sz hs
 tab:=r.tab.keep fun o e=>hk _ o e
theorem Step.keepAll(r:SRel C X α σ s.heap)(hk:∀a o,s.heap.get? a=some o→h'.get? a=some o)(hs:s.heap.objs.size≤h'.objs.size)(t:Nat):Step C X α σ s α σ {s with heap:=h',toks:=t}:=
 ⟨⟨_,_,rfl⟩,⟨[],by simp⟩,r.keepAll hk hs,fun a o _ _ e=>hk a o e,fun _ m=>.inl m,hs,Nat.le_refl _,fun _=>⟨rfl,rfl,fun a o _ e=>hk a o e⟩⟩
theorem Step.tok (r:SRel C X α σ s.heap) (t:Nat):Step C X α σ s α σ {s with toks:=t}:=Step.keepAll r (fun _ _ e=>e) (Nat.le_refl _) t
theorem Step.push (r:SRel C X α σ s.heap) (o:Obj) (t:Nat):Step C X α σ s α σ {s with heap:=s.heap.push o,toks:=t}:=
 Step.keepAll r (fun _ _ e=>Heap.get?_push_of_some _ e) (by rw[Heap.size_push];exact ap3) t
theorem gv (r:SRel C X α σ s.heap){a:Addr}(h:s.heap.objs.size≤a):¬Bad X σ α a:=fun m=>by
 rcases m with m|m
 ·exact absurd (r.xLt a m) (Nat.not_lt.mpr h)
 ·exact absurd (Mut.lt r m) (Nat.not_lt.mpr h)
theorem w4(r:SRel C X α σ h){a:Addr}{o:Obj}(e:C.base.get? a=some o):¬Bad X σ α a:=fun m=>by
 rcases m with m|⟨i,p,o',h1,_,_,q⟩
 ·rw[r.xBase a m]at e;cases e
 ·have:=r.notBase i p h1
  rcases q with rfl|rfl
  ·rw[this.1]at e;cases e
  ·rw[this.2]at e;cases e
theorem SRel.put{i:Nat}{p:Addr×Addr}{o o':MO}(r:SRel C X α σ h) (hi:α[i]?=some p) (ho:σ.objs[i]?=some o) (hl:o.live=true)
  (hk:∀a ob,a≠p.1→a≠p.2→h.get? a=some ob→h'.get? a=some ob) (hs:h.objs.size≤h'.objs.size) (hn:o5 C h' (Bad X (σ.put i o') α) α p o'):SRel C X α (σ.put i o') h':=by
 have mutp:Mut σ α p.1∧Mut σ α p.2:=⟨⟨i,p,o,hi,ho,hl,.inl rfl⟩,⟨i,p,o,hi,ho,hl,.inr rfl⟩⟩
 have sub:∀a,Mut (σ.put i o') α a→Mut σ α a:=by
  rintro a⟨j,q,oq,h1,h2,h3,e⟩
  by_cases hj:j=i
  ·subst hj
   rw[hi]at h1;cases h1
   rcases e with rfl|rfl
   ·exact mutp.1
   ·exact mutp.2
  ·simp only[Sto.put]at h2
   rw[List.getElem?_set_ne (Ne.symm hj)]at h2
   exact⟨j,q,oq,h1,h2,h3,e⟩
 have keep:∀b ob,¬Bad X σ α b→h.get? b=some ob→h'.get? b=some ob:=fun b ob nb e=>
  hk b ob (fun q=>nb (.inr (q▸mutp.1))) (fun q=>nb (.inr (q▸mutp.2))) e
 have nP:C.P≠p.1∧C.P≠p.2:=⟨fun q=>(r.notX i p hi).1 (q▸r.xP),fun q=>(r.notX i p hi).2 (q▸r.xP)⟩
 refine⟨by simp[Sto.put,r.len],fun j q oq h1 h2=>?_,r.apart,r.notX,r.notBase,fun j q e=>⟨Nat.lt_of_lt_of_le (r.lt j q e).1 hs,Nat.lt_of_lt_of_le (r.lt j q e).2 hs⟩,r.xBase,
  fun a x=>Nat.lt_of_lt_of_le (r.xLt a x) hs,r.xP,fun b ob e=>keep b ob (w4 r e) (r.stays b ob e),Nat.le_trans r.sz hs,r.tab.keep fun ob e=>hk _ ob nP.1 nP.2 e⟩
 by_cases hj:j=i
 ·subst hj
  rw[hi]at h1;cases h1
  have hlt:j<σ.objs.length:=(List.getElem?_eq_some_iff.mp ho).1
  simp only[Sto.put]at h2
  rw[List.getElem?_set_self hlt]at h2
  cases h2
  exact hn
 ·simp only[Sto.put]at h2
  rw[List.getElem?_set_ne (Ne.symm hj)]at h2
  have ap:=r.apart j i q p h1 hi hj
  exact(r.obj j q oq h1 h2).mono keep (fun b ob e nb m=>nb (m.elim .inl fun m=>.inr (sub b m))) (fun _ _ e=>e) (fun ob e=>hk _ ob ap.1 ap.2.1 e) (fun ob e=>hk _ ob ap.2.2.1 ap.2.2.2 e)
theorem Mut.put_sub{i:Nat}{p:Addr×Addr}{o o':MO}(hi:α[i]?=some p) (ho:σ.objs[i]?=some o) (hl:o.live=true):∀a,Mut (σ.put i o') α a→Mut σ α a:=by
 rintro a⟨j,q,oq,h1,h2,h3,e⟩
 by_cases hj:j=i
 ·subst hj
  rw[hi]at h1;cases h1
  exact⟨_,_,_,hi,ho,hl,e⟩
 ·simp only[Sto.put]at h2
  rw[List.getElem?_set_ne (Ne.symm hj)]at h2
  exact⟨j,q,oq,h1,h2,h3,e⟩
theorem Step.put {i:Nat}{p:Addr×Addr}{o o':MO}(r:SRel C X α σ s.heap) (hi:α[i]?=some p) (ho:σ.objs[i]?=some o) (hl:o.live=true)
  (hk:∀a ob,a≠p.1→a≠p.2→s.heap.get? a=some ob→h'.get? a=some ob) (hs:s.heap.objs.size≤h'.objs.size) (hn:o5 C h' (Bad X (σ.put i o') α) α p o') (t:Nat):
  Step C X α σ s α (σ.put i o') {s with heap:=h',toks:=t}:=
 ⟨⟨_,_,rfl⟩,⟨[],by simp⟩,r.put hi ho hl hk hs hn,fun a ob nm np e=>hk a ob (fun q=>nm ⟨i,p,o,hi,ho,hl,.inl q⟩) (fun q=>nm ⟨i,p,o,hi,ho,hl,.inr q⟩) e,
  fun a m=>.inl (Mut.put_sub hi ho hl a m),hs,Nat.le_succ _,fun e=>absurd e (by simp[Sto.put])⟩
theorem ub{β:Type}{l:List β}{p q:β}{i:Nat}{P:Prop}(e:(l++[p])[i]?=some q) (k1:l[i]?=some q→i<l.length→P) (k2:i=l.length→p=q→P):P:=by
 by_cases hi:i<l.length
 ·rw[List.getElem?_append_left hi]at e;exact k1 e hi
 ·have hl:=(List.getElem?_eq_some_iff.mp e).1
  rw[List.length_append]at hl
  have hi':i=l.length:=Nat.le_antisymm (Nat.le_of_lt_succ hl) (Nat.not_lt.mp hi)
  rw[hi',List.getElem?_append_right (Nat.le_refl _),Nat.sub_self]at e
  exact k2 hi' (Option.some.inj e)
theorem Mut.alloc_sub{p:Addr×Addr}{o:MO}(len:α.length=σ.objs.length):∀a,Mut (σ.alloc o).2 (α++[p]) a→Mut σ α a∨a=p.1∨a=p.2:=fun a ⟨i,q,oq,e1,e2,e3,e⟩=>
 ub e1 (fun e4 hi=>.inl ⟨i,q,oq,e4,(List.getElem?_append_left (len▸hi)).symm.trans e2,e3,e⟩) fun _ hq=>.inr (hq▸e)
theorem SRel.snoc{X':Addr→Prop}{h:Heap}{p:Addr×Addr}{o:MO}(r:SRel C X' α σ h) (up:∀a,X a→X' a) (xP:X C.P) (hs:h.objs.size≤h'.objs.size) (hk:∀a ob,a≠p.1→a≠p.2→h.get? a=some ob→h'.get? a=some ob)
    (ne:∀(i:Nat) q,α[i]?=some q→q.1≠p.1∧q.1≠p.2∧q.2≠p.1∧q.2≠p.2) (n:¬X p.1∧¬X p.2) (nb:C.base.get? p.1=none∧C.base.get? p.2=none) (lt:p.1<h'.objs.size∧p.2<h'.objs.size)
    (bad:∀a,a=p.1∨a=p.2→∀ob,h.get? a=some ob→Bad X' σ α a) (hn:o5 C h' (Bad X (σ.alloc o).2 (α++[p])) (α++[p]) p o):SRel C X (α++[p]) (σ.alloc o).2 h':=
  { len:=by rw[List.length_append,r.len];exact(List.length_append (as:=σ.objs) (bs:=[o])).symm
    obj:=fun i q oq e1 e2=>ub e1 (fun e4 hi=>ahv (ne i q e4) fun n1 n2 n3 n4=>(r.obj i q oq e4 ((List.getElem?_append_left (r.len▸hi)).symm.trans e2)).mono
        (fun b ob nb e=>hk b ob (fun q=>nb (bad b (.inl q) ob e)) (fun q=>nb (bad b (.inr q) ob e)) e) (fun b ob e nb m=>m.elim (fun m=>nb (.inl (up b m))) fun m=>(Mut.alloc_sub r.len b m).elim (fun m=>nb (.inr m)) fun q=>nb (bad b q ob e))
        (fun i q e=>(List.getElem?_append_left (List.getElem?_eq_some_iff.mp e).1).trans e) (fun ob e=>hk _ ob n1 n2 e) fun ob e=>hk _ ob n3 n4 e)
      fun hi hq=>ub e2 (fun _ hl=>absurd hl (Nat.not_lt.mpr (Nat.le_of_eq (hi.trans r.len).symm))) fun _ ho=>hq▸ho▸hn
    apart:=fun i j q q' e1 e2 hne=>ub e1 (fun e4 hi=>ub e2 (fun e5 _=>r.apart i j q q' e4 e5 hne) fun _ hq=>hq▸ne i q e4) fun hi hq=>ub e2 (fun e5 _=>ahv (ne j q' e5) fun n1 n2 n3 n4=>hq▸⟨n1.symm,n3.symm,n2.symm,n4.symm⟩) fun hj _=>absurd (hi.trans hj.symm) hne
    notX:=fun i q e=>ub e (fun e4 _=>⟨fun x=>(r.notX i q e4).1 (up _ x),fun x=>(r.notX i q e4).2 (up _ x)⟩) fun _ hq=>hq▸n
    notBase:=fun i q e=>ub e (fun e4 _=>r.notBase i q e4) fun _ hq=>hq▸nb
    lt:=fun i q e=>ub e (fun e4 _=>⟨Nat.lt_of_lt_of_le (r.lt i q e4).1 hs,Nat.lt_of_lt_of_le (r.lt i q e4).2 hs⟩) fun _ hq=>hq▸lt
    xBase:=fun a x=>r.xBase a (up a x)
    xLt:=fun a x=>Nat.lt_of_lt_of_le (r.xLt a (up a x)) hs
    xP:=xP
    stays:=fun b ob e=>hk b ob (fun q=>by rw[q,nb.1]at e;exact no e) (fun q=>by rw[q,nb.2]at e;exact no e) (r.stays b ob e)
    sz:=Nat.le_trans r.sz hs
    tab:=r.tab.keep fun ob e=>hk _ ob (fun q=>n.1 (q▸xP)) (fun q=>n.2 (q▸xP)) e}
theorem Step.alloc {p:Addr×Addr}{o:MO}(r:SRel C X α σ s.heap) (hk:∀a ob,s.heap.get? a=some ob→h'.get? a=some ob) (hs:s.heap.objs.size≤h'.objs.size)
  (h1:s.heap.objs.size≤p.1) (h2:s.heap.objs.size≤p.2) (l1:p.1<h'.objs.size) (l2:p.2<h'.objs.size)
  (hn:o5 C h' (Bad X (σ.alloc o).2 (α++[p])) (α++[p]) p o) (t:Nat):
  Step C X α σ s (α++[p]) (σ.alloc o).2 {s with heap:=h',toks:=t}:=by
 have non:∀a,s.heap.objs.size≤a→C.base.get? a=none∧¬X a∧∀ob,¬s.heap.get? a=some ob:=fun a ha=>⟨Heap.get?_none_of_le (Nat.le_trans r.sz ha),fun x=>absurd (r.xLt a x) (Nat.not_lt.mpr ha),fun ob e=>absurd (Heap.lt_size e) (Nat.not_lt.mpr ha)⟩
 have ne:∀a,a<s.heap.objs.size→a≠p.1∧a≠p.2:=fun a ha=>⟨Nat.ne_of_lt (Nat.lt_of_lt_of_le ha h1),Nat.ne_of_lt (Nat.lt_of_lt_of_le ha h2)⟩
 have nn:=fun a (q:a=p.1∨a=p.2)=>q.elim (fun q=>q▸non p.1 h1) fun q=>q▸non p.2 h2
 refine⟨⟨_,_,rfl⟩,⟨[p],rfl⟩,r.snoc (fun _ x=>x) r.xP hs (fun a ob _ _ e=>hk a ob e) (fun i q e=>bk (r.lt i q e) fun a1 a2=>⟨(ne _ a1).1,(ne _ a1).2,(ne _ a2).1,(ne _ a2).2⟩) ⟨(non _ h1).2.1,(non _ h2).2.1⟩ ⟨(non _ h1).1,(non _ h2).1⟩ ⟨l1,l2⟩
  (fun a q ob e=>absurd e ((nn a q).2.2 ob)) hn,fun a ob _ _ e=>hk a ob e,fun a m=>(Mut.alloc_sub r.len a m).imp id fun q=>q.elim (fun q=>q▸h1) fun q=>q▸h2,hs,Nat.le_succ _,fun e=>absurd e (Nat.succ_ne_self _)⟩
end
section
variable{C:Cfg}{X:Addr→Prop}{α α':a7}{σ σ':Sto}{s s':Shared}{env:Env}{sc:Scope}{ρ:Rho}
theorem m4.keep{h h':Heap}{x:Str}{u:Value}(hL:∀o,h.get? env.locals=some o→h'.get? env.locals=some o)(hC:∀x c,env.cells.lookup x=some c→∀o,h.get? c=some o→h'.get? c=some o)
  (r:m4 env h x u):m4 env h' x u:=by
 rcases r with ⟨hk,m,hn,hm⟩|⟨hk,c,hc,o,ho,hd⟩
 ·exact .inl ⟨hk,m,hn.at' hL,hm⟩
 ·exact .inr ⟨hk,c,hc,o,hC x c hc o ho,hd⟩
theorem b0.step (K:EnvOk C env sc X) (r:SRel C X α σ s.heap) (a:Step C X α σ s α' σ' s') (h:b0 C env ρ X α σ s.heap):b0 C env ρ X α' σ' s'.heap:=fun x v e=>by
 refine ar (h x v e) ?_;intro u h1 h2
 have nx:∀a,X a→¬Mut σ α a:=fun a xa m=>by
  obtain⟨i,p,o,h1,_,_,q⟩:=m
  have:=r.notX i p h1
  rcases q with rfl|rfl
  ·exact this.1 xa
  ·exact this.2 xa
 exact⟨u,h1.keep (fun o e=>a.keep _ o (nx _ K.xL) K.nP.1 e) (fun x c hc o e=>a.keep _ o (nx _ (K.xC x c hc)) (K.nP.2 x c hc) e),a.repV r h2⟩
end
section
variable{C:Cfg}{X X':Addr→Prop}{α α':a7}{σ σ':Sto}{s s':Shared}{h h':Heap}
theorem Bad.up (hX:∀a,X a→X' a){a:Addr}(m:Bad X σ α a):Bad X' σ α a:=m.elim (fun m=>.inl (hX a m)) .inr
theorem SRel.widen (r:SRel C X α σ h) (hk:∀a o,h.get? a=some o→h'.get? a=some o) (hs:h.objs.size≤h'.objs.size) (hX:∀a,X a→X' a) (hN:∀a,X' a→X a∨(h.objs.size≤a∧a<h'.objs.size)):SRel C X' α σ h':=by
 have bad:∀b o,h.get? b=some o→¬Bad X σ α b→¬Bad X' σ α b:=fun b o e nb m=>by
  rcases m with m|m
  ·rcases hN b m with m|m
   ·exact nb (.inl m)
   ·exact absurd (Heap.lt_size e) (Nat.not_lt.mpr m.1)
  ·exact nb (.inr m)
 have q:=r.keepAll hk hs
 refine⟨r.len,fun i p o h1 h2=>(r.obj i p o h1 h2).mono (fun b o _ e=>hk b o e) bad (fun _ _ e=>e) (fun o e=>hk _ o e) (fun o e=>hk _ o e),r.apart,fun i p e=>?_,r.notBase,q.lt,fun a x=>?_,fun a x=>?_,hX _ r.xP,q.stays,q.sz,q.tab⟩
 ·have lt:=r.lt i p e
  exact⟨fun x=>(hN _ x).elim (r.notX i p e).1 fun x=>absurd lt.1 (Nat.not_lt.mpr x.1),fun x=>(hN _ x).elim (r.notX i p e).2 fun x=>absurd lt.2 (Nat.not_lt.mpr x.1)⟩
 ·rcases hN a x with x|x
  ·exact r.xBase a x
  ·exact Heap.get?_none_of_le (Nat.le_trans r.sz x.1)
 ·rcases hN a x with x|x
  ·exact Nat.lt_of_lt_of_le (r.xLt a x) hs
  ·exact x.2
theorem SRel.narrow (r:SRel C X' α σ h) (hX:∀a,X a→X' a) (xP:X C.P):SRel C X α σ h:=
 ⟨r.len,fun i p o h1 h2=>(r.obj i p o h1 h2).mono (fun _ _ _ e=>e) (fun _ _ _ nb m=>nb (Bad.up hX m)) (fun _ _ e=>e) (fun _ e=>e) (fun _ e=>e),r.apart,fun i p e=>⟨fun x=>(r.notX i p e).1 (hX _ x),fun x=>(r.notX i p e).2 (hX _ x)⟩,r.notBase,r.lt,
  fun a x=>r.xBase a (hX a x),fun a x=>r.xLt a (hX a x),xP,r.stays,r.sz,r.tab⟩
theorem Step.narrow {t:Nat} (r:SRel C X α σ s.heap) (hk:∀a o,s.heap.get? a=some o→h'.get? a=some o) (hs:s.heap.objs.size≤h'.objs.size) (hX:∀a,X a→X' a)
  (S:Step C X' α σ {s with heap:=h',toks:=t} α' σ' s'):Step C X α σ s α' σ' s':=by
 refine a2b S.sh ?_;intro h1 t1 e1
 refine⟨⟨h1,t1,e1⟩,S.ext,S.srel.narrow hX r.xP,fun a o nm np e=>S.keep a o nm np (hk a o e),fun a m=>(S.muts a m).elim .inl fun q=>.inr (Nat.le_trans hs q),Nat.le_trans hs S.grow,S.verle,fun e=>?_⟩
 refine f5 (S.same e) ?_;intro q1 q2 q3
 exact⟨q1,q2,fun a o np e=>q3 a o np (hk a o e)⟩
theorem RepD.widen{v:Value}{d:D}(hk:∀a o,h.get? a=some o→h'.get? a=some o) (hN:∀a,X' a→X a∨h.objs.size≤a) (r:RepD C h (Bad X σ α) v d):RepD C h' (Bad X' σ α) v d:=
 r.mono (fun b o _ e=>hk b o e) fun b o e nb m=>by
  rcases m with m|m
  ·rcases hN b m with m|m
   ·exact nb (.inl m)
   ·exact absurd (Heap.lt_size e) (Nat.not_lt.mpr m)
  ·exact nb (.inr m)
theorem RepV.widen{v:Value}{d:V}(hk:∀a o,h.get? a=some o→h'.get? a=some o) (hN:∀a,X' a→X a∨h.objs.size≤a) (r:RepV C h (Bad X σ α) α v d):RepV C h' (Bad X' σ α) α v d:=by
 cases r with
 |d r=>exact .d (r.widen hk hN)
 |m e=>exact .m e
theorem RepV.narrow{v:Value}{d:V}(hX:∀a,X a→X' a) (r:RepV C h (Bad X' σ α) α v d):RepV C h (Bad X σ α) α v d:=r.mono (fun _ _ _ e=>e) (fun _ _ _ nb m=>nb (Bad.up hX m)) fun _ _ e=>e
theorem b0.widen{env:Env}{sc:Scope}{ρ:Rho}(hk:∀a o,h.get? a=some o→h'.get? a=some o) (hN:∀a,X' a→X a∨h.objs.size≤a) (r:b0 C env ρ X α σ h):b0 C env ρ X' α σ h':=fun x v e=>by
 refine ar (r x v e) ?_;intro u h1 h2
 exact⟨u,h1.keep (fun o e=>hk _ o e) (fun _ _ _ o e=>hk _ o e),h2.widen hk hN⟩
theorem EnvOk.widen{env:Env}{sc:Scope}(K:EnvOk C env sc X)(hX:∀a,X a→X' a):EnvOk C env sc X':={K with xL:=hX _ K.xL,xC:=fun x c e=>hX _ (K.xC x c e)}
theorem Step.adopt {s₀:Shared}{α₀:a7}{σ₀:Sto}{p:Addr×Addr}{o:MO}(r₀:SRel C X α₀ σ₀ s₀.heap) (S:Step C X α₀ σ₀ s₀ α σ s) (r:SRel C X' α σ s.heap) (hX:∀a,X' a ↔ X a∨a=p.1∨a=p.2)
  (n1:s₀.heap.objs.size≤p.1) (n2:s₀.heap.objs.size≤p.2)
  (hk:∀a ob,a≠p.1→a≠p.2→s.heap.get? a=some ob→h'.get? a=some ob) (hs:s.heap.objs.size≤h'.objs.size)
  (hn:o5 C h' (Bad X (σ.alloc o).2 (α++[p])) (α++[p]) p o) (t:Nat):Step C X α₀ σ₀ s₀ (α++[p]) (σ.alloc o).2 {s with heap:=h',toks:=t}:=by
 have x1:X' p.1:=(hX _).mpr (.inr (.inl rfl))
 have x2:X' p.2:=(hX _).mpr (.inr (.inr rfl))
 have non:∀a,s₀.heap.objs.size≤a→C.base.get? a=none∧¬X a∧∀ob,¬s₀.heap.get? a=some ob:=fun a ha=>⟨Heap.get?_none_of_le (Nat.le_trans r₀.sz ha),fun x=>absurd (r₀.xLt a x) (Nat.not_lt.mpr ha),fun ob e=>absurd (Heap.lt_size e) (Nat.not_lt.mpr ha)⟩
 refine a2b S.sh fun h1 t1 e1=>ex1 S.ext fun β eβ=>?_
 refine⟨⟨h',t,by rw[e1]⟩,⟨β++[p],by rw[eβ,List.append_assoc]⟩,r.snoc (fun a x=>(hX a).mpr (.inl x)) r₀.xP hs hk (fun i q e=>bk (r.notX i q e) fun a1 a2=>⟨fun z=>a1 (z▸x1),fun z=>a1 (z▸x2),fun z=>a2 (z▸x1),fun z=>a2 (z▸x2)⟩)
  ⟨(non _ n1).2.1,(non _ n2).2.1⟩ ⟨(non _ n1).1,(non _ n2).1⟩ ⟨Nat.lt_of_lt_of_le (r.xLt _ x1) hs,Nat.lt_of_lt_of_le (r.xLt _ x2) hs⟩ (fun a q _ _=>.inl ((hX a).mpr (.inr q))) hn,
  fun a ob nm np e=>hk a ob (fun q=>(non _ n1).2.2 ob (q▸e)) (fun q=>(non _ n2).2.2 ob (q▸e)) (S.keep a ob nm np e),fun a m=>(Mut.alloc_sub r.len a m).elim (S.muts a) fun q=>.inr (q.elim (fun q=>q▸n1) fun q=>q▸n2),Nat.le_trans S.grow hs,Nat.le_succ_of_le S.verle,
  fun e=>absurd S.verle (Nat.not_le.mpr (by rw[←e];exact Nat.lt_succ_self _))⟩
end
noncomputable abbrev noB:Addr→Prop:=fun _=>False
theorem RepD.weak{C:Cfg}{h:Heap}{B:Addr→Prop}{v:Value}{d:D}(x:RepD C h B v d):RepD C h noB v d:=x.mono (fun _ _ _ e=>e) (fun _ _ _ _=>id)
theorem RepDs.weak{C:Cfg}{h:Heap}{B:Addr→Prop}{v:List Value}{d:List D}(x:RepDs C h B v d):RepDs C h noB v d:=x.mono (fun _ _ _ e=>e) (fun _ _ _ _=>id)
noncomputable def vg(C:Cfg)(h:Heap)(B:Addr→Prop)(v:Value):D→Prop
 |.list ds=>∃a vs,v=.ref a∧h.PlainList a vs.toArray∧vs.length≤1000001∧RepDs C h B vs ds
 |d=>RepD C h B v d
theorem vg.weak{C:Cfg}{h:Heap}{B:Addr→Prop}{v:Value}{d:D}(x:vg C h B v d):RepD C h noB v d:=by
 cases d<;>first|exact RepD.weak x|skip
 refine yh x ?_;clear x;intro a vs rf2 h1 h2 r;subst rf2
 exact .list h1 id h2 r.weak
theorem RepD.toT{C:Cfg}{h:Heap}{B:Addr→Prop}{v:Value}{d:D}(x:RepD C h B v d):vg C h B v d:=by
 cases x<;>first|exact .none|exact .bool _|exact .int _ _|exact .str _ _|skip
 ·exact .tuple ‹_› ‹_› ‹_› ‹_›
 ·exact⟨_,_,rfl,‹_›,‹_›,‹_›⟩
 ·exact .dict ‹_› ‹_› ‹_›
 ·exact .inst ‹_› ‹_› ‹_› ‹_› ‹_› ‹_› ‹_›
theorem PlainList.isList{h:Heap}{a:Addr}{vs:Array Value}(x:h.PlainList a vs):h.IsList a vs:=let⟨n,e⟩:=x;⟨_,e,rfl,n,rfl⟩
section
variable{C:Cfg}{X:Addr→Prop}{α:a7}{σ σ':Sto}{s:Shared}{h:Heap}{u:Value}{v:V}{d:D}
theorem RepV.at(r:SRel C X α σ h){i:Nat}(x:RepV C h (Bad X σ α) α u (.m i)){o:MO}(ho:σ.objs[i]?=some o):∃p,α[i]?=some p∧u=.ref p.1∧o5 C h (Bad X σ α) α p o:=by
 cases x with
 |m e=>exact⟨_,e,rfl,r.obj _ _ _ e ho⟩
theorem RepV.norm (r:SRel C X α σ h) (x:RepV C h (Bad X σ α) α u v):RepV C h (Bad X σ α) α u (norm σ v):=by
 cases v with
 |d y=>exact x
 |m i=>
  simp only[Mini.Internal.norm]
  split
  ·rename_i y hy
   refine dz (x.at r hy) ?_;intro p hp rf2 hr;subst rf2
   exact .d hr
  ·exact x
theorem RepV.data{x:D}(r:RepV C h (Bad X σ α) α u (.d x)):RepD C h (Bad X σ α) u x:=by cases r with|d r=>exact r
theorem aot{P:Prop}{o:Option MO}{d:D}(e:(match o with|some (.frozen x)=>some x|some (.list xs)=>some (.list xs)|_=>none)=some d)(k1:∀x,o=some (.frozen x)→d=x→P)(k2:∀xs,o=some (.list xs)→d=.list xs→P):P:=by
 cases o with
 |none=>exact no e
 |some ob=>cases ob with
  |frozen x=>exact k1 x rfl (Option.some.inj e).symm
  |list xs=>exact k2 xs rfl (Option.some.inj e).symm
  |_=>exact no e
theorem aff{β:Type}{P:Prop}{o:Option MO}{r:β}{a:D→Option β}{b:List D→Option β}{c:Kd→List (D×V)→Option β}{d:Str→List (Str×V)→Option β}
  (e:(match o with|some (.frozen x)=>a x|some (.list xs)=>b xs|some (.dict kd kvs)=>c kd kvs|some (.inst cn fs)=>d cn fs|none=>none)=some r)
  (k1:∀x,o=some (.frozen x)→a x=some r→P)(k2:∀xs,o=some (.list xs)→b xs=some r→P)(k3:∀kd kvs,o=some (.dict kd kvs)→c kd kvs=some r→P)(k4:∀cn fs,o=some (.inst cn fs)→d cn fs=some r→P):P:=by
 cases o with
 |none=>exact no e
 |some ob=>cases ob with
  |frozen x=>exact k1 x rfl e
  |list xs=>exact k2 xs rfl e
  |dict kd kvs=>exact k3 kd kvs rfl e
  |inst cn fs=>exact k4 cn fs rfl e
theorem RepV.peek (r:SRel C X α σ h) (x:RepV C h (Bad X σ α) α u v) (e:peek σ v=some d):vg C h (Bad X σ α) u d:=by
 cases v with
 |d y=>cases e;exact x.data.toT
 |m i=>
  refine aot e (fun y hy e=>e▸vm x fun p hp hu=>hu▸RepD.toT (r.obj i p _ hp hy)) fun xs hy e=>e▸vm x fun p hp hu=>?_
  obtain⟨_,vs,hl,hn,hr⟩:=r.obj i p _ hp hy
  exact⟨_,vs,hu,hl,hn,hr⟩
inductive RepP (C:Cfg) (h:Heap) (B:Addr→Prop){κ:Type}:List (κ×Value)→List (κ×D)→Prop
 |nil:RepP C h B [] []
 |cons{k:κ}{v:Value}{x:D}{vs:List (κ×Value)}{xs:List (κ×D)}:RepD C h B v x→RepP C h B vs xs→RepP C h B ((k,v)::vs) ((k,x)::xs)
theorem RepP.mono{h':Heap}{B B':Addr→Prop}{κ:Type}(hk:∀b o,¬B b→h.get? b=some o→h'.get? b=some o) (hb:∀b o,h.get? b=some o→¬B b→¬B' b){vs:List (κ×Value)}{xs:List (κ×D)}(r:RepP C h B vs xs):RepP C h' B' vs xs:=by
 induction r with
 |nil=>exact .nil
 |cons a _ ih=>exact .cons (a.mono hk hb) ih
theorem RepP.ks{B:Addr→Prop}{vs:List (D×Value)}{xs:List (D×D)}(r:RepP C h B vs xs):RepKs C h B vs xs:=by
 induction r with
 |nil=>exact .nil
 |cons a _ ih=>exact .cons a ih
theorem RepP.fs{B:Addr→Prop}{vs:List (Str×Value)}{xs:List (Str×D)}(r:RepP C h B vs xs):RepFs C h B vs xs:=by
 induction r with
 |nil=>exact .nil
 |cons a _ ih=>exact .cons a ih
theorem l6 (r:SRel C X α σ h){i:Nat}{p:Addr×Addr}{x:D}(hi:α[i]?=some p) (ho:∃o,σ.objs[i]?=some o):¬Bad X (σ.put i (.frozen x)) α p.1∧¬Bad X (σ.put i (.frozen x)) α p.2:=by
 refine ex1 ho ?_;clear ho;intro o ho
 have hlt:=(List.getElem?_eq_some_iff.mp ho).1
 have key:∀a,(a=p.1∨a=p.2)→¬Bad X (σ.put i (.frozen x)) α a:=by
  rintro a ha (m|⟨j,q,oq,h1,h2,h3,e⟩)
  ·have:=r.notX i p hi
   rcases ha with rfl|rfl
   ·exact this.1 m
   ·exact this.2 m
  ·by_cases hj:j=i
   ·subst hj
    simp only[Sto.put]at h2
    rw[List.getElem?_set_self hlt]at h2
    cases h2
    cases h3
   ·have ap:=r.apart j i q p h1 hi hj
    rcases ha with rfl|rfl<;>rcases e with e|e
    ·exact ap.1 e.symm
    ·exact ap.2.2.1 e.symm
    ·exact ap.2.1 e.symm
    ·exact ap.2.2.2 e.symm
 exact⟨key _ (.inl rfl),key _ (.inr rfl)⟩
theorem a1z{i:Nat}(e:a30 σ i=true):∃o,σ.objs[i]?=some o∧o.live=true:=by
 unfold a30 at e
 split at e
 ·exact⟨_,‹_›,e⟩
 ·cases e
theorem yb{i:Nat}{p:Addr×Addr}{o:MO}{x:D}(hp:α[i]?=some p) (ho:σ.objs[i]?=some o) (hl:o.live=true):∀b ob,h.get? b=some ob→¬Bad X σ α b→¬Bad X (σ.put i (.frozen x)) α b:=
 fun b _ _ nb m=>nb (m.elim .inl fun m=>.inr (Mut.put_sub hp ho hl b m))
theorem a73:∀(n:Nat){σ σ':Sto}{u:Value}{v:V}{d:D}{s:Shared},SRel C X α σ s.heap→RepV C s.heap (Bad X σ α) α u v→oz n σ v=some (d,σ')→
  Step C X α σ s α σ' s∧RepD C s.heap (Bad X σ' α) u d:=by
 intro n
 induction n with
 |zero=>
  intro σ σ' u v d s r x e
  cases v with
  |d y=>cases e;exact ⟨Step.refl r,x.data⟩
  |m i=>exact no e
 |succ n ih=>
  intro σ σ' u v d s r x e
  cases v with
  |d y=>cases e;exact ⟨Step.refl r,x.data⟩
  |m i=>
   have many:∀{κ:Type}{kvs:List (κ×V)}{l:List (κ×Value)}{σ σ':Sto}{out:List (κ×D)},SRel C X α σ s.heap→RepKVs C s.heap (Bad X σ α) α l kvs→kn (oz n) kvs σ=some (out,σ')→
     Step C X α σ s α σ' s∧RepP C s.heap (Bad X σ' α) l out:=by
    intro κ kvs
    induction kvs with
    |nil=>
     intro l σ σ' out r x e
     cases e
     cases x
     exact ⟨Step.refl r,.nil⟩
    |cons kv rest ihl=>
     intro l σ σ' out r x e
     obtain ⟨k,v⟩:=kv
     refine ag e ?_;clear e;intro d1 σ1 e1 e
     refine nt e ?_;clear e;intro o2 σ2 e2 e
     (apply re2 e;clear e)
     cases x with
     |cons xv xr=>
      refine bk (ih r xv e1) ?_;intro S1 R1
      refine bk (ihl S1.srel (xr.mono (S1.kept r) (S1.bad r) S1.alpha) e2) ?_;intro S2 R2
      exact ⟨S1.trans S2,.cons (S2.repD S1.srel R1) R2⟩
   refine vm x fun p hp hu=>hu▸aff e (fun y hy e=>?_) (fun xs hy e=>?_) (fun kd kvs hy e=>?_) fun cn fs hy e=>?_
   ·apply du e
    exact ⟨Step.refl r,r.obj i p _ hp hy⟩
   ·apply du e
    obtain ⟨he,vs,hl,hn,hr⟩:=r.obj i p _ hp hy
    have nb:=l6 (x:=.list xs) r hp ⟨_,hy⟩
    have R:RepD C s.heap (Bad X (σ.put i (.frozen (.list xs))) α) (.ref p.1) (.list xs):=
     .list hl nb.1 hn (hr.mono (fun _ _ _ e=>e) fun b o _ nb m=>nb (m.elim .inl fun m=>.inr (Mut.put_sub hp hy rfl b m)))
    exact ⟨Step.put (s:=s) (h':=s.heap) r hp hy rfl (fun _ _ _ _ e=>e) (Nat.le_refl _) (o':=.frozen (.list xs)) R s.toks,R⟩
   ·refine ag e fun out σ1 e1 e=>ai e (fun hlive e=>?_) fun _ e=>no e
    apply du e
    refine ar (a1z hlive) fun o ho hl=>?_
    obtain ⟨he,l,hD,hr⟩:=r.obj i p _ hp hy
    refine bk (many r hr e1) fun S1 R1=>?_
    have sub:=yb (X:=X) (h:=s.heap) (x:=.dict kd out) hp ho hl
    have R:RepD C s.heap (Bad X (σ1.put i (.frozen (.dict kd out))) α) (.ref p.1) (.dict kd out):=
     .dict (hD.mono (fun _ e=>e) (fun _ _ _ e=>e) fun b ob e nb=>sub b ob e (S1.bad r b ob e nb)) (l6 S1.srel hp ⟨_,ho⟩).1 (R1.mono (fun _ _ _ e=>e) sub).ks
    exact ⟨S1.trans (Step.put (s:=s) (h':=s.heap) S1.srel hp ho hl (fun _ _ _ _ e=>e) (Nat.le_refl _) (o':=.frozen (.dict kd out)) R s.toks),R⟩
   ·refine ag e fun out σ1 e1 e=>ai e (fun hlive e=>?_) fun _ e=>no e
    apply du e
    refine ar (a1z hlive) fun o ho hl=>?_
    obtain ⟨c,es,k,l,h1,h2,h3,h4,hr⟩:=r.obj i p _ hp hy
    refine bk (many r hr e1) fun S1 R1=>?_
    have nb:=l6 (x:=.inst cn out) S1.srel hp ⟨_,ho⟩
    have R:RepD C s.heap (Bad X (σ1.put i (.frozen (.inst cn out))) α) (.ref p.1) (.inst cn out):=.inst h1 h2 nb.1 nb.2 h3 h4 (R1.mono (fun _ _ _ e=>e) (yb hp ho hl)).fs
    exact ⟨S1.trans (Step.put (s:=s) (h':=s.heap) S1.srel hp ho hl (fun _ _ _ _ e=>e) (Nat.le_refl _) (o':=.frozen (.inst cn out)) R s.toks),R⟩
theorem kj (r:SRel C X α σ s.heap) (x:RepV C s.heap (Bad X σ α) α u v) (e:toD σ v=some (d,σ')):Step C X α σ s α σ' s∧RepD C s.heap (Bad X σ' α) u d:=a73 8 r x e
theorem xy:∀{xs:List V}{us:List Value}{σ σ':Sto}{ds:List D},SRel C X α σ s.heap→RepVs C s.heap (Bad X σ α) α us xs→a00 xs σ=some (ds,σ')→Step C X α σ s α σ' s∧RepDs C s.heap (Bad X σ' α) us ds
 |[],us,σ,σ',ds,r,x,e=>by
  cases e
  cases x
  exact⟨Step.refl r,.nil⟩
 |v::rest,us,σ,σ',ds,r,x,e=>by
  refine ag e ?_;clear e;intro d1 σ1 e1 e
  refine nt e ?_;clear e;intro o2 σ2 e2 e
  (apply re2 e;clear e)
  cases x with
  |cons xv xr=>
   refine bk (kj r xv e1) ?_;intro S1 R1
   refine bk (xy S1.srel (xr.mono (S1.kept r) (S1.bad r) S1.alpha) e2) ?_;intro S2 R2
   exact⟨S1.trans S2,.cons (S2.repD S1.srel R1) R2⟩
end
end
section
open PySem PySem.W PySem.Calls PyProof.Rows PySem.Spec
mutual
noncomputable def ke:D→PyData
 |.none=>.none
 |.bool b=>.bool b
 |.int i=>.int i
 |.str x=>.str x
 |.tuple ds=>.tuple (ix ds)
 |.list ds=>.list (ix ds)
 |.dict _ _=>.none
 |.inst _ _=>.none
noncomputable def ix:List D→List PyData
 |[]=>[]
 |d::ds=>ke d::ix ds
end
theorem zy{C:Cfg}{h:Heap}{B:Addr→Prop}{n:Nat}(ih:∀{v:Value}{d:D},RepD C h B v d→D.plainAt n d=true→∃as,Reads h v (ke d) as){vs:List Value}{ds:List D}(r:RepDs C h B vs ds):(∀d∈ds,D.plainAt n d=true)→∃as,ReadsAll h vs (ix ds) as:=by
 induction ds generalizing vs with
 |nil=>exact fun _=>a89 r fun e=>⟨[],e▸.nil⟩
 |cons d ds hi=>exact fun e=>aa1 r fun u us hu a r=>ex1 (ih a (e _ (.head _))) fun as q=>ex1 (hi r fun d hm=>e d (.tail _ hm)) fun bs p=>⟨as++bs,hu▸.cons q p⟩
theorem e9{C:Cfg}{h:Heap}{B:Addr→Prop}{v:Value}{d:D}(n:Nat) (r:RepD C h B v d) (e:D.plainAt n d=true):∃as,Reads h v (ke d) as:=by
 induction n generalizing v d with
 |zero=>cases d with
  |none=>exact a92 r fun e=>by subst e;exact⟨_,.none⟩
  |int i=>exact gd r fun t e=>by subst e;exact⟨_,.int i t⟩
  |str x=>exact ahk r fun t e=>by subst e;exact⟨_,.str x t⟩
  |_=>exact absurd e Bool.false_ne_true
 |succ n ih=>cases d with
  |none=>exact a92 r fun e=>by subst e;exact⟨_,.none⟩
  |int i=>exact gd r fun t e=>by subst e;exact⟨_,.int i t⟩
  |str x=>exact ahk r fun t e=>by subst e;exact⟨_,.str x t⟩
  |tuple ds=>exact adk r fun a vs hv hl _ _ rs=>ex1 (zy ih rs (List.all_eq_true.mp e)) fun as q=>by subst hv;obtain⟨o,ho,hc,k,hd⟩:=hl;exact⟨_,reads_tuple_at ho hc hd q⟩
  |list ds=>exact vv r fun a vs hv hl _ _ rs=>ex1 (zy ih rs (List.all_eq_true.mp e)) fun as q=>ex1 hl fun k ho=>by subst hv;exact⟨_,reads_list_at ho rfl rfl q⟩
  |_=>exact absurd e Bool.false_ne_true
theorem pg:∀(n:Nat)(d:D),D.plainAt n d=true→(ke d).canLay0=true∧(ke d).depth≤n:=by
 have all:∀(n:Nat),(∀d,D.plainAt n d=true→(ke d).canLay0=true∧(ke d).depth≤n)→∀ds:List D,(∀d∈ds,D.plainAt n d=true)→PyData.canLayAll0 (ix ds)=true∧PyData.depthAll (ix ds)≤n:=by
  intro n ih ds
  induction ds with
  |nil=>intro _;exact⟨rfl,Nat.zero_le _⟩
  |cons d ds hi=>
   intro h
   have h1:=ih d (h d (.head _))
   have h2:=hi fun e he=>h e (.tail _ he)
   exact⟨by show(_&&_)=true;rw[h1.1,h2.1];rfl,Nat.max_le.mpr ⟨h1.2,h2.2⟩⟩
 intro n
 induction n with
 |zero=>
  intro d h
  cases d<;>first|exact absurd h Bool.false_ne_true|exact⟨rfl,Nat.le_refl _⟩|exact⟨h,Nat.le_refl _⟩
 |succ n ih=>
  intro d h
  cases d with
  |none=>exact⟨rfl,Nat.zero_le _⟩
  |bool b=>exact absurd h Bool.false_ne_true
  |int i=>exact⟨rfl,Nat.zero_le _⟩
  |str x=>exact⟨h,Nat.zero_le _⟩
  |tuple ds=>
   have q:=all n ih ds (List.all_eq_true.mp h)
   exact⟨q.1,Nat.succ_le_succ q.2⟩
  |list ds=>
   have q:=all n ih ds (List.all_eq_true.mp h)
   exact⟨q.1,Nat.succ_le_succ q.2⟩
  |dict _ _=>exact absurd h Bool.false_ne_true
  |inst _ _=>exact absurd h Bool.false_ne_true
mutual
theorem xc:∀(n k:Nat) (a b:D),D.plainAt n a=true→D.plainAt k b=true→PyData.eqv (ke a) (ke b)=D.beq a b
 |n,k,.none,b,_,hb=>by cases b<;>first|rfl|(cases k<;>exact absurd hb Bool.false_ne_true)
 |n,k,.bool _,b,ha,_=>by cases n<;>exact absurd ha Bool.false_ne_true
 |n,k,.int i,b,_,hb=>by cases b<;>first|rfl|(cases k<;>exact absurd hb Bool.false_ne_true)
 |n,k,.str x,b,_,hb=>by cases b<;>first|rfl|(cases k<;>exact absurd hb Bool.false_ne_true)
 |0,k,.tuple ds,b,ha,hb=>absurd ha Bool.false_ne_true
 |0,k,.list ds,b,ha,hb=>absurd ha Bool.false_ne_true
 |n+1,k,.tuple ds,b,ha,hb=>by
  cases b with
  |tuple es=>
   cases k with
   |zero=>exact absurd hb Bool.false_ne_true
   |succ k=>exact y3 n k ds es (List.all_eq_true.mp ha) (List.all_eq_true.mp hb)
  |_=>first|rfl|(cases k<;>exact absurd hb Bool.false_ne_true)
 |n+1,k,.list ds,b,ha,hb=>by
  cases b with
  |list es=>
   cases k with
   |zero=>exact absurd hb Bool.false_ne_true
   |succ k=>exact y3 n k ds es (List.all_eq_true.mp ha) (List.all_eq_true.mp hb)
  |_=>first|rfl|(cases k<;>exact absurd hb Bool.false_ne_true)
 |n,k,.dict _ _,b,ha,_=>by cases n<;>exact absurd ha Bool.false_ne_true
 |n,k,.inst _ _,b,ha,_=>by cases n<;>exact absurd ha Bool.false_ne_true
theorem y3:∀(n k:Nat) (as bs:List D),(∀d∈as,D.plainAt n d=true)→(∀d∈bs,D.plainAt k d=true)→PyData.eqvAll (ix as) (ix bs)=D.beqs as bs
 |n,k,[],[],_,_=>rfl
 |n,k,[],b::bs,_,_=>rfl
 |n,k,a::as,[],_,_=>rfl
 |n,k,a::as,b::bs,ha,hb=>by
  show(_&&_)=(_&&_)
  rw[xc n k a b (ha _ (.head _)) (hb _ (.head _)),y3 n k as bs (fun d h=>ha d (.tail _ h)) fun d h=>hb d (.tail _ h)]
end
theorem a2j (n k:Nat) (x:D) (hx:D.plainAt k x=true):∀(ds:List D),(∀d∈ds,D.plainAt n d=true)→((ix ds).any fun y=>PyData.eqv y (ke x))=memD x ds
 |[],_=>rfl
 |d::ds,h=>by
  show(PyData.eqv (ke d) (ke x)||(ix ds).any fun y=>PyData.eqv y (ke x))=(D.beq d x||memD x ds)
  rw[xc n k d x (h _ (.head _)) hx,a2j n k x hx ds fun e he=>h e (.tail _ he)]
section
variable{C:Cfg}{X:Addr→Prop}{α:a7}{σ:Sto}{s:Shared}{u v:Value}{a b d:D}{A:Around}{E:Value→Shared→Prop}{B:Addr→Prop}
theorem pp{d:D}(h:d.plain=true):SeqAt.shaped (ke d)=true:=by
 have q:=pg 6 d h
 unfold SeqAt.shaped
 rw[q.1,Bool.true_and]
 exact decide_eq_true (Nat.le_trans q.2 (by decide))
theorem ahh{Q:Value→Shared→Prop}(hu:A.units+64<cLine) (ru:RepD C s.heap noB u a) (rv:RepD C s.heap noB v b) (ha:a.plain=true) (hb:b.plain=true) (h:Q (.bool (D.beq a b)) s):
  wpAny (model C.prog C.w) A (compareOp .Eq u v) Q E s:=by
 refine ex1 (e9 6 ru ha) ?_;intro as r1
 refine ex1 (e9 6 rv hb) ?_;intro bs r2
 exact eq_dataH r1 r2 (pp ha) (pp hb) hu (by rw[xc 6 6 a b ha hb];exact h)
theorem ah9{Q:Value→Shared→Prop}(hu:A.units+64<cLine) (ru:RepD C s.heap noB u a) (rv:RepD C s.heap noB v b) (ha:a.plain=true) (hb:b.plain=true) (h:Q (.bool (!D.beq a b)) s):
  wpAny (model C.prog C.w) A (compareOp .NotEq u v) Q E s:=by
 refine ex1 (e9 6 ru ha) ?_;intro as r1
 refine ex1 (e9 6 rv hb) ?_;intro bs r2
 exact ne_dataH r1 r2 (pp ha) (pp hb) hu (by rw[xc 6 6 a b ha hb];exact h)
theorem g9{ds:List D}(h:D.plains ds=true):∀d∈ds,D.plainAt 5 d=true:=List.all_eq_true.mp h
theorem tc{ds:List D}(h:D.plains ds=true):PyData.canLayAll0 (ix ds)=true∧PyData.depthAll (ix ds)≤6:=by
 have q:=pg 6 (.list ds) (List.all_eq_true.mpr (g9 h))
 simp only[ke,PyData.canLay0,PyData.depth]at q
 exact⟨q.1,by exact ap1 q⟩
theorem ah1{Q:Value→Shared→Prop}{ds:List D}(hu:A.units+64<cLine) (ru:RepD C s.heap noB u a) (rv:RepD C s.heap noB v b) (hb:b=.tuple ds∨b=.list ds) (ha:a.plain=true) (hp:D.plains ds=true)
  (h:Q (.bool (memD a ds)) s):wpAny (model C.prog C.w) A (compareOp .In u v) Q E s:=by
 obtain⟨as,r1⟩:=e9 6 ru ha
 have q:=tc hp
 have qa:=pg 6 a ha
 have hm:=a2j 5 6 a ha ds (g9 hp)
 have hd:A.units+1+min (PyData.depthAll (ix ds)) (ke a).depth<cLine:=by
  have:=Nat.min_le_left (PyData.depthAll (ix ds)) (ke a).depth
  exact ao6 hu q
 rcases hb with rfl|rfl
 ·obtain⟨bs,r2⟩:=e9 6 rv (List.all_eq_true.mpr (g9 hp))
  rw[ke]at r2
  exact SeqAt.in_tuple_reads r2 r1 q.1 qa.1 hd (by rw[hm];exact h)
 ·obtain⟨bs,r2⟩:=e9 6 rv (List.all_eq_true.mpr (g9 hp))
  rw[ke]at r2
  exact SeqAt.in_list_reads r2 r1 q.1 qa.1 hd (by rw[hm];exact h)
theorem aar{Q:Value→Shared→Prop}{ds:List D}(hu:A.units+64<cLine) (ru:RepD C s.heap noB u a) (rv:RepD C s.heap noB v b) (hb:b=.tuple ds∨b=.list ds) (ha:a.plain=true) (hp:D.plains ds=true)
  (h:Q (.bool (!memD a ds)) s):wpAny (model C.prog C.w) A (compareOp .NotIn u v) Q E s:=by
 obtain⟨as,r1⟩:=e9 6 ru ha
 have q:=tc hp
 have qa:=pg 6 a ha
 have hm:=a2j 5 6 a ha ds (g9 hp)
 have hd:A.units+1+min (PyData.depthAll (ix ds)) (ke a).depth<cLine:=by
  have:=Nat.min_le_left (PyData.depthAll (ix ds)) (ke a).depth
  exact ao6 hu q
 rcases hb with rfl|rfl
 ·obtain⟨bs,r2⟩:=e9 6 rv (List.all_eq_true.mpr (g9 hp))
  rw[ke]at r2
  exact SeqAt.notIn_tuple_reads r2 r1 q.1 qa.1 hd (by rw[hm];exact h)
 ·obtain⟨bs,r2⟩:=e9 6 rv (List.all_eq_true.mpr (g9 hp))
  rw[ke]at r2
  exact SeqAt.notIn_list_reads r2 r1 q.1 qa.1 hd (by rw[hm];exact h)
end
structure Enc (K:Type)[DecidableEq K]where
 f:K→D
 beq:∀a b,D.beq (f a) (f b)=decide (a=b)
noncomputable def ap7:Enc Str:=⟨.str,fun a b=>show(a==b)=decide (a=b)by rw[Bool.eq_iff_iff,beq_iff_eq,decide_eq_true_iff]⟩
noncomputable def aps:Enc Int:=⟨.int,fun a b=>show(a==b)=decide (a=b)by rw[Bool.eq_iff_iff,beq_iff_eq,decide_eq_true_iff]⟩
theorem a1l:∀a b:List Int,D.beqs (a.map .int) (b.map .int)=decide (a=b)
 |[],[]=>by rfl
 |[],_::_=>by rfl
 |_::_,[]=>by rfl
 |x::a,y::b=>by
  show((x==y)&&D.beqs (a.map .int) (b.map .int))=_
  rw[a1l a b,Bool.eq_iff_iff,Bool.and_eq_true,beq_iff_eq,decide_eq_true_iff,decide_eq_true_iff,List.cons_eq_cons]
noncomputable def aey:Enc (List Int):=⟨fun ks=>.tuple (ks.map .int),fun a b=>a1l a b⟩
section
variable{K:Type}[DecidableEq K](e:Enc K)
theorem ga{β γ:Type}(g:K×β→γ) (k:K):∀l:List (K×β),a6 (e.f k) (l.map fun p=>(e.f p.1,g p))=(l.find? fun p=>decide (p.1=k)).map g
 |[]=>rfl
 |p::r=>by
  show(if D.beq (e.f p.1) (e.f k)then some (g p)else a6 (e.f k) (r.map fun p=>(e.f p.1,g p)))=_
  rw[e.beq,List.find?_cons]
  by_cases h:p.1=k
  ·rw[decide_eq_true h];rfl
  ·rw[decide_eq_false h];exact ga g k r
theorem rq{β γ:Type}(g:K×β→γ) (k:K) (v:γ):∀l:List (K×β),(l.find? fun p=>decide (p.1=k))=none→setKey (e.f k) v (l.map fun p=>(e.f p.1,g p))=(l.map fun p=>(e.f p.1,g p))++[(e.f k,v)]
 |[],_=>rfl
 |p::r,h=>by
  simp only[List.find?_cons]at h
  by_cases hk:p.1=k
  ·simp[hk]at h
  ·simp only[decide_eq_false hk]at h
   show(if D.beq (e.f p.1) (e.f k)then(e.f p.1,v)::_ else(e.f p.1,g p)::setKey (e.f k) v (r.map fun p=>(e.f p.1,g p)))=_
   rw[e.beq,decide_eq_false hk,rq g k v r h];rfl
theorem rn{β γ:Type}(g:K×β→γ) (put:K×β→K×β) (k:K) (v:γ) (h1:∀p,p.1≠k→put p=p) (h2:∀p,p.1=k→(put p).1=k∧g (put p)=v):∀l:List (K×β),(l.map (·.1)).Nodup→(l.find? fun p=>decide (p.1=k)).isSome=true→
  setKey (e.f k) v (l.map fun p=>(e.f p.1,g p))=(l.map put).map fun p=>(e.f p.1,g p)
 |[],_,h=>by cases h
 |p::r,hn,h=>by
  rw[List.map_cons,List.nodup_cons]at hn
  by_cases hk:p.1=k
  ·have q:=h2 p hk
   have rest:r.map put=r:=by
    have:∀x∈r,put x=x:=fun x hx=>h1 x fun q=>hn.1 (hk▸q▸List.mem_map_of_mem hx)
    rw[List.map_congr_left this,List.map_id']
   show(if D.beq (e.f p.1) (e.f k)then(e.f p.1,v)::r.map (fun p=>(e.f p.1,g p))else _)=(e.f (put p).1,g (put p))::(r.map put).map fun p=>(e.f p.1,g p)
   rw[e.beq,decide_eq_true hk,rest,q.1,q.2,hk];rfl
  ·simp only[List.find?_cons,decide_eq_false hk]at h
   show(if D.beq (e.f p.1) (e.f k)then _ else(e.f p.1,g p)::setKey (e.f k) v (r.map fun p=>(e.f p.1,g p)))=(e.f (put p).1,g (put p))::(r.map put).map fun p=>(e.f p.1,g p)
   rw[e.beq,decide_eq_false hk,h1 p hk,rn g put k v h1 h2 r hn.2 h];rfl
end
theorem xu:∀{ds:List D},D.allInts ds=true→∃ks:List Int,ds=ks.map .int
 |[],_=>⟨[],rfl⟩
 |d::r,h=>by
  cases d with
  |int i=>exact ex1 (xu (ds:=r) h) fun ks e=>⟨i::ks,by rw[e];rfl⟩
  |_=>exact absurd h Bool.false_ne_true
theorem a7y{d:D}(h:d.kind≠.any):(∃x,d=.str x∧d.kind=.str)∨(∃i,d=.int i∧d.kind=.int)∨∃ks:List Int,d=.tuple (ks.map .int)∧d.kind=.tup:=by
 cases d with
 |str x=>exact .inl ⟨x,rfl,rfl⟩
 |int i=>exact .inr (.inl ⟨i,rfl,rfl⟩)
 |tuple ds=>
  have q:D.allInts ds=true:=by
   cases e:D.allInts ds with
   |true=>rfl
   |false=>exact absurd (show (if D.allInts ds then Kd.tup else .any)=.any by rw[e];rfl) h
  exact ex1 (xu q) fun ks e=>.inr (.inr ⟨ks,by rw[e],show (if D.allInts ds then Kd.tup else .any)=.tup by rw[q];rfl⟩)
 |_=>exact absurd rfl h
section
variable{C:Cfg}{h:Heap}{B:Addr→Prop}{u:Value}
theorem a6h{vs:List Value}{ks:List Int}(r:RepDs C h B vs (ks.map .int)):ItemsAre (intKind C.prog C.w) ks vs:=by
 induction ks generalizing vs with
 |nil=>exact a89 r fun e=>e▸.nil
 |cons k ks ih=>exact aa1 r fun u us e a r=>gd a fun t ht=>e▸ht▸.cons (beq_self_eq_true k) (ih r)
theorem zw{K:Type}[DecidableEq K]{prog:Program}{w:World}{knd:KeyKind prog w K}{a:Addr}{l:List (K×Value)}(hd:h.DictOf knd a l):(l.map (·.1)).Nodup:=let⟨_,_,_,_,_,_,_,_,hn⟩:=hd;hn
theorem a5f{ks:List Int}(r:RepD C h B u (.tuple (ks.map .int))):∃a,u=.ref a∧(¬B a∧ks.length≤1000001)∧(tupleKind (intKind C.prog C.w)).is h ks a:=by
 cases r with
 |tuple x nb hl rs=>
  obtain⟨o,ho,hc,n,hd⟩:=x
  have ln:∀{vs:List Value}{ds:List D},RepDs C h B vs ds→vs.length=ds.length:=fun{vs ds}r=>by
   induction ds generalizing vs with
   |nil=>cases r;rfl
   |cons d ds ih=>cases r with|cons _ r=>simp[ih r]
  exact⟨_,rfl,⟨nb,by have:=ln rs;rw[List.length_map]at this;exact aq4 hl this⟩,o,_,n,ho,hc,hd,a6h rs⟩
end
theorem bb.as{C:Cfg}{h:Heap}{B:Addr→Prop}{a:Addr}{kd:Kd}{kvs:List (D×Value)}(x:bb C h B a kd kvs){k:Kd}(e:kd=.any∨kd=k):bb C h B a k kvs:=by
 rcases e with rfl|rfl
 ·obtain⟨h1,h2,rfl,n,ho⟩:=x
  refine⟨h1,h2,?_⟩
  cases k with
  |any=>exact⟨rfl,n,ho⟩
  |str=>exact⟨[],rfl,_,#[],n,ho,⟨rfl,rfl,rfl⟩,rfl,(fun _ he=>by simp at he),.nil,List.nodup_nil⟩
  |int=>exact⟨[],rfl,_,#[],n,ho,⟨rfl,rfl,rfl⟩,rfl,(fun _ he=>by simp at he),.nil,List.nodup_nil⟩
  |tup=>exact⟨[],rfl,⟨_,#[],n,ho,⟨rfl,rfl,rfl⟩,rfl,rfl,(fun _ hx=>by simp at hx),List.nodup_nil⟩,fun _ hp=>by simp at hp⟩
 ·exact x
theorem j4{kd:Kd}{k:D}(e:kd.asks k=true):k.kind≠.any∧(kd=.any∨kd=k.kind):=by
 unfold Kd.asks at e
 simp only[Bool.and_eq_true,bne_iff_ne,ne_eq,Bool.or_eq_true,beq_iff_eq]at e
 exact e
section
variable{C:Cfg}{s:Shared}{u:Value}{A:Around}{E:Value→Shared→Prop}{B B':Addr→Prop}{a:Addr}{kd:Kd}{kvs:List (D×Value)}{k:D}
theorem a0y{h:Heap}{P:Prop}(x:bb C h B a kd kvs) (r:RepD C h B' u k) (hk:k.kind≠.any) (he:kd=.any∨kd=k.kind)
  (plain:∀(K:Type)[DecidableEq K](knd:PySem.KeyKind C.prog C.w K) (en:Enc K) (z:K) (l:List (K×Value)),knd.is z u=true→(a==sysModules)=false→k=en.f z→kvs=l.map (fun p=>(en.f p.1,p.2))→h.DictOf knd a l→
   (∀(h':Heap) (l':List (K×Value)),h'.DictOf knd a l'→(l'.map fun p=>(en.f p.1,p.2)).length≤1000001→bb C h' B a k.kind (l'.map fun p=>(en.f p.1,p.2)))→(k.kind==.tup)=false→P)
  (tup:∀(z:List Int) (ka:Addr) (l:List (List Int×Addr×Value)),k=.tuple (z.map .int)→u=.ref ka→(¬B' ka∧z.length≤1000001)→(tupleKind (intKind C.prog C.w)).is h z ka→(a==sysModules)=false→kvs=l.map (fun p=>(D.tuple (p.1.map .int),p.2.2))→
   h.DictOfH (tupleKind (intKind C.prog C.w)) a l→(∀p∈l,¬B p.2.1∧p.1.length≤1000001)→k.kind=.tup→P):P:=by
 have y:=x.as he
 clear x he
 cases k with
 |str z=>exact ahk r fun t hu=>let⟨h1,_,l,hl,hd⟩:=y;plain Str (PySem.strKind C.prog C.w) ap7 z l (by subst hu;exact beq_self_eq_true z) h1 rfl hl hd (fun h' l' hd' hn=>⟨h1,hn,l',rfl,hd'⟩) rfl
 |int z=>exact gd r fun t hu=>let⟨h1,_,l,hl,hd⟩:=y;plain Int (intKind C.prog C.w) aps z l (by subst hu;exact beq_self_eq_true z) h1 rfl hl hd (fun h' l' hd' hn=>⟨h1,hn,l',rfl,hd'⟩) rfl
 |tuple ds=>
  rcases a7y hk with⟨z,q,_⟩|⟨z,q,_⟩|⟨z,q,e⟩
  ·cases q
  ·cases q
  ·rw[e]at y
   obtain⟨h1,_,l,hl,hd,hB⟩:=y
   rw[q]at r
   exact dz (a5f r) fun ka hu nka hka=>tup z ka l q hu nka hka h1 hl hd hB e
 |_=>exact absurd rfl hk
theorem yw{K:Type}[DecidableEq K](en:Enc K){l:List (K×Value)}{z:K}{v:Value}(hn:(l.map (·.1)).Nodup):setKey (en.f z) v (l.map fun p=>(en.f p.1,p.2))=(stored l z v).map fun p=>(en.f p.1,p.2):=by
 unfold stored
 by_cases q:(l.any fun kv=>decide (kv.1=z))=true
 ·rw[if_pos q]
  refine rn en (fun p:K×Value=>p.2) (fun kv=>if kv.1=z then(kv.1,v) else kv) z v (fun p hp=>if_neg hp) (fun p hp=>by rw[if_pos hp];exact⟨hp,rfl⟩) l hn ?_
  rw[List.find?_isSome]
  exact ar (List.any_eq_true.mp q) fun p hp q=>⟨p,hp,q⟩
 ·rw[if_neg q,List.map_append]
  exact rq en (fun p:K×Value=>p.2) z v l (List.find?_eq_none.mpr fun p hp hq=>q (List.any_eq_true.mpr ⟨p,hp,hq⟩))
theorem gz{β:Type}{k:D}{v:β}:∀l:List (D×β),(setKey k v l).length≤l.length+1
 |[]=>Nat.le_refl _
 |p::r=>by
  have:=gz (k:=k) (v:=v) r
  show(if D.beq p.1 k then(p.1,v)::r else p::setKey k v r).length≤_
  cases D.beq p.1 k with
  |true=>exact Nat.le_succ _
  |false=>exact Nat.succ_le_succ this
theorem nw {Q:Value→Shared→Prop}(hu:A.units+1<cLine) (x:bb C s.heap B a kd kvs) (r:RepD C s.heap B' u k) (ha:kd.asks k=true) (h:∀t,Q (.bool (a6 k kvs).isSome) {s with toks:=t}):
  wpAny (model C.prog C.w) A (compareOp .In u (.ref a)) Q E s:=by
 refine a0y x r (j4 ha).1 (j4 ha).2 (fun K _ knd en z l hz h1 hk hl hd _ _=>?_) fun z ka l hk hu' _ hka h1 hl hd _ _=>?_<;>clear x r ha<;>subst hk<;>subst hl
 ·rw[ga en (fun p:K×Value=>p.2) z l]at h
  exact wpAny_in_of hz h1 hd.mapOf (h _)
 ·subst hu'
  have f:a6 (.tuple (z.map .int)) (l.map fun p=>(D.tuple (p.1.map .int),p.2.2))=_:=ga aey (fun p:List Int×Addr×Value=>p.2.2) z l
  rw[f]at h
  refine wpAny_in_heap (knd:=tupleKind (intKind C.prog C.w)) (tupleKind_room_in1 hu) hka h1 hd ?_
  have e2:(atKey l z).isSome=((l.find? fun p=>decide (p.1=z)).map fun p=>p.2.2).isSome:=by unfold atKey;rw[Option.isSome_map,Option.isSome_map]
  rw[e2]
  exact h _
theorem oa {Q:Value→Shared→Prop}(hu:A.units+1<cLine) (x:bb C s.heap B a kd kvs) (r:RepD C s.heap B' u k) (ha:kd.asks k=true) (h:∀t,Q (.bool (a6 k kvs).isNone) {s with toks:=t}):
  wpAny (model C.prog C.w) A (compareOp .NotIn u (.ref a)) Q E s:=by
 have e:wpAny (model C.prog C.w) A (compareOp .In u (.ref a)) (fun v s'=>Q (.bool (a6 k kvs).isNone) s'∧v=.bool (a6 k kvs).isSome) E s:=nw hu x r ha fun t=>⟨h t,rfl⟩
 have f:wpAny (model C.prog C.w) A (contains (.ref a) u >>=fun b=>pure (Value.bool b)) (fun v s'=>Q (.bool (a6 k kvs).isNone) s'∧v=.bool (a6 k kvs).isSome) E s:=e
 refine(?_:wpAny (model C.prog C.w) A (contains (.ref a) u >>=fun b=>pure (Value.bool !b)) Q E s)
 refine wpAny_bind ?_
 intro Γ p hΓ
 have g:=f Γ p hΓ
 rw[Sem.wp_bind']at g
 refine Sem.wp_mono _ Γ _ (fun b p' s' q=>?_) (fun _ _ _ q=>q) p s g
 intro Γ' p'' _
 obtain⟨q1,q2⟩:=(q:Q _ s'∧Value.bool b=_)
 cases q2
 refine(?_:Q _ s')
 rw[Option.not_isSome]
 exact q1
theorem t9 {Q:Value→Shared→Prop}{v:Value}(hu:A.units+1<cLine) (x:bb C s.heap B a kd kvs) (r:RepD C s.heap B' u k) (ha:kd.asks k=true) (hf:a6 k kvs=some v) (h:∀t,Q v {s with toks:=t}):
  wpAny (model C.prog C.w) A (getItem (.ref a) u) Q E s:=by
 refine a0y x r (j4 ha).1 (j4 ha).2 (fun K _ knd en z l hz h1 hk hl hd _ _=>?_) fun z ka l hk hu' _ hka h1 hl hd _ _=>?_<;>clear x r ha<;>subst hk<;>subst hl
 ·rw[ga en (fun p:K×Value=>p.2) z l]at hf
  exact wpAny_getItem_of hz hd.mapOf hf (h _)
 ·subst hu'
  have f:a6 (.tuple (z.map .int)) (l.map fun p=>(D.tuple (p.1.map .int),p.2.2))=_:=ga aey (fun p:List Int×Addr×Value=>p.2.2) z l
  rw[f]at hf
  refine de hf fun p hp e2=>?_
  subst e2
  exact wpAny_getItem_heap (knd:=tupleKind (intKind C.prog C.w)) (p:=p.2) (tupleKind_room_in1 hu) hka hd (by unfold atKey;rw[hp];rfl) (h _)
theorem a5j{kd kd':Kd}{k:D}(e:kd.takes k=some kd'):k.kind≠.any∧kd'=k.kind∧(kd=.any∨kd=k.kind):=by
 unfold Kd.takes at e
 split at e
 ·cases e
 ·rename_i q
  have q':k.kind≠.any:=by simpa using q
  refine⟨q',?_⟩
  cases kd<;>simp only at e
  ·(apply j8 e;clear e);exact⟨rfl,.inl rfl⟩
  all_goals(split at e;(rename_i q2;have:=eq_of_beq q2;(apply j8 e;clear e);exact⟨this,.inr this⟩);(cases e))
theorem a2d {Q:Unit→Shared→Prop}{v:Value}{kd':Kd}(hu:A.units+1<cLine) (x:bb C s.heap B a kd kvs) (r:RepD C s.heap B u k) (hB:B a) (hr:kvs.length≤1000000) (ha:kd.takes k=some kd')
  (h:∀h' t,Heap.SameBut a s.heap h'→bb C h' B a kd' (setKey k v kvs)→Q () {s with heap:=h',toks:=t}):
  wpAny (model C.prog C.w) A (setItem (.ref a) u v) Q E s:=by
 refine f5 (a5j ha) ?_;intro hk rf1 he;subst rf1
 have hz:kvs.length≤sizeLine:=Nat.le_trans hr (by decide)
 have hlen:(setKey k v kvs).length≤1000001:=Nat.le_trans (gz kvs) (Nat.succ_le_succ hr)
 refine a0y x r hk he (fun K _ knd en z l hq h1 hk' hl hd back _=>?_) fun z ka l hk' hu' nka hka h1 hl hd hBl ht=>?_<;>clear x r ha he hr
 ·subst hk';subst hl
  rw[List.length_map]at hz
  have e:=yw en (v:=v) (z:=z) (zw hd)
  refine wpAny_setItem_pairs hq hd (fun h' hd' hs=>h h' _ hs ?_) hz
  rw[e]at hlen ⊢
  exact back h' _ hd' hlen
 ·rw[ht]at h
  clear ht
  subst hk';subst hl;subst hu'
  rw[List.length_map]at hz
  refine wpAny_setItem_heap (knd:=tupleKind (intKind C.prog C.w)) (k:=z) (tupleKind_room_in1 hu) hka hd (fun h' hd' hs=>h h' _ hs ⟨h1,hlen,storedH l z ka v,?_,hd',?_⟩) hz
  ·obtain⟨_,_,_,_,_,_,_,_,hn⟩:=hd
   unfold storedH
   split
   ·rename_i q
    refine(rn aey (fun p:List Int×Addr×Value=>p.2.2) (putAt z v) z v (fun p hp=>by rw[putAt,if_neg hp]) (fun p hp=>by rw[putAt,if_pos hp];exact⟨hp,rfl⟩) l hn ?_)
    unfold atKey at q
    rw[Option.isSome_map]at q
    exact q
   ·rename_i q
    rw[List.map_append]
    refine rq aey (fun p:List Int×Addr×Value=>p.2.2) z v l ?_
    unfold atKey at q
    rw[Option.isSome_map]at q
    cases hq:l.find? fun p=>decide (p.1=z) with
    |none=>rfl
    |some p=>rw[hq]at q;exact absurd rfl q
  ·intro p hp
   unfold storedH at hp
   split at hp
   ·refine ar (List.mem_map.mp hp) ?_;intro p' hp' rf2;subst rf2
    rw[putAt]
    split
    ·exact hBl p' hp'
    ·exact hBl p' hp'
   ·rcases List.mem_append.mp hp with hp|hp
    ·exact hBl p hp
    ·rw[List.mem_singleton.mp hp];exact nka
end
section
variable{C:Cfg}{h:Heap}{B:Addr→Prop}
theorem RepDs.length{vs:List Value}{ds:List D}(r:RepDs C h B vs ds):vs.length=ds.length:=by
 induction ds generalizing vs with
 |nil=>cases r;rfl
 |cons d ds ih=>cases r with|cons _ r=>simp[ih r]
theorem RepDs.append{vs ws:List Value}{ds es:List D}(r:RepDs C h B vs ds) (q:RepDs C h B ws es):RepDs C h B (vs++ws) (ds++es):=by
 induction ds generalizing vs with
 |nil=>cases r;exact q
 |cons d ds ih=>cases r with|cons a r=>exact .cons a (ih r)
theorem RepDs.drop:∀{vs:List Value}{ds:List D}(k:Nat),RepDs C h B vs ds→RepDs C h B (vs.drop k) (ds.drop k)
 |_,_,0,r=>r
 |_,_,_+1,.nil=>.nil
 |_,_,k+1,.cons _ r=>RepDs.drop k r
theorem RepDs.take:∀{vs:List Value}{ds:List D}(k:Nat),RepDs C h B vs ds→RepDs C h B (vs.take k) (ds.take k)
 |_,_,0,r=>.nil
 |_,_,_+1,.nil=>.nil
 |_,_,k+1,.cons a r=>.cons a (RepDs.take k r)
theorem RepDs.get{vs:List Value}{ds:List D}(r:RepDs C h B vs ds){k:Nat}{d:D}(e:ds[k]?=some d):∃v,vs[k]?=some v∧RepD C h B v d:=by
 induction ds generalizing vs k with
 |nil=>cases e
 |cons d' ds ih=>
  cases r with
  |cons a r=>
   cases k with
   |zero=>simp at e;subst e;exact⟨_,rfl,a⟩
   |succ k=>exact ih r (by simpa using e)
theorem RepDs.reverse{vs:List Value}{ds:List D}(r:RepDs C h B vs ds):RepDs C h B vs.reverse ds.reverse:=by
 induction ds generalizing vs with
 |nil=>cases r;exact .nil
 |cons d ds ih=>cases r with|cons a r=>rw[List.reverse_cons,List.reverse_cons];exact (ih r).append (.cons a .nil)
theorem RepDs.set{vs:List Value}{ds:List D}{v:Value}{d:D}(a:RepD C h B v d) (r:RepDs C h B vs ds) (k:Nat):RepDs C h B (vs.set k v) (ds.set k d):=by
 induction ds generalizing vs k with
 |nil=>cases r;exact .nil
 |cons d' ds ih=>
  cases r with
  |cons a' r=>
   cases k with
   |zero=>exact .cons a r
   |succ k=>exact .cons a' (ih r k)
theorem RepDs.dropLast{vs:List Value}{ds:List D}(r:RepDs C h B vs ds):RepDs C h B vs.dropLast ds.dropLast:=by
 rw[List.dropLast_eq_take,List.dropLast_eq_take,r.length]
 exact r.take _
theorem RepDs.replicate{v:Value}{d:D}(a:RepD C h B v d):∀n:Nat,RepDs C h B (List.replicate n v) (List.replicate n d)
 |0=>.nil
 |n+1=>.cons a (RepDs.replicate a n)
theorem RepDs.and{vs:List Value}{ds:List D}{b:Addr}(r:RepDs C h B vs ds) (hb:∀o,h.get? b=some o→False):RepDs C h (fun a=>B a∨a=b) vs ds:=
 r.mono (fun _ _ _ e=>e) fun a o e nb m=>m.elim nb fun q=>hb o (q▸e)
end
noncomputable def pc (C:Cfg) (X:Addr→Prop) (α':a7) (σ':Sto) (s s':Shared) (v:Value) (xs:List D):Prop:=
 ∃a vs,v=.ref a∧s.heap.objs.size≤a∧s'.heap.PlainList a vs.toArray∧vs.length≤1000001∧RepDs C s'.heap (fun b=>Bad X σ' α' b∨b=a) vs xs∧SRel C (fun b=>X b∨b=a) α' σ' s'.heap
theorem a6v{h:Heap}{o:Obj}:h.get? h.objs.size=some o→False:=fun e=>Nat.lt_irrefl _ (Heap.lt_size e)
section
variable{C:Cfg}{X:Addr→Prop}{α:a7}{σ:Sto}{s:Shared}{A:Around}{E:Value→Shared→Prop}
theorem jg {vs:List Value} {xs:List D} (r:SRel C X α σ s.heap) (rs:RepDs C s.heap (Bad X σ α) vs xs) (hl:vs.length≤1000001) (t:Nat) (n:Nat):
  let s':Shared:={s with heap:=s.heap.push {cls:=.type "list",data:=.seq vs.toArray n},toks:=t}
  Step C X α σ s α σ s'∧RepD C s'.heap (Bad X σ α) (.ref s.heap.objs.size) (.list xs)∧pc C X α σ s s' (.ref s.heap.objs.size) xs:=by
 have S:=Step.push r {cls:=.type "list",data:=.seq vs.toArray n} t
 have P:(s.heap.push {cls:=.type "list",data:=.seq vs.toArray n}).PlainList s.heap.objs.size vs.toArray:=⟨n,Heap.get?_push_size _ rfl⟩
 refine⟨S,.list P (gv r (Nat.le_refl _)) hl (S.repDs r rs),_,vs,rfl,Nat.le_refl _,P,hl,?_,r.widen (fun _ _ e=>Heap.get?_push_of_some _ e) (by rw[Heap.size_push];grind) (fun _=>.inl) fun a x=>x.imp id fun q=>⟨Nat.le_of_eq q.symm,by rw[q];exact Nat.lt_of_lt_of_eq (Nat.lt_succ_self _) (Heap.size_push ..).symm⟩⟩
 exact(rs.and (b:=s.heap.objs.size) fun o=>a6v).mono (fun b o _ e=>Heap.get?_push_of_some _ e) fun _ _ _=>id
theorem kx {vs:List Value} {xs:List D} (r:SRel C X α σ s.heap) (rs:RepDs C s.heap (Bad X σ α) vs xs) (hl:vs.length≤1000001) (t:Nat) (n:Nat):
  let s':Shared:={s with heap:=s.heap.push {cls:=.type "tuple",data:=.seq vs.toArray n},toks:=t}
  Step C X α σ s α σ s'∧RepD C s'.heap (Bad X σ α) (.ref s.heap.objs.size) (.tuple xs):=by
 have S:=Step.push r {cls:=.type "tuple",data:=.seq vs.toArray n} t
 exact⟨S,.tuple ⟨_,Heap.get?_push_size _ rfl,rfl,n,rfl⟩ (gv r (Nat.le_refl _)) hl (S.repDs r rs)⟩
theorem a1m{h:Heap}{a:Addr}{vs:Array Value}{s:Shared}(e:s.heap=h) (x:h.PlainList a vs):s.TypeIs (.ref a) "list":=let⟨n,q⟩:=x;⟨_,e▸q,rfl⟩
theorem qd{a:Addr}{vs:List Value}{xs:List D}{z:Int}{t:Tok}{n:Nat}{d:D}{B:Addr→Prop}{Q:Value→Shared→Prop}(hl:s.heap.PlainList a vs.toArray) (hn:vs.length≤1000001) (rs:RepDs C s.heap B vs xs)
  (e:dr xs.length z=some n) (ed:xs[n]?=some d) (h:∀v,RepD C s.heap B v d→Q v s):wpAny (model C.prog C.w) A (getItem (.ref a) (.int z t)) Q E s:=by
 refine ar (rs.get ed) ?_;intro v hv r
 have len:=rs.length
 unfold dr at e
 split at e
 ·rename_i h0
  split at e
  ·rename_i h1
   cases e
   exact wpAny_getItem_list (PlainList.isList hl) h0 (by omega) (by simpa using hv) (h v r)
  ·cases e
 ·rename_i h0
  split at e
  ·rename_i h1
   cases e
   refine wpAny_getItem_list_neg (PlainList.isList hl) (by exact aia h0) (by simp only[List.size_toArray];grind) (by omega) ?_ (h v r)
   rw[←len]at hv
   simpa using hv
  ·cases e
theorem yu{a:Addr}{vs:List Value}{xs:List D}{z:Int}{t:Tok}{n:Nat}{d:D}{B:Addr→Prop}{Q:Value→Shared→Prop}(hl:s.heap.IsTuple a vs.toArray) (hn:vs.length≤1000001) (rs:RepDs C s.heap B vs xs)
  (e:dr xs.length z=some n) (ed:xs[n]?=some d) (h:∀v,RepD C s.heap B v d→Q v s):wpAny (model C.prog C.w) A (getItem (.ref a) (.int z t)) Q E s:=by
 refine ar (rs.get ed) ?_;intro v hv r
 have len:=rs.length
 refine getItem_tuple (j:=n) hl ?_ ?_ ?_ (by simpa using hv) (h v r)
 ·unfold dr at e
  split at e
  ·omega
  ·split at e
   ·omega
   ·cases e
 ·unfold dr at e
  split at e
  ·split at e
   ·omega
   ·cases e
  ·omega
 ·simp only[List.size_toArray,len]
  unfold dr at e
  split at e
  ·rename_i h0
   split at e
   ·rename_i h1
    cases e
    unfold seqIndex?
    simp only[show¬z<0 by exact ape h0,if_false]
    simp
    exact ap5 h0 h1
   ·cases e
  ·rename_i h0
   split at e
   ·rename_i h1
    cases e
    unfold seqIndex?
    simp only[show z<0 by exact aia h0,if_true]
    simp
    exact aqa h0 h1
   ·cases e
theorem a09 (vs:List Value)(l u:Option Int)(hl:l.all eh=true)(hu:u.all eh=true):slicePick vs.toArray l u none=(cut vs l u).toArray:=by
 have nat:∀{i:Int},eh i=true→∃k:Nat,i=(k:Int):=fun{i}h=>by
  simp only[eh,Bool.and_eq_true,decide_eq_true_eq]at h
  exact⟨i.toNat,by grind⟩
 rw[slicePick_plain]
 congr 1
 unfold cut
 cases l with
 |none=>
  cases u with
  |none=>simp
  |some u=>
   obtain⟨k,rfl⟩:=nat (by simpa using hu)
   simp only[Option.elim,clipAt_nat,List.size_toArray,List.drop_zero,Nat.sub_zero,Int.toNat_natCast]
   rw[List.take_eq_take_iff]
   grind
 |some l=>
  obtain⟨j,rfl⟩:=nat (by simpa using hl)
  cases u with
  |none=>
   simp only[Option.elim,clipAt_nat,List.size_toArray,Int.toNat_natCast,List.take_length]
   rcases Nat.le_total j vs.length with h|h
   ·rw[Nat.min_eq_left h,List.take_of_length_le (by simp)]
   ·rw[Nat.min_eq_right h,List.drop_of_length_le (Nat.le_refl _),List.drop_of_length_le h,List.take_nil]
  |some u=>
   obtain⟨k,rfl⟩:=nat (by simpa using hu)
   simp only[Option.elim,clipAt_nat,List.size_toArray,Int.toNat_natCast]
   rw[List.drop_take]
   rcases Nat.le_total j vs.length with h|h
   ·rw[Nat.min_eq_left h]
    rw[List.take_eq_take_iff,List.length_drop]
    exact apx h
   ·rw[Nat.min_eq_right h,List.drop_of_length_le (Nat.le_refl _),List.drop_of_length_le h]
    simp
theorem RepDs.cut{h:Heap}{B:Addr→Prop}{vs:List Value}{xs:List D}(r:RepDs C h B vs xs) (l u:Option Int):RepDs C h B (Mini.Internal.cut vs l u) (Mini.Internal.cut xs l u):=by
 unfold Mini.Internal.cut
 rw[r.length]
 exact(r.take _).drop _
end
theorem a7z{i:Int}(h:small i=true):Builtin.Int.intBits i≤64:=by
 unfold small lim at h
 simp only[Bool.and_eq_true,decide_eq_true_eq]at h
 unfold Builtin.Int.intBits
 split
 ·grind
 ·rename_i hz
  have hz':i.natAbs≠0:=by
   intro q
   apply hz
   rw[Int.natAbs_eq_zero.mp q];rfl
  have:i.natAbs<2 ^ 63:=by
   have:(2:Nat)^ 63=9223372036854775808:=by decide
   omega
  have:=(Nat.log2_lt hz').mpr this
  exact apb this
section
variable{C:Cfg}{X:Addr→Prop}{α:a7}{σ:Sto}{s:Shared}{u v:Value}{a b d:D}{A:Around}{E:Value→Shared→Prop}{B:Addr→Prop}
noncomputable def PQ (C:Cfg) (X:Addr→Prop) (α:a7) (σ:Sto) (s:Shared) (d:D) (Q:Value→Shared→Prop):Prop:=
 ∀x s',Step C X α σ s α σ s'→RepD C s'.heap (Bad X σ α) x d→(∀xs,d=.list xs→pc C X α σ s s' x xs)→Q x s'
theorem PQ.int {Q:Value→Shared→Prop}{i:Int}(r:SRel C X α σ s.heap) (h:PQ C X α σ s (.int i) Q) (t n:Nat):Q (.int i t) {s with toks:=n}:=
 h _ _ (Step.tok r n) (.int _ _) fun _ e=>by cases e
theorem PQ.list {Q:Value→Shared→Prop}{vs:List Value}{xs:List D}(r:SRel C X α σ s.heap) (h:PQ C X α σ s (.list xs) Q) (rs:RepDs C s.heap (Bad X σ α) vs xs) (hl:vs.length≤1000001):
  Q (.ref s.heap.objs.size) {s with heap:=s.heap.push {cls:=.type "list",data:=.seq vs.toArray}}:=by
 refine f5 (jg r rs hl s.toks 0) ?_;intro S R F
 exact h _ _ S R fun xs' e=>by cases e;exact F
theorem pn{n:Nat}(h:fe n=true):n≤1000000:=of_decide_eq_true h
theorem aq0{P:Operator→D→D→D→Prop}{op:Operator}{a b d:D}(e:f9 op a b=some d) (k1:∀x y,P .Add (.int x) (.int y) (.int (x+y))) (k2:∀x y,P .Sub (.int x) (.int y) (.int (x-y))) (k3:∀x y,small x=true→P .Mult (.int x) (.int y) (.int (x*y)))
  (k4:∀x y,y≠0→y.natAbs<1073741824→P .FloorDiv (.int x) (.int y) (.int (x.fdiv y))) (k5:∀x y,y≠0→P .Mod (.int x) (.int y) (.int (x.fmod y))) (k6:∀xs ys,xs.length+ys.length≤1000000→P .Add (.list xs) (.list ys) (.list (xs++ys)))
  (k7:∀x n,0≤n→n≤1000000→P .Mult (.list [x]) (.int n) (.list (List.replicate n.toNat x))):P op a b d:=by
 cases op with
 |Add=>cases a with
  |int x=>cases b with
   |int y=>exact j8 e (k1 x y)
   |_=>exact no e
  |list xs=>cases b with
   |list ys=>exact ai e (fun q e=>j8 e (k6 xs ys (pn q))) fun _ e=>no e
   |_=>exact no e
  |_=>exact no e
 |Sub=>cases a with
  |int x=>cases b with
   |int y=>exact j8 e (k2 x y)
   |_=>exact no e
  |_=>exact no e
 |FloorDiv=>cases a with
  |int x=>cases b with
   |int y=>exact ai e (fun _ e=>no e) fun q e=>ai e (fun q2 e=>j8 e (k4 x y q (of_decide_eq_true q2))) fun _ e=>no e
   |_=>exact no e
  |_=>exact no e
 |Mod=>cases a with
  |int x=>cases b with
   |int y=>exact ai e (fun _ e=>no e) fun q e=>j8 e (k5 x y q)
   |_=>exact no e
  |_=>exact no e
 |Mult=>cases a with
  |int x=>cases b with
   |int y=>exact ai e (fun q e=>j8 e (k3 x y (tt q).1)) fun _ e=>no e
   |_=>exact no e
  |list xs=>cases xs with
   |nil=>exact no e
   |cons x r=>cases r with
    |nil=>cases b with
     |int n=>exact ai e (fun q e=>j8 e (k7 x n q.1 q.2)) fun _ e=>no e
     |_=>exact no e
    |cons _ _=>exact no e
  |_=>exact no e
 |_=>exact no e
theorem aae{op:Operator}{Q:Value→Shared→Prop}(r:SRel C X α σ s.heap) (ru:vg C s.heap (Bad X σ α) u a) (rv:vg C s.heap (Bad X σ α) v b) (e:f9 op a b=some d) (h:PQ C X α σ s d Q):
  wpAny (model C.prog C.w) A (binaryOp op u v) Q E s:=by
 revert ru rv h
 apply aq0 e<;>clear e
 ·intro x y ru rv h
  exact gd ru fun _ e1=>gd rv fun _ e2=>e1▸e2▸add_int (PQ.int r h _ _)
 ·intro x y ru rv h
  exact gd ru fun _ e1=>gd rv fun _ e2=>e1▸e2▸sub_int (PQ.int r h _ _)
 ·intro x y q ru rv h
  exact gd ru fun _ e1=>gd rv fun _ e2=>e1▸e2▸mul_int (PQ.int r h _ _) (IntMulOk.of_left (a7z q))
 ·intro x y q q2 ru rv h
  exact gd ru fun _ e1=>gd rv fun _ e2=>e1▸e2▸floordiv_int q (PQ.int r h _ _) (.inl (PyProof.noPylong_small q2))
 ·intro x y q ru rv h
  exact gd ru fun _ e1=>gd rv fun _ e2=>e1▸e2▸mod_int' q (PQ.int r h _ _)
 ·intro xs ys q ru rv h
  refine yh ru fun l1 vs hu h1 k1 r1=>yh rv fun l2 ws hv h2 k2 r2=>?_
  obtain⟨n,h1⟩:=h1
  obtain⟨m,h2⟩:=h2
  subst hu;subst hv
  have e1:=r1.length
  have e2:=r2.length
  refine concat_meets ⟨_,h1,rfl⟩ ⟨_,h2,rfl⟩ noFill_list_add seq_list_add PySem.F.slot_list_add PySem.F.entry_list_add (PySem.F.args_list_add_2 _ _)
   (list_addW l1 l2 vs.toArray ws.toArray n m none none #[] #[] (by simp only[List.size_toArray,sizeLine];omega)) ⟨h1,h2,?_⟩
  have:=PQ.list (vs:=vs++ws) r h (r1.append r2) (by rw[List.length_append];exact aq7 q e1 e2)
  rw[←List.append_toArray]at this
  exact this
 ·intro x n q0 q1 ru rv h
  refine yh ru fun l1 vs hu h1 k1 r1=>aa1 r1 fun y ys hy ry r2=>a89 r2 fun hys=>gd rv fun t hv=>?_
  obtain⟨k,h1⟩:=h1
  subst hu;subst hys;subst hy;subst hv
  have big:(2:Int) ^ 63=9223372036854775808:=by decide
  refine wpAny_binaryOp_repeat_ref (T:="list") (U:="int") (by decide) ⟨_,h1,rfl⟩ (fun s'=>typeIs_int s' n t) noFill_list_mul F.fills_int_mul F.slot_int_rmul repeat_list F.slot_int_index.lookup
   (call_meets F.slot_int_rmul (typeIs_int s n t) F.entry_int_rmul (F.args_int_rmul_2 _ _) (lm_int_rmul_list_any n t l1 _ k none #[])
    ⟨h1,rfl,⟨_,h1,rfl⟩,call_meets F.slot_list_mul ⟨_,h1,rfl⟩ F.entry_list_mul (F.args_list_mul_2 _ _)
     (lm_list_mul_any l1 _ k none #[] n t (by simp[Builtin.List.listFitsIndex];exact apc q0 q1) (by simp;exact apm q1) (by simp[Builtin.List.listTooLong,sizeLine];exact apa q1))
     ⟨h1,?_⟩⟩)
  rw[listMul_foldl_if]
  have e3:(List.replicate n.toNat [y]).flatten=List.replicate n.toNat y:=by
   induction n.toNat with
   |zero=>rfl
   |succ k ih=>rw[List.replicate_succ,List.flatten_cons,ih];rfl
  refine(?_:Q _ _)
  rw[show([y].toArray.toList)=[y]from rfl,e3]
  exact PQ.list r h (RepDs.replicate ry _) (by rw[List.length_replicate];exact app q1)
end
section
variable{C:Cfg}{h:Heap}{B:Addr→Prop}{α:a7}
noncomputable def kr{β γ:Type}(R:β→γ→Prop)(o:Option γ)(o':Option β):Prop:=(∀x,o=some x→∃u,o'=some u∧R u x)∧(o=none→o'=none)
theorem kr.nil{β γ:Type}{R:β→γ→Prop}:kr R none none:=⟨fun _ e=>no e,fun _=>rfl⟩
theorem kr.ite{β γ:Type}{R:β→γ→Prop}{u:β}{x:γ}{o:Option γ}{o':Option β}(a:R u x) (ih:kr R o o') (c:Bool):kr R (if c=true then some x else o) (if c=true then some u else o'):=by
 cases c with
 |true=>exact⟨fun y e=>⟨u,rfl,Option.some.inj e▸a⟩,fun e=>nomatch e⟩
 |false=>exact ih
theorem kr.look{β γ:Type}{R:β→γ→Prop}{u:β}{x:γ}{o:Option γ}{o':Option β}(a:R u x) (ih:kr R o o') (c:Bool):kr R (match c with|true=>some x|false=>o) (match c with|true=>some u|false=>o'):=by
 cases c with
 |true=>exact⟨fun y e=>⟨u,rfl,Option.some.inj e▸a⟩,fun e=>nomatch e⟩
 |false=>exact ih
theorem rkc{P:List (D×Value)→List (D×D)→Prop}(n:P [] []) (c:∀k u x l ds,RepD C h B u x→P l ds→P ((k,u)::l) ((k,x)::ds)){l:List (D×Value)}{ds:List (D×D)}(r:RepKs C h B l ds):P l ds:=by
 induction ds generalizing l with
 |nil=>cases r;exact n
 |cons p ds ih=>cases r with|cons a r=>exact c _ _ _ _ _ a (ih r)
theorem rfc{P:List (Str×Value)→List (Str×D)→Prop}(n:P [] []) (c:∀k u x l ds,RepD C h B u x→P l ds→P ((k,u)::l) ((k,x)::ds)){l:List (Str×Value)}{ds:List (Str×D)}(r:RepFs C h B l ds):P l ds:=by
 induction ds generalizing l with
 |nil=>cases r;exact n
 |cons p ds ih=>cases r with|cons a r=>exact c _ _ _ _ _ a (ih r)
theorem RepKs.find{k:D}{l:List (D×Value)}{ds:List (D×D)}(r:RepKs C h B l ds):kr (RepD C h B) (a6 k ds) (a6 k l):=
 rkc (P:=fun l ds=>kr (RepD C h B) (a6 k ds) (a6 k l)) .nil (fun k' _ _ _ _ a ih=>.ite a ih (D.beq k' k)) r
theorem RepKVs.find{k:D}{l:List (D×Value)}{ds:List (D×V)}(q:RepKVs C h B α l ds):kr (RepV C h B α) (a6 k ds) (a6 k l):=by
 induction q with
 |nil=>exact .nil
 |cons a _ ih=>exact .ite a ih (D.beq _ k)
theorem RepFs.look{k:Str}{l:List (Str×Value)}{ds:List (Str×D)}(r:RepFs C h B l ds):kr (RepD C h B) (ds.lookup k) (l.lookup k):=
 rfc (P:=fun l ds=>kr (RepD C h B) (ds.lookup k) (l.lookup k)) .nil (fun k' _ _ _ _ a ih=>.look a ih (k==k')) r
theorem RepKVs.look{k:Str}{l:List (Str×Value)}{ds:List (Str×V)}(q:RepKVs C h B α l ds):kr (RepV C h B α) (ds.lookup k) (l.lookup k):=by
 induction q with
 |nil=>exact .nil
 |cons a _ ih=>exact .look a ih (k==_)
theorem og{β γ:Type}{k:D}{l:List (D×β)}{ds:List (D×γ)}(h1:∀x,a6 k ds=some x→∃u,a6 k l=some u)(h2:a6 k ds=none→a6 k l=none):(a6 k l).isSome=(a6 k ds).isSome:=by
 cases e:a6 k ds with
 |none=>rw[h2 e];rfl
 |some x=>obtain⟨u,hu⟩:=h1 x e;rw[hu];rfl
theorem oi{β γ:Type}{k:D}{l:List (D×β)}{ds:List (D×γ)}(h1:∀x,a6 k ds=some x→∃u,a6 k l=some u) (h2:a6 k ds=none→a6 k l=none):(a6 k l).isNone=(a6 k ds).isNone:=by
 cases e:a6 k ds with
 |none=>rw[h2 e];rfl
 |some x=>(refine ex1 (h1 x e) ?_;intro u hu);rw[hu];rfl
theorem vg.key{v:Value}{d:D}{kd:Kd}(x:vg C h B v d)(ha:kd.asks d=true):RepD C h B v d:=by
 cases d with
 |list ds=>have:=(j4 ha).1;exact absurd rfl this
 |_=>exact x
theorem bb.typeIs{s:Shared}{a:Addr}{kd:Kd}{kvs:List (D×Value)}(x:bb C s.heap B a kd kvs):s.TypeIs (.ref a) "dict":=let⟨o,ho,hc,_⟩:=x.obj;⟨o,ho,hc⟩
theorem RepD.notBuiltin{v:Value}{d:D}(x:RepD C h B v d):(∀i,v≠.builtin i):=by cases x<;>intro i e<;>cases e
theorem RepV.notBuiltin{v:Value}{d:V}(x:RepV C h B α v d):(∀i,v≠.builtin i):=by
 cases x with
 |d r=>exact r.notBuiltin
 |m e=>intro i q;cases q
theorem aao{v:Value}(h:∀i,v≠.builtin i):handedIn v=true:=by
 cases v<;>first|rfl|exact absurd rfl (h _)
end
section
variable{C:Cfg}{X:Addr→Prop}{α:a7}{σ:Sto}{s:Shared}{u v:Value}{a b d:D}{A:Around}{E:Value→Shared→Prop}{B:Addr→Prop}
theorem acq {op:CmpOp}{Q:Value→Shared→Prop}{c:Bool}(hu:A.units+64<cLine) (ru:vg C s.heap B u a) (rv:vg C s.heap B v b) (e:zs op a b=some c)
  (h:∀t,Q (.bool c) {s with toks:=t}):wpAny (model C.prog C.w) A (compareOp op u v) Q E s:=by
 have h0:Q (.bool c) s:=h s.toks
 cases op with
 |Eq=>exact ai e (fun q e=>by cases e;exact ahh hu ru.weak rv.weak (tt q).1 (tt q).2 h0) fun _ e=>no e
 |NotEq=>exact ai e (fun q e=>by cases e;exact ah9 hu ru.weak rv.weak (tt q).1 (tt q).2 h0) fun _ e=>no e
 |Lt=>exact iiE e fun x y ha hb e=>by subst ha;subst hb;cases e;exact gd ru fun _ e1=>gd rv fun _ e2=>e1▸e2▸lt_int h0
 |LtE=>exact iiE e fun x y ha hb e=>by subst ha;subst hb;cases e;exact gd ru fun _ e1=>gd rv fun _ e2=>e1▸e2▸PySem.P.le_int h0
 |Gt=>exact iiE e fun x y ha hb e=>by subst ha;subst hb;cases e;exact gd ru fun _ e1=>gd rv fun _ e2=>e1▸e2▸gt_int h0
 |GtE=>exact iiE e fun x y ha hb e=>by subst ha;subst hb;cases e;exact gd ru fun _ e1=>gd rv fun _ e2=>e1▸e2▸PySem.P.ge_int h0
 |In=>
  refine inE e (fun xs hb e=>ai e (fun q e=>by cases e;exact ah1 hu ru.weak rv.weak hb (tt q).1 (tt q).2 h0) fun _ e=>no e) fun kd kvs hb e=>ai e (fun q e'=>?_) fun _ e=>no e
  subst hb
  cases e'
  refine a8e rv fun a' l hv hd nb hk=>?_
  subst hv
  have f:=hk.find (k:=a)
  refine nw (Nat.lt_of_le_of_lt (Nat.add_le_add_left (by decide) _) hu) hd (ru.key q) q ?_
  rw[og (fun x e=>let⟨u,e,_⟩:=f.1 x e;⟨u,e⟩) f.2]
  exact h
 |NotIn=>
  refine inE e (fun xs hb e=>ai e (fun q e=>by cases e;exact aar hu ru.weak rv.weak hb (tt q).1 (tt q).2 h0) fun _ e=>no e) fun kd kvs hb e=>ai e (fun q e'=>?_) fun _ e=>no e
  subst hb
  cases e'
  refine a8e rv fun a' l hv hd nb hk=>?_
  subst hv
  have f:=hk.find (k:=a)
  refine oa (Nat.lt_of_le_of_lt (Nat.add_le_add_left (by decide) _) hu) hd (ru.key q) q ?_
  rw[oi (fun x e=>let⟨u,e,_⟩:=f.1 x e;⟨u,e⟩) f.2]
  exact h
 |_=>exact no e
theorem a32{P:Prop}{i:Nat}{kd:Kd}{kvs:List (D×V)}(r:SRel C X α σ s.heap) (ru:RepV C s.heap (Bad X σ α) α u (.m i)) (ho:σ.objs[i]?=some (.dict kd kvs)) (k:∀a l,u=.ref a→bb C s.heap (Bad X σ α) a kd l→RepKVs C s.heap (Bad X σ α) α l kvs→P):P:=
 let⟨p,_,hu,_,l,hd,hk⟩:=ru.at r ho
 k p.1 l hu hd hk
theorem a22{x:V}(r:SRel C X α σ s.heap) (ru:RepV C s.heap (Bad X σ α) α u x):(u==Value.none)=a2z (norm σ x):=by
 have q:=ru.norm r
 generalize norm σ x=y at q
 cases q with
 |d r=>cases r<;>rfl
 |m e=>rfl
theorem t7 (h:∀i,u≠.builtin i):plainIs u .none=true:=by cases u<;>first|rfl|exact absurd rfl (h _)
theorem u9 {op:CmpOp}{Q:Value→Shared→Prop}{x y:V}{c:Bool}(hu:A.units+64<cLine) (r:SRel C X α σ s.heap) (ru:RepV C s.heap (Bad X σ α) α u x) (rv:RepV C s.heap (Bad X σ α) α v y) (e:b8 σ op x y=some c)
  (h:∀t,Q (.bool c) {s with toks:=t}):wpAny (model C.prog C.w) A (compareOp op u v) Q E s:=by
 have h0:Q (.bool c) s:=h s.toks
 have gen:∀{op:CmpOp},((peek σ x).bind fun a=>(peek σ y).bind fun b=>zs op a b)=some c→wpAny (model C.prog C.w) A (compareOp op u v) Q E s:=by
  intro op e
  refine bj e ?_;clear e;intro a e1 e
  refine bj e ?_;clear e;intro b e2 e
  exact acq hu (ru.peek r e1) (rv.peek r e2) e h
 have lt:A.units+1<cLine:=Nat.lt_of_le_of_lt (Nat.add_le_add_left (by decide) _) hu
 cases op with
 |Is=>
  refine ag3 e fun hy e=>?_
  subst hy
  cases e
  exact a92 (vd rv) fun hv=>hv▸wpAny_is_plain (t7 ru.notBuiltin) (by rw[a22 r ru];exact h0)
 |IsNot=>
  refine ag3 e fun hy e=>?_
  subst hy
  cases e
  exact a92 (vd rv) fun hv=>hv▸wpAny_isNot_plain (t7 ru.notBuiltin) (by rw[a22 r ru];exact h0)
 |In=>cases y with
  |d _=>exact gen e
  |m i=>
   refine ag9 e (fun kd kvs ho e=>bj e fun k e1 e=>ai e (fun q e=>?_) fun _ e=>no e) gen
   cases e
   refine a32 r rv ho fun a l hv hd hk=>?_
   subst hv
   have f:=hk.find (k:=k)
   refine nw lt hd ((ru.peek r e1).key q) q ?_
   rw[og (fun x e=>let⟨u,e,_⟩:=f.1 x e;⟨u,e⟩) f.2]
   exact h
 |NotIn=>cases y with
  |d _=>exact gen e
  |m i=>
   refine ag9 e (fun kd kvs ho e=>bj e fun k e1 e=>ai e (fun q e=>?_) fun _ e=>no e) gen
   cases e
   refine a32 r rv ho fun a l hv hd hk=>?_
   subst hv
   have f:=hk.find (k:=k)
   refine oa lt hd ((ru.peek r e1).key q) q ?_
   rw[oi (fun x e=>let⟨u,e,_⟩:=f.1 x e;⟨u,e⟩) f.2]
   exact h
 |_=>exact gen e
noncomputable def PV (C:Cfg) (X:Addr→Prop) (α:a7) (σ:Sto) (s:Shared) (d:V) (Q:Value→Shared→Prop):Prop:=
 ∀x s',Step C X α σ s α σ s'→RepV C s'.heap (Bad X σ α) α x d→Q x s'
theorem PV.tok {Q:Value→Shared→Prop}{x:Value}{d:V}(r:SRel C X α σ s.heap) (h:PV C X α σ s d Q) (rx:RepV C s.heap (Bad X σ α) α x d) (t:Nat):Q x {s with toks:=t}:=
 h _ _ (Step.tok r t) rx
theorem a9p{Q:Value→Shared→Prop}{o x:V}{at_:Str}(K:Ok C) (r:SRel C X α σ s.heap) (ru:RepV C s.heap (Bad X σ α) α u o) (e:ph σ o at_=some x) (h:PV C X α σ s x Q):
  wpAny (model C.prog C.w) A (getAttr u at_ true) Q E s:=by
 have main:∀{cn:Str}{c xa dx:Addr}{es:List DictEntry}{n:Nat}{l:List (Str×Value)}{w:Value},mv.contains at_=true→s.heap.get? xa=some (instObj c dx)→s.heap.get? dx=some (dictOf es n)→dl C.K cn=some c→oo es l→
   l.lookup at_=some w→RepV C s.heap (Bad X σ α) α w x→wpAny (model C.prog C.w) A (getAttr (.ref xa) at_ true) Q E s:=by
  intro cn c xa dx es n l w hf h1 h2 h3 h4 h5 h6
  have ok:=K.cls cn c h3
  unfold ab5 at ok
  simp only[Bool.and_eq_true]at ok
  have I:PySem.W.InstAt s.heap xa (instObj c dx) c (some (dictOf es n)):=⟨h1,rfl,rfl,h2⟩
  have ha:findIn C.K (.ref c) at_=some none:=beq_iff_eq.mp (List.all_eq_true.mp ok.2 _ (by simpa using hf))
  have X':C.K.In s.heap:=fun a o e=>r.stays _ _ (K.kin a o e)
  exact get_value X' I (plainGet_of ok.1.1).1 (findObj_own ok.1.2 ha rfl (by rw[lookIn_dict,h4.1,h5])) (aao h6.notBuiltin) (PV.tok r h h6 _)
 refine ai e (fun _ e=>no e) fun hf e=>?_
 have hf':=nn hf
 cases o with
 |d y=>
  cases y<;>try exact no e
  refine de e fun y e1 e2=>adt (vd ru) fun x dx c es n l hu h1 h2 hc hfl rf=>?_
  subst hu;subst e2
  exact ar ((rf.look (k:=at_)).1 y e1) fun w hw rw_=>main hf' h1 h2 hc hfl hw (.d rw_)
 |m i=>
  refine amm e (fun c fs ho e=>?_) fun c fs ho e=>?_
  ·refine de e fun y e1 e2=>?_
   obtain⟨p,hp,rfl,c',es,n,l,h1,h2,h3,h4,rk⟩:=ru.at r ho
   subst e2
   exact ar ((rk.look (k:=at_)).1 y e1) fun w hw rw_=>main hf' h1 h2 h3 h4 hw (rw_.norm r)
  ·refine de e fun y e1 e2=>dz (ru.at r ho) fun p hp hu rk=>?_
   refine adt (v:=.ref p.1) rk fun x dx c es n l hu' h1 h2 hc hfl rf=>?_
   subst hu;subst e2
   rw[hu']
   exact ar ((rf.look (k:=at_)).1 y e1) fun w hw rw_=>main hf' h1 h2 hc hfl hw (.d rw_)
theorem ack{Q:Value→Shared→Prop}{o i x:V}{value slice:Expr}(hu:A.units+64<cLine) (r:SRel C X α σ s.heap) (ru:RepV C s.heap (Bad X σ α) α u o) (rv:RepV C s.heap (Bad X σ α) α v i) (e:bx σ o i=some x)
  (hs:subscripted slice false u v=operate [u,v] (getItem u v)) (h:PV C X α σ s x Q):
  wpAny (model C.prog C.w) A (subscriptTail value slice u v) Q E s:=by
 have lt:A.units+1<cLine:=Nat.lt_of_le_of_lt (Nat.add_le_add_left (by decide) _) hu
 revert ru rv h
 apply ao8 e<;>clear e
 ·intro j k kd kvs y hj q e1 ru rv h
  refine a32 r ru hj fun a l hu hd hk=>ar ((hk.find (k:=k)).1 y e1) fun w hw rw_=>?_
  subst hu
  exact tail_any hd.typeIs slot_dict_getitem.lookup (t9 lt hd (vd rv) q hw fun t=>PV.tok r h (rw_.norm r) t) hs
 ·intro j xs z n d hj e1 e2 ru rv h
  refine vm ru fun p hp hu=>a0h rv fun t hv=>?_
  obtain⟨_,vs,hl,hn,rs⟩:=r.obj j p _ hp hj
  subst hu;subst hv
  exact tail_any (PlainList.isList hl).typeIs slot_list_getitem.lookup (qd hl hn rs e1 e2 fun w rw_=>h _ _ (Step.refl r) (.d rw_)) hs
 ·intro xs z n d e1 e2 ru rv h
  refine vv (vd ru) fun a vs hu hl nb hn rs=>a0h rv fun t hv=>?_
  subst hu;subst hv
  exact tail_any (PlainList.isList hl).typeIs slot_list_getitem.lookup (qd hl hn rs e1 e2 fun w rw_=>h _ _ (Step.refl r) (.d rw_)) hs
 ·intro xs z n d e1 e2 ru rv h
  refine adk (vd ru) fun a vs hu hl nb hn rs=>a0h rv fun t hv=>?_
  subst hu;subst hv
  exact tail_any (T:="tuple") (dz hl fun o ho hc _=>⟨o,ho,hc⟩) slot_tuple_getitem.lookup (yu hl hn rs e1 e2 fun w rw_=>h _ _ (Step.refl r) (.d rw_)) hs
 ·intro k kd kvs y q e1 ru rv h
  refine a8e (vd ru) fun a l hu hd nb hk=>ar ((hk.find (k:=k)).1 y e1) fun w hw rw_=>?_
  subst hu
  exact tail_any hd.typeIs slot_dict_getitem.lookup (t9 lt hd (vd rv) q hw fun t=>PV.tok r h (.d rw_) t) hs
end
theorem pc.early{C:Cfg}{X:Addr→Prop}{α:a7}{σ:Sto}{s s₁ s':Shared}{v:Value}{xs:List D}(f:pc C X α σ s₁ s' v xs)(h:s.heap.objs.size≤s₁.heap.objs.size):pc C X α σ s s' v xs:=by
 refine aba f ?_;clear f;intro a vs h1 h2 h3
 exact⟨a,vs,h1,Nat.le_trans h h2,h3⟩
section
variable(C:Cfg)(A:Around)(env:Env)(X:Addr→Prop)(ρ:Rho)
noncomputable def x7 (fr:Bool) (m:Sem Value) (σ:Sto) (V:V) (σ':Sto):Prop:=∀(E:Value→Shared→Prop) (Q:Value→Shared→Prop) (s:Shared) (α:a7),SRel C X α σ s.heap→b0 C env ρ X α σ s.heap→
 (∀v α' s',Step C X α σ s α' σ' s'→RepV C s'.heap (Bad X σ' α') α' v V→(fr=true→∀xs,V=.d (.list xs)→pc C X α' σ' s s' v xs)→Q v s')→wpAny (model C.prog C.w) A m Q E s
noncomputable def ak1 (m:Sem Bool) (σ:Sto) (b:Bool) (σ':Sto):Prop:=∀(E:Value→Shared→Prop) (Q:Bool→Shared→Prop) (s:Shared) (α:a7),SRel C X α σ s.heap→b0 C env ρ X α σ s.heap→
 (∀α' s',Step C X α σ s α' σ' s'→Q b s')→wpAny (model C.prog C.w) A m Q E s
noncomputable def Snd (e:Expr) (σ:Sto) (V:V) (σ':Sto):Prop:=x7 C A env X ρ (gx e) (eval e env) σ V σ'
noncomputable def uj (e:Expr) (σ:Sto) (b:Bool) (σ':Sto):Prop:=ak1 C A env X ρ (isTrue e env (eval e env)) σ b σ'
noncomputable def bu (ev:Expr→Sto→Option (V×Sto)):Prop:=∀e σ V σ',ev e σ=some (V,σ')→Snd C A env X ρ e σ V σ'
noncomputable def yr (ev:Expr→Sto→Option (V×Sto)):Prop:=∀e σ b σ',ev e σ=some (.d (.bool b),σ')→uj C A env X ρ e σ b σ'
noncomputable def di (ev:Expr→Sto→Option (V×Sto)):Prop:=(∀x p σ,ev (.Starred x p) σ=none)∧(∀xs k p σ,ev (.Set xs k p) σ=none)∧(∀l u t p σ,ev (.Slice l u t p) σ=none)
end
section
variable{C:Cfg}{A:Around}{env:Env}{X:Addr→Prop}{ρ:Rho}{sc:Scope}{ev:Expr→Sto→Option (V×Sto)}{σ σ':Sto}{W:V}
theorem x7.then{fr:Bool}{m:Sem Value}{σ₁:Sto}{V:V}(K:EnvOk C env sc X) (h:x7 C A env X ρ fr m σ V σ₁){E:Value→Shared→Prop}{Q:Value→Shared→Prop}{s:Shared}{α:a7}(r:SRel C X α σ s.heap) (er:b0 C env ρ X α σ s.heap)
  (k:∀v α₁ s₁,Step C X α σ s α₁ σ₁ s₁→RepV C s₁.heap (Bad X σ₁ α₁) α₁ v V→SRel C X α₁ σ₁ s₁.heap→b0 C env ρ X α₁ σ₁ s₁.heap→Q v s₁):wpAny (model C.prog C.w) A m Q E s:=
 h E Q s α r er fun v α₁ s₁ S R _=>k v α₁ s₁ S R S.srel (b0.step K r S er)
theorem a3k{c:Const}{k:_}{p:Pos}(e:(match c with|.none=>some (V.d .none,σ)|.bool b=>some (.d (.bool b),σ)|.int i=>some (.d (.int i),σ)|.str s=>some (.d (.str s),σ)|_=>none)=some (W,σ')):
  Snd C A env X ρ (.Constant c k p) σ W σ':=by
 intro E Q s α r er h
 cases c<;>simp only[Option.some.injEq,Prod.mk.injEq,reduceCtorEq]at e<;>obtain⟨rfl,rfl⟩:=e
 ·exact Constant_none (h _ _ _ (Step.refl r) (.d .none) fun q=>by cases q)
 ·exact Constant_bool (h _ _ _ (Step.refl r) (.d (.bool _)) fun q=>by cases q)
 ·exact wpAny_Constant_int (h _ _ _ (Step.tok r _) (.d (.int _ _)) fun q=>by cases q)
 ·exact Constant_str (h _ _ _ (Step.tok r _) (.d (.str _ _)) fun q=>by cases q)
theorem sy(K:EnvOk C env sc X){x:Str}{k:NameKind}(h:sc.names.lookup x=some k):(x==("__debug__":Str))=false:=by
 rw[beq_eq_false_iff_ne]
 intro q
 rw[q,K.debug]at h
 cases h
theorem a13{s:Shared}{α:a7}{v:Value}{d:D}(r:SRel C X α σ s.heap) (h:RepD C C.base (fun _=>False) v d):RepD C s.heap (Bad X σ α) v d:=
 h.mono (fun b o _ e=>r.stays b o e) fun b o e _=>w4 r e
theorem adg (O:Ok C) (K:EnvOk C env sc X){x:Str}{p:Pos}
  (e:(match sc.names.lookup x with|some .local|some .cell|some .free=>(ρ.get x).map fun v=>(norm σ v,σ)|some .globalImplicit=>(xz x).map fun d=>(V.d d,σ)|_=>none)=some (W,σ')):
  Snd C A env X ρ (.Name x p) σ W σ':=by
 intro E Q s α r er h
 have loc:(ρ.get x).map (fun v=>(norm σ v,σ))=some (W,σ')→∀k,sc.names.lookup x=some k→wpAny (model C.prog C.w) A (eval (.Name x p) env) Q E s:=by
  intro e k hk
  refine de e ?_;clear e;intro v hv e
  (revert h;apply re2 e;clear e;intro h)
  refine ar (er x v hv) ?_;intro u h1 h2
  have fin:Q u s:=h _ _ _ (Step.refl r) (h2.norm r) fun q=>by cases q
  refine wpAny_Name ?_ (sy K hk)
  rcases h1 with⟨h1,m,hm,hu⟩|⟨h1|h1,c,hc,hu⟩
  ·exact wpAny_loadName_local K.kind h1 hm hu fin
  ·exact wpAny_loadName_cell K.kind h1 hc hu fin
  ·refine wpAny_loadName_free K.kind h1 hc hu fin ?_
   rw[beq_eq_false_iff_ne]
   intro q
   rw[q,K.cdict]at h1
   cases h1
 cases hk:sc.names.lookup x with
 |none=>rw[hk]at e;exact no e
 |some k=>
 rw[hk]at e
 cases k with
 |«local»=>exact loc e _ hk
 |cell=>exact loc e _ hk
 |free=>exact loc e _ hk
 |globalImplicit=>
  refine de e ?_;clear e;intro d hd e
  (revert h;apply re2 e;clear e;intro h)
  refine ar (O.consts x d hd) ?_;intro v hv hr
  refine Name_function_global K.kind (K.glob x hk) (loadGlobal_global (mg:=C.mg) ?_ hv ?_) (sy K hk)
  ·rw[K.globals];exact O.g.keeps r.stays
  ·exact h _ _ _ (Step.refl r) (.d (a13 r hr)) fun q=>by cases q
 |_=>exact no e
theorem lu{o:Expr}{a:Str}{whole:Sem Value}(h:f8 o=true):attributeBase o a env whole=whole:=by
 cases o with
 |Call f as ks p=>
  cases f with
  |Name id c=>
   cases as with
   |nil=>
    cases ks with
    |nil=>show(if(id !=_||_||_||_)=true then whole else _)=_;rw[show(id !="super")=true from h];rfl
    |cons=>rfl
   |cons=>rfl
  |_=>rfl
 |_=>rfl
theorem u3{o:Expr}{a:Str}{p:Pos}(h:f8 o=true):eval (.Attribute o a p) env=(do
  let v←eval o env
  standAt p.atName
  let r←holding [v] (getAttr v a true)
  letTemporaryGo o v r
  pure r):=by
 show(do
  let v←attributeBase o a env (eval o env)
  standAt p.atName
  let r←holding [v] (getAttr v a true)
  letTemporaryGo o v r
  pure r)=_
 rw[lu h]
theorem a0g (O:Ok C) (K:EnvOk C env sc X) (T:bu C A env X ρ ev){o:Expr}{a:Str}{p:Pos}(hb:f8 o=true) (e:((ev o σ).bind fun p=>(ph p.2 p.1 a).map fun v=>(v,p.2))=some (W,σ')):
  Snd C A env X ρ (.Attribute o a p) σ W σ':=by
 intro E Q s α r er h
 refine ag e ?_;clear e;intro V₁ σ₁ e1 e
 refine de e ?_;clear e;intro y e2 e
 (revert h;apply re2 e;clear e;intro h)
 refine Attribute_any_ ((T _ _ _ _ e1).then K r er fun v α₁ s₁ S R r₁ er₁=>?_) (u3 hb)
 exact a9p O r₁ R e2 fun x s' S' R'=>h _ _ _ (S.trans S') R' fun q=>by cases q
theorem xx{slice:Expr}{o i:Value}(h:∀l u t p,slice≠.Slice l u t p):subscripted slice false o i=operate [o,i] (getItem o i):=by
 cases slice<;>first|rfl|exact absurd rfl (h _ _ _ _)
theorem a0n (hu:A.units+64<cLine) (K:EnvOk C env sc X) (T:bu C A env X ρ ev) (N:di ev){o i:Expr}{p:Pos}
  (e:((ev o σ).bind fun p=>(ev i p.2).bind fun q=>(bx q.2 p.1 q.1).map fun v=>(v,q.2))=some (W,σ')):x7 C A env X ρ false (eval (.Subscript o i p) env) σ W σ':=by
 intro E Q s α r er h
 refine ag e ?_;clear e;intro V₁ σ₁ e1 e
 refine ag e ?_;clear e;intro V₂ σ₂ e2 e
 refine de e ?_;clear e;intro y e3 e
 (revert h;apply re2 e;clear e;intro h)
 have hs:∀l u t p,i≠.Slice l u t p:=fun l u t p q=>by rw[q,N.2.2]at e2;exact no e2
 refine Subscript_ ((T _ _ _ _ e1).then K r er fun v α₁ s₁ S R r₁ er₁=>(T _ _ _ _ e2).then K r₁ er₁ fun w α₂ s₂ S' R' r₂ er₂=>?_)
 exact ack hu r₂ (S'.repV r₁ R) R' e3 (xx hs) fun x s' S'' R''=>h _ _ _ ((S.trans S').trans S'') R'' fun q=>by cases q
theorem aat (K:EnvOk C env sc X) (T:bu C A env X ρ ev){l r:Expr}{op:Operator}{p:Pos}
  (e:((ev l σ).bind fun p=>(ev r p.2).bind fun q=>(peek q.2 p.1).bind fun a=>(peek q.2 q.1).bind fun b=>(f9 op a b).map fun d=>(V.d d,q.2))=some (W,σ')):Snd C A env X ρ (.BinOp l op r p) σ W σ':=by
 intro E Q s α rr er h
 refine ag e ?_;clear e;intro V₁ σ₁ e1 e
 refine ag e ?_;clear e;intro V₂ σ₂ e2 e
 refine bj e ?_;clear e;intro a e3 e
 refine bj e ?_;clear e;intro b e4 e
 refine de e ?_;clear e;intro d e5 e
 (revert h;apply re2 e;clear e;intro h)
 refine wpAny_BinOp ((T _ _ _ _ e1).then K rr er fun v α₁ s₁ S R r₁ er₁=>(T _ _ _ _ e2).then K r₁ er₁ fun w α₂ s₂ S' R' r₂ er₂=>?_)
 refine aae r₂ ((S'.repV r₁ R).peek r₂ e3) (R'.peek r₂ e4) e5 fun x s' S'' R'' F=>h _ _ _ ((S.trans S').trans S'') (.d R'') fun _ xs q=>?_
 cases q
 exact(F xs rfl).early (Nat.le_trans S.grow S'.grow)
theorem vbE{P:Prop}{β:Type}{v:V}{f:Bool→Option β}{r:β}(e:(match v with|.d (.bool b)=>f b|_=>none)=some r)(k:∀b,v=.d (.bool b)→f b=some r→P):P:=by
 cases v with
 |m=>exact no e
 |d x=>cases x with
  |bool=>exact k _ rfl e
  |_=>exact no e
theorem viE{P:Prop}{β:Type}{v:V}{f:Int→Option β}{r:β}(e:(match v with|.d (.int b)=>f b|_=>none)=some r)(k:∀b,v=.d (.int b)→f b=some r→P):P:=by
 cases v with
 |m=>exact no e
 |d x=>cases x with
  |int=>exact k _ rfl e
  |_=>exact no e
theorem acp{P:Prop}{op:BoolOp}{v:V}{σ:Sto}{y:Option (V×Sto)}{r:V×Sto}
  (e:(match op,v with|.And,.d (.bool false)=>some (.d (.bool false),σ)|.And,.d (.bool true)=>y|.Or,.d (.bool true)=>some (.d (.bool true),σ)|.Or,.d (.bool false)=>y|_,_=>none)=some r)
  (a:op=.And→v=.d (.bool false)→some (V.d (.bool false),σ)=some r→P)(b:op=.And→v=.d (.bool true)→y=some r→P)(c:op=.Or→v=.d (.bool true)→some (V.d (.bool true),σ)=some r→P)(d:op=.Or→v=.d (.bool false)→y=some r→P):P:=by
 cases op<;>(cases v with
 |m=>exact no e
 |d x=>cases x with
  |bool t=>cases t<;>first|exact a rfl rfl e|exact b rfl rfl e|exact c rfl rfl e|exact d rfl rfl e
  |_=>exact no e)
theorem afg (K:EnvOk C env sc X) (T:bu C A env X ρ ev){x:Expr}{p:Pos}(e:((ev x σ).bind fun p=>match p.1 with|.d (.bool b)=>some (V.d (.bool !b),p.2)|_=>none)=some (W,σ')):Snd C A env X ρ (.UnaryOp .Not x p) σ W σ':=by
 intro E Q s α r er h
 refine ag e ?_;clear e;intro V₁ σ₁ e1 e
 refine vbE e ?_;clear e;intro b hb e;subst hb
 (revert h;apply du e;clear e;intro h)
 refine UnaryOp_ ((T _ _ _ _ e1).then K r er fun v α₁ s₁ S R r₁ er₁=>?_)
 (refine yv R.data ?_;intro hq;subst hq)
 exact not_of (wpAny_truthy_bool (h _ _ _ S (.d (.bool _)) fun q=>by cases q))
theorem af4 (K:EnvOk C env sc X) (T:bu C A env X ρ ev){x:Expr}{p:Pos}(e:((ev x σ).bind fun p=>match p.1 with|.d (.int b)=>some (V.d (.int (-b)),p.2)|_=>none)=some (W,σ')):Snd C A env X ρ (.UnaryOp .USub x p) σ W σ':=by
 intro E Q s α r er h
 refine ag e ?_;clear e;intro V₁ σ₁ e1 e
 refine viE e ?_;clear e;intro b hb e;subst hb
 (revert h;apply du e;clear e;intro h)
 refine UnaryOp_ ((T _ _ _ _ e1).then K r er fun v α₁ s₁ S R r₁ er₁=>?_)
 (refine gd R.data ?_;intro _ hq;subst hq)
 exact PyProof.Rows.neg_int (h _ _ _ (S.trans (Step.tok S.srel _)) (.d (.int _ _)) fun q=>by cases q)
theorem zt (K:EnvOk C env sc X) (T:bu C A env X ρ ev){op:BoolOp}{p:Pos}:∀(es:List Expr) (σ:Sto) (W:V) (σ':Sto),km ev op es σ=some (W,σ')→Snd C A env X ρ (.BoolOp op es p) σ W σ'
 |[],_,_,_,e=>by exact no e
 |[x],σ,W,σ',e=>by
  intro E Q s α r er h
  exact BoolOp_one ((T _ _ _ _ e) E Q s α r er fun v α' s' S R _=>h v α' s' S R fun q=>by cases q)
 |x::y::rest,σ,W,σ',e=>by
  intro E Q s α r er h
  refine ag e ?_;clear e;intro V₁ σ₁ e1 e
  have next:km ev op (y::rest) σ₁=some (W,σ')→∀α₁ s₁,Step C X α σ s α₁ σ₁ s₁→SRel C X α₁ σ₁ s₁.heap→b0 C env ρ X α₁ σ₁ s₁.heap→wpAny (model C.prog C.w) A (eval (.BoolOp op (y::rest) p) env) Q E s₁:=
   fun e α₁ s₁ S r₁ er₁=>zt K T (y::rest) σ₁ W σ' e E Q s₁ α₁ r₁ er₁ fun v α' s' S' R _=>h v α' s' (S.trans S') R fun q=>by cases q
  refine acp e ?_ ?_ ?_ ?_<;>clear e<;>intro ho hb e<;>subst ho hb
  ·(revert h;apply du e;clear e;intro h)
   refine BoolOp_and ((T _ _ _ _ e1).then K r er fun v α₁ s₁ S R r₁ er₁=>?_)
   (refine yv R.data ?_;intro hq;subst hq)
   exact wpAny_truthy_bool (h _ _ _ S (.d (.bool _)) fun q=>by cases q)
  ·refine BoolOp_and ((T _ _ _ _ e1).then K r er fun v α₁ s₁ S R r₁ er₁=>?_)
   (refine yv R.data ?_;intro hq;subst hq)
   exact wpAny_truthy_bool (next e _ _ S r₁ er₁)
  ·(revert h;apply du e;clear e;intro h)
   refine BoolOp_or ((T _ _ _ _ e1).then K r er fun v α₁ s₁ S R r₁ er₁=>?_)
   (refine yv R.data ?_;intro hq;subst hq)
   exact wpAny_truthy_bool (h _ _ _ S (.d (.bool _)) fun q=>by cases q)
  ·refine BoolOp_or ((T _ _ _ _ e1).then K r er fun v α₁ s₁ S R r₁ er₁=>?_)
   (refine yv R.data ?_;intro hq;subst hq)
   exact wpAny_truthy_bool (next e _ _ S r₁ er₁)
theorem aap (K:EnvOk C env sc X) (T:bu C A env X ρ ev){evt:Expr→Sto→Option (Bool×Sto)}(TT:∀e σ b σ',evt e σ=some (b,σ')→uj C A env X ρ e σ b σ'){t b o:Expr}{p:Pos}
  (e:((evt t σ).bind fun p=>if p.1 then ev b p.2 else ev o p.2)=some (W,σ')):Snd C A env X ρ (.IfExp t b o p) σ W σ':=by
 intro E Q s α r er h
 refine ag e ?_;clear e;intro c σ₁ e1 e
 refine IfExp_ (TT _ _ _ _ e1 E _ s α r er fun α₁ s₁ S=>?_)
 cases c with
 |true=>exact T _ _ _ _ e E Q s₁ α₁ S.srel (b0.step K r S er) fun v α' s' S' R _=>h v α' s' (S.trans S') R fun q=>by cases q
 |false=>exact T _ _ _ _ e E Q s₁ α₁ S.srel (b0.step K r S er) fun v α' s' S' R _=>h v α' s' (S.trans S') R fun q=>by cases q
theorem um{e:Expr}{rest:List Expr}(h:∀x p,e≠.Starred x p):starEach (e::rest) env=(false,eval e env)::starEach rest env:=by
 cases e<;>first|rfl|exact absurd rfl (h _ _)
theorem xf(N:di ev){e:Expr}{r:V×Sto}(h:ev e σ=some r):∀x p,e≠.Starred x p:=fun x p q=>by rw[q,N.1]at h;cases h
theorem a80 (K:EnvOk C env sc X) (T:bu C A env X ρ ev) (N:di ev){p:Pos}:∀(es:List Expr) (σ:Sto) (Ws:List V) (σ':Sto),fj ev es σ=some (Ws,σ')→
  ∀(E:Value→Shared→Prop) (Q:List Value→Shared→Prop) (s:Shared) (α:a7),SRel C X α σ s.heap→b0 C env ρ X α σ s.heap→
   (∀vs α' s',Step C X α σ s α' σ' s'→RepVs C s'.heap (Bad X σ' α') α' vs Ws→Q vs s')→wpAny (model C.prog C.w) A (spliced (backTo p (starEach es env))) Q E s
 |[],σ,Ws,σ',e,E,Q,s,α,r,er,h=>by
  revert h;apply du e;clear e;intro h
  exact args_nil (h _ _ _ (Step.refl r) .nil)
 |x::rest,σ,Ws,σ',e,E,Q,s,α,r,er,h=>by
  refine ag e ?_;clear e;intro V₁ σ₁ e1 e
  refine nt e ?_;clear e;intro Vs σ₂ e2 e
  (revert h;apply re2 e;clear e;intro h)
  refine args_cons ((T _ _ _ _ e1).then K r er fun v α₁ s₁ S R r₁ er₁=>?_) (um (xf N e1))
  exact a80 K T N rest σ₁ Vs _ e2 E _ s₁ α₁ r₁ er₁ fun vs α₂ s₂ S' Rs=>h _ _ _ (S.trans S') (.cons (S'.repV r₁ R) Rs)
theorem a77 (K:EnvOk C env sc X) (T:bu C A env X ρ ev) (N:di ev){p:Pos}:∀(es:List Expr) (σ:Sto) (ds:List D) (σ':Sto),a05 ev es σ=some (ds,σ')→
  ∀(E:Value→Shared→Prop) (Q:List Value→Shared→Prop) (s:Shared) (α:a7),SRel C X α σ s.heap→b0 C env ρ X α σ s.heap→
   (∀vs α' s',Step C X α σ s α' σ' s'→RepDs C s'.heap (Bad X σ' α') vs ds→Q vs s')→wpAny (model C.prog C.w) A (spliced (backTo p (starEach es env))) Q E s
 |[],σ,ds,σ',e,E,Q,s,α,r,er,h=>by
  revert h;apply du e;clear e;intro h
  exact args_nil (h _ _ _ (Step.refl r) .nil)
 |x::rest,σ,ds,σ',e,E,Q,s,α,r,er,h=>by
  refine ag e ?_;clear e;intro V₁ σ₁ e1 e
  refine ag e ?_;clear e;intro d σ₂ e2 e
  refine nt e ?_;clear e;intro ds' σ₃ e3 e
  (revert h;apply re2 e;clear e;intro h)
  refine args_cons ((T _ _ _ _ e1).then K r er fun v α₁ s₁ S R r₁ er₁=>?_) (um (xf N e1))
  refine bk (kj r₁ R e2) ?_;intro S' R'
  exact a77 K T N rest σ₂ ds' _ e3 E _ s₁ α₁ S'.srel (b0.step K r₁ S' er₁) fun vs α₂ s₂ S'' Rs=>h _ _ _ ((S.trans S').trans S'') (.cons (S''.repD S'.srel R') Rs)
theorem nh:∀(es:List Expr)(σ:Sto)(ds:List D)(σ':Sto),a05 ev es σ=some (ds,σ')→ds.length=es.length
 |[],σ,ds,σ',e=>by cases e;rfl
 |x::rest,σ,ds,σ',e=>by
  refine ag e ?_;clear e;intro V₁ σ₁ e1 e
  refine ag e ?_;clear e;intro d σ₂ e2 e
  refine nt e ?_;clear e;intro ds' σ₃ e3 e
  (apply re2 e;clear e)
  simp[nh rest σ₂ ds' _ e3]
theorem a9e (K:EnvOk C env sc X) (T:bu C A env X ρ ev) (N:di ev){es:List Expr}{k:_}{p:Pos}(e:(if 1000<es.length then none else(a05 ev es σ).map fun p=>(V.d (.tuple p.1),p.2))=some (W,σ')):
  Snd C A env X ρ (.Tuple es k p) σ W σ':=by
 intro E Q s α r er h
 (refine ai e ?_ ?_<;>clear e<;>intro _ e)
 ·exact no e
 ·rename_i hl
  refine nt e ?_;clear e;intro ds σ₁ e1 e
  (revert h;apply re2 e;clear e;intro h)
  have len:=nh _ _ _ _ e1
  refine Tuple_ (a77 K T N es σ ds _ e1 E _ s α r er fun vs α₁ s₁ S R=>?_)
  have lv:=R.length
  have hz:vs.length≤1000001:=by exact ajb hl len lv
  refine bk (kx S.srel R hz s₁.toks 0) ?_;intro S' R'
  exact wpAny_newObj_type (h _ _ _ (S.trans S') (.d R') fun q=>by cases q) (by refine(?_:vs.toArray.size≤sizeLine);rw[List.size_toArray];unfold sizeLine;omega)
theorem aci (K:EnvOk C env sc X) (T:bu C A env X ρ ev) (N:di ev){es:List Expr}{p:Pos}(e:(if 1000<es.length then none else(a05 ev es σ).map fun p=>(V.d (.list p.1),p.2))=some (W,σ')):
  Snd C A env X ρ (.List es p) σ W σ':=by
 intro E Q s α r er h
 (refine ai e ?_ ?_<;>clear e<;>intro _ e)
 ·exact no e
 ·rename_i hl
  refine nt e ?_;clear e;intro ds σ₁ e1 e
  (revert h;apply re2 e;clear e;intro h)
  have len:=nh _ _ _ _ e1
  refine List_ (a77 K T N es σ ds _ e1 E _ s α r er fun vs α₁ s₁ S R=>?_)
  have lv:=R.length
  have hz:vs.length≤1000001:=by exact ajb hl len lv
  refine f5 (jg S.srel R hz s₁.toks 0) ?_;intro S' R' F
  exact wpAny_newObj_type (h _ _ _ (S.trans S') (.d R') fun _ xs q=>by cases q;exact F.early S.grow) (by refine(?_:vs.toArray.size≤sizeLine);rw[List.size_toArray];unfold sizeLine;omega)
theorem a21 (hu:A.units+64<cLine) (K:EnvOk C env sc X) (T:bu C A env X ρ ev){p:Pos}:∀(l:V) (ops:List CmpOp) (es:List Expr) (σ:Sto) (b:Bool) (σ':Sto),j5 ev l ops es σ=some (b,σ')→
  ∀(E:Value→Shared→Prop) (Q:Value→Shared→Prop) (s:Shared) (α:a7) (u:Value),SRel C X α σ s.heap→b0 C env ρ X α σ s.heap→RepV C s.heap (Bad X σ α) α u l→
   (∀α' s',Step C X α σ s α' σ' s'→Q (.bool b) s')→wpAny (model C.prog C.w) A (compareChain p u ops (evalEach es env)) Q E s
 |l,[op],[x],σ,b,σ',e,E,Q,s,α,u,r,er,ru,h=>by
  refine ag e ?_;clear e;intro V₁ σ₁ e1 e
  refine de e ?_;clear e;intro c e2 e
  (revert h;apply re2 e;clear e;intro h)
  refine chain_last ((T _ _ _ _ e1).then K r er fun v α₁ s₁ S R r₁ er₁=>?_)
  exact u9 hu r₁ (S.repV r ru) R e2 fun t=>h _ _ (S.trans (Step.tok r₁ t))
 |l,op::op'::ops,x::y::es,σ,b,σ',e,E,Q,s,α,u,r,er,ru,h=>by
  refine ag e ?_;clear e;intro V₁ σ₁ e1 e
  refine bj e ?_;clear e;intro c e2 e
  refine chain_link ((T _ _ _ _ e1).then K r er fun v α₁ s₁ S R r₁ er₁=>?_)
  refine u9 hu r₁ (S.repV r ru) R e2 fun t=>wpAny_truthy_bool ?_
  have S':=Step.tok r₁ (C:=C) (X:=X) (α:=α₁) (σ:=σ₁) (s:=s₁) t
  cases c with
  |true=>
   simp only[if_true]at e
   exact a21 hu K T V₁ (op'::ops) (y::es) σ₁ b σ' e E Q _ α₁ v S'.srel (b0.step K r₁ S' er₁) (S'.repV r₁ R) fun α' s' S''=>h _ _ ((S.trans S').trans S'')
  |false=>
   revert h;apply du e;clear e;intro h
   exact h _ _ (S.trans S')
 |l,[],es,σ,b,σ',e,_,_,_,_,_,_,_,_,_=>no e
 |l,[_],[],σ,b,σ',e,_,_,_,_,_,_,_,_,_=>no e
 |l,_::_::_,[],σ,b,σ',e,_,_,_,_,_,_,_,_,_=>no e
 |l,[op],x::y::es,σ,b,σ',e,_,_,_,_,_,_,_,_,_=>no e
 |l,op::op'::ops,[x],σ,b,σ',e,_,_,_,_,_,_,_,_,_=>no e
theorem a5w (hu:A.units+64<cLine) (K:EnvOk C env sc X) (T:bu C A env X ρ ev){p:Pos}:∀(l:V) (ops:List CmpOp) (es:List Expr) (σ:Sto) (b:Bool) (σ':Sto),j5 ev l ops es σ=some (b,σ')→
  ∀(E:Value→Shared→Prop) (Q:Bool→Shared→Prop) (s:Shared) (α:a7) (u:Value),SRel C X α σ s.heap→b0 C env ρ X α σ s.heap→RepV C s.heap (Bad X σ α) α u l→
   (∀α' s',Step C X α σ s α' σ' s'→Q b s')→wpAny (model C.prog C.w) A (testChain p u ops (evalEach es env)) Q E s
 |l,[op],[x],σ,b,σ',e,E,Q,s,α,u,r,er,ru,h=>by
  refine ag e ?_;clear e;intro V₁ σ₁ e1 e
  refine de e ?_;clear e;intro c e2 e
  (revert h;apply re2 e;clear e;intro h)
  refine test_last ((T _ _ _ _ e1).then K r er fun v α₁ s₁ S R r₁ er₁=>?_)
  exact u9 hu r₁ (S.repV r ru) R e2 fun t=>wpAny_truthy_bool (h _ _ (S.trans (Step.tok r₁ t)))
 |l,op::op'::ops,x::y::es,σ,b,σ',e,E,Q,s,α,u,r,er,ru,h=>by
  refine ag e ?_;clear e;intro V₁ σ₁ e1 e
  refine bj e ?_;clear e;intro c e2 e
  refine test_link ((T _ _ _ _ e1).then K r er fun v α₁ s₁ S R r₁ er₁=>?_)
  refine u9 hu r₁ (S.repV r ru) R e2 fun t=>wpAny_truthy_bool ?_
  have S':=Step.tok r₁ (C:=C) (X:=X) (α:=α₁) (σ:=σ₁) (s:=s₁) t
  cases c with
  |true=>
   simp only[if_true]at e
   exact a5w hu K T V₁ (op'::ops) (y::es) σ₁ b σ' e E Q _ α₁ v S'.srel (b0.step K r₁ S' er₁) (S'.repV r₁ R) fun α' s' S''=>h _ _ ((S.trans S').trans S'')
  |false=>
   revert h;apply du e;clear e;intro h
   exact h _ _ (S.trans S')
 |l,[],es,σ,b,σ',e,_,_,_,_,_,_,_,_,_=>no e
 |l,[_],[],σ,b,σ',e,_,_,_,_,_,_,_,_,_=>no e
 |l,_::_::_,[],σ,b,σ',e,_,_,_,_,_,_,_,_,_=>no e
 |l,[op],x::y::es,σ,b,σ',e,_,_,_,_,_,_,_,_,_=>no e
 |l,op::op'::ops,[x],σ,b,σ',e,_,_,_,_,_,_,_,_,_=>no e
theorem a45 (hu:A.units+64<cLine) (K:EnvOk C env sc X) (T:bu C A env X ρ ev){l:Expr}{ops:List CmpOp}{es:List Expr}{p:Pos}
  (e:(if lastMarks ops es then none else(ev l σ).bind fun p=>(j5 ev p.1 ops es p.2).map fun q=>(V.d (.bool q.1),q.2))=some (W,σ')):Snd C A env X ρ (.Compare l ops es p) σ W σ':=by
 intro E Q s α r er h
 (refine ai e ?_ ?_<;>clear e<;>intro _ e)
 ·exact no e
 ·rename_i hm
  refine ag e ?_;clear e;intro V₁ σ₁ e1 e
  refine nt e ?_;clear e;intro b σ₂ e2 e
  (revert h;apply re2 e;clear e;intro h)
  refine(?_:wpAny _ A (do compareChain p (←eval l env) ops (markedEach ops es (evalEach es env))) Q E s)
  rw[markedEach_of_false _ _ _ (by simpa using hm)]
  exact wpAny_bind ((T _ _ _ _ e1).then K r er fun v α₁ s₁ S R r₁ er₁=>a21 hu K T V₁ ops es σ₁ b _ e2 E Q s₁ α₁ v r₁ er₁ R fun α' s' S'=>h _ _ _ (S.trans S') (.d (.bool _)) fun q=>by cases q)
theorem a3t (hu:A.units+64<cLine) (K:EnvOk C env sc X) (T:bu C A env X ρ ev){l:Expr}{ops:List CmpOp}{es:List Expr}{p:Pos}{b:Bool}
  (e:(if lastMarks ops es then none else(ev l σ).bind fun p=>(j5 ev p.1 ops es p.2).map fun q=>(V.d (.bool q.1),q.2))=some (.d (.bool b),σ')):uj C A env X ρ (.Compare l ops es p) σ b σ':=by
 intro E Q s α r er h
 (refine ai e ?_ ?_<;>clear e<;>intro _ e)
 ·exact no e
 ·rename_i hm
  refine ag e ?_;clear e;intro V₁ σ₁ e1 e
  refine nt e ?_;clear e;intro b σ₂ e2 e
  cases e
  refine(?_:wpAny _ A (do testChain p (←eval l env) ops (markedEach ops es (evalEach es env))) Q E s)
  rw[markedEach_of_false _ _ _ (by simpa using hm)]
  exact wpAny_bind ((T _ _ _ _ e1).then K r er fun v α₁ s₁ S R r₁ er₁=>a5w hu K T V₁ ops es σ₁ b _ e2 E Q s₁ α₁ v r₁ er₁ R fun α' s' S'=>h _ _ (S.trans S'))
theorem acu (TT:yr C A env X ρ ev){x:Expr}{p:Pos}{c:Bool}(e:((ev x σ).bind fun p=>match p.1 with|.d (.bool b)=>some (V.d (.bool !b),p.2)|_=>none)=some (.d (.bool c),σ')):uj C A env X ρ (.UnaryOp .Not x p) σ c σ':=by
 intro E Q s α r er h
 refine ag e ?_;clear e;intro V₁ σ₁ e1 e
 refine vbE e ?_;clear e;intro b hb e;subst hb
 cases e
 exact isTrue_not (TT _ _ _ _ e1 E _ s α r er fun α₁ s₁ S=>h _ _ S)
theorem vy (K:EnvOk C env sc X) (TT:yr C A env X ρ ev){op:BoolOp}{p:Pos}:∀(es:List Expr) (σ:Sto) (b:Bool) (σ':Sto),km ev op es σ=some (.d (.bool b),σ')→uj C A env X ρ (.BoolOp op es p) σ b σ'
 |[],_,_,_,e=>by exact no e
 |[x],σ,b,σ',e=>by
  intro E Q s α r er h
  have:=TT _ _ _ _ e
  cases op with
  |And=>
   refine isTrue_and (this E _ s α r er fun α₁ s₁ S=>?_)
   cases b with
   |true=>exact isTrue_and_nil (h _ _ S)
   |false=>exact h _ _ S
  |Or=>
   refine isTrue_or (this E _ s α r er fun α₁ s₁ S=>?_)
   cases b with
   |true=>exact h _ _ S
   |false=>exact isTrue_or_nil (h _ _ S)
 |x::y::rest,σ,b,σ',e=>by
  intro E Q s α r er h
  refine ag e ?_;clear e;intro V₁ σ₁ e1 e
  have next:km ev op (y::rest) σ₁=some (.d (.bool b),σ')→∀α₁ s₁,Step C X α σ s α₁ σ₁ s₁→wpAny (model C.prog C.w) A (isTrue (.BoolOp op (y::rest) p) env (eval (.BoolOp op (y::rest) p) env)) Q E s₁:=
   fun e α₁ s₁ S=>vy K TT (y::rest) σ₁ b σ' e E Q s₁ α₁ S.srel (b0.step K r S er) fun α' s' S'=>h α' s' (S.trans S')
  refine acp e ?_ ?_ ?_ ?_<;>clear e<;>intro ho hb e<;>subst ho hb
  ·cases e
   exact isTrue_and (TT _ _ _ _ e1 E _ s α r er fun α₁ s₁ S=>h _ _ S)
  ·exact isTrue_and (TT _ _ _ _ e1 E _ s α r er fun α₁ s₁ S=>next e _ _ S)
  ·cases e
   exact isTrue_or (TT _ _ _ _ e1 E _ s α r er fun α₁ s₁ S=>h _ _ S)
  ·exact isTrue_or (TT _ _ _ _ e1 E _ s α r er fun α₁ s₁ S=>next e _ _ S)
theorem a7o (K:EnvOk C env sc X) (TT':yr C A env X ρ ev){evt:Expr→Sto→Option (Bool×Sto)}(TT:∀e σ b σ',evt e σ=some (b,σ')→uj C A env X ρ e σ b σ'){t b o:Expr}{p:Pos}{c:Bool}
  (e:((evt t σ).bind fun p=>if p.1 then ev b p.2 else ev o p.2)=some (.d (.bool c),σ')):uj C A env X ρ (.IfExp t b o p) σ c σ':=by
 intro E Q s α r er h
 refine ag e ?_;clear e;intro c' σ₁ e1 e
 refine isTrue_IfExp (TT _ _ _ _ e1 E _ s α r er fun α₁ s₁ S=>?_)
 cases c' with
 |true=>exact TT' _ _ _ _ e E Q s₁ α₁ S.srel (b0.step K r S er) fun α' s' S'=>h α' s' (S.trans S')
 |false=>exact TT' _ _ _ _ e E Q s₁ α₁ S.srel (b0.step K r S er) fun α' s' S'=>h α' s' (S.trans S')
theorem zz (K:EnvOk C env sc X){x:Expr}{c:Bool}(h':Snd C A env X ρ x σ (.d (.bool c)) σ')
  (he:isTrue x env (eval x env)=(do let v←eval x env;standAt x.pos;holding [v] (truthy v))):uj C A env X ρ x σ c σ':=by
 intro E Q s α r er h
 refine isTrue_plain (h'.then K r er fun v α₁ s₁ S R r₁ er₁=>?_) he
 (refine yv R.data ?_;intro hq;subst hq)
 exact wpAny_truthy_bool (h _ _ S)
end
section
variable{C:Cfg}{A:Around}{env:Env}{X:Addr→Prop}{ρ:Rho}{sc:Scope}{ev:Expr→Sto→Option (V×Sto)}{σ σ':Sto}{W:V}
theorem xj{α:a7}{p:Addr×Addr}(len:α.length=σ.objs.length):(α++[p])[σ.objs.length]?=some p:=by rw[←len];simp
theorem adn{s s':Shared}{α α':a7}{v:Value}{xs:List D}(r:SRel C X α σ s.heap) (S:Step C X α σ s α' σ' s') (F:pc C X α' σ' s s' v xs):
  ∃α'',Step C X α σ s α'' (σ'.alloc (.list xs)).2 s'∧RepV C s'.heap (Bad X (σ'.alloc (.list xs)).2 α'') α'' v (σ'.alloc (.list xs)).1:=by
 obtain⟨a,vs,rfl,h1,h2,h3,h4,h5⟩:=F
 have len:=S.srel.len
 refine⟨α'++[(a,a)],Step.adopt (p:=(a,a)) (h':=s'.heap) r S h5 (fun b=>by simp) h1 h1 (fun _ _ _ _ e=>e) (Nat.le_refl _) ?_ s'.toks,.m (p:=(a,a)) (xj len)⟩
 refine⟨rfl,vs,h2,h3,h4.mono (fun _ _ _ e=>e) fun b o _ nb m=>nb ?_⟩
 rcases m with m|m
 ·exact .inl (.inl m)
 ·rcases Mut.alloc_sub len b m with m|m|m
  ·exact .inl (.inr m)
  ·exact .inr m
  ·exact .inr m
theorem aoj{P:Prop}{v:V}{r:V×Sto}(e:some (a6k σ v)=some r)(k1:∀xs,v=.d (.list xs)→σ.alloc (.list xs)=r→P)(k2:(v,σ)=r→P):P:=by
 have e:=Option.some.inj e
 cases v with
 |m=>exact k2 e
 |d x=>cases x with
  |list=>exact k1 _ rfl e
  |_=>exact k2 e
theorem ani (T:bu C A env X ρ ev){x:Expr}(e:((ev x σ).bind fun p=>some (if gx x then a6k p.2 p.1 else p))=some (W,σ')):x7 C A env X ρ false (eval x env) σ W σ':=by
 intro E Q s α r er h
 refine ag e ?_;clear e;intro V₁ σ₁ e1 e
 refine T _ _ _ _ e1 E Q s α r er fun v α₁ s₁ S R F=>?_
 cases hf:gx x with
 |false=>rw[hf]at e;(revert h;apply du e;clear e;intro h);exact h _ _ _ S R fun q=>by cases q
 |true=>
  rw[hf]at e
  refine aoj e (fun xs hv e=>?_) fun e=>?_
  ·refine ar (adn r S (F hf _ hv)) ?_;intro α₂ S' R'
   (revert h;apply re2 e;clear e;intro h)
   exact h _ _ _ S' R' fun q=>by cases q
  ·(revert h;apply re2 e;clear e;intro h);exact h _ _ _ S R fun q=>by cases q
theorem y2 (K:EnvOk C env sc X) (T:bu C A env X ρ ev){l:Option Expr}{o:Option Int}(e:evO ev l σ=some (o,σ')):∀(E:Value→Shared→Prop) (Q:Value→Shared→Prop) (s:Shared) (α:a7),SRel C X α σ s.heap→b0 C env ρ X α σ s.heap→
  (∀v α' s',Step C X α σ s α' σ' s'→IsPart v o→Q v s')→wpAny (model C.prog C.w) A (evalPart l env) Q E s:=by
 intro E Q s α r er h
 cases l with
 |none=>
  revert h;apply du e;clear e;intro h
  rw[evalPart_none]
  exact wpAny_pure (h _ _ _ (Step.refl r) .none)
 |some x=>
  refine ag e ?_;clear e;intro V₁ σ₁ e1 e
  refine viE e ?_;clear e;intro b hb e;subst hb
  (revert h;apply du e;clear e;intro h)
  rw[evalPart_some]
  refine(T _ _ _ _ e1).then K r er fun v α₁ s₁ S R r₁ er₁=>gd R.data fun t ht=>?_
  subst ht
  exact h _ _ _ S (.int _ _)
theorem aa2 (b n:Nat) (hb:b≤n):Builtin.Slice.sliceAdjust none (some (b:Int)) 1 (n:Int)=(0,(b:Int)):=by
 unfold Builtin.Slice.sliceAdjust
 have h1:¬((1:Int)<0):=by omega
 have h2:¬((b:Int)<0):=by grind
 simp only[h1,h2,if_false]
 congr 1
 grind
theorem aa6 (b:Nat):Builtin.Slice.slicePlaces 0 (b:Int) 1=b:=by
 unfold Builtin.Slice.slicePlaces
 have h1:(1:Int) > 0:=by omega
 simp only[h1,if_true,Int.ediv_one]
 split<;>lia
section
variable{prog:Program}{w:World}{E:Value→Shared→Prop}{s:Shared}
theorem wq{sl:Addr}{b n:Nat}{u:Tok}{Q:Int×Int×Nat→Shared→Prop}(hs:s.heap.IsSliceOf sl .none (.int b u) .none) (hb:b≤n) (h:Q (0,1,b) s):
  wpAny (model prog w) A (Builtin.Slice.sliceApplied (.ref sl) (pure (n:Int))) Q E s:=by
 refine dz (id hs) ?_;intro os hos hcs hds
 refine wpAny_bind (wpAny_bind (wpAny_field hos hds (x:=.none) rfl (wpAny_bind (wpAny_field hos hds (x:=.int b u) rfl (wpAny_bind (wpAny_field hos hds (x:=.none) rfl (wpAny_pure ?_)))))))
 refine wpAny_bind (slicePart_none ?_)
 refine (?_:wpAny _ _ (if ((1:Int)==0)=true then _ else _) _ _ s)
 rw[if_neg (by decide)]
 refine wpAny_bind (slicePart_none (wpAny_bind (slicePart_int (wpAny_bind (wpAny_pure ?_)))))
 refine (?_:wpAny _ _ (match Builtin.Slice.sliceAdjust none (some (b:Int)) 1 (n:Int) with|(lo,hi)=>pure (lo,(1:Int),Builtin.Slice.slicePlaces lo hi 1)) _ _ s)
 rw[aa2 b n hb]
 refine (?_:wpAny _ _ (pure ((0:Int),(1:Int),Builtin.Slice.slicePlaces 0 (b:Int) 1)) _ _ s)
 rw[aa6 b]
 exact wpAny_pure h
theorem af8(xs:Array Value)(b:Nat)(hb:b≤xs.size):((List.range b).filterMap fun(k:Nat)=>xs[((0:Int)+(k:Int)*1).toNat]?).toArray=(xs.toList.take b).toArray:=by
 have e:(fun(k:Nat)=>xs[((0:Int)+(k:Int)*1).toNat]?)=fun k=>xs[0+k]?:=by
  funext k
  have:((0:Int)+(k:Int)*1).toNat=0+k:=by grind
  rw[this]
 rw[e]
 have:=pick_run xs 0 b
 rw[List.filterMap_map]at this
 have e2:((fun x=>xs[x]?)∘fun x=>0+x)=fun k=>xs[0+k]?:=rfl
 rw[e2]at this
 rw[this,List.drop_zero]
theorem va {t sl:Addr}{items:Array Value}{b:Nat}{u:Tok}{Q:Value→Shared→Prop}(ht:IsTup s.heap t items) (hs:s.heap.IsSliceOf sl .none (.int b u) .none) (hb:b<items.size)
  (h:Q (.ref s.heap.objs.size) {s with heap:=s.heap.push {cls:=.type "tuple",data:=.seq (items.toList.take b).toArray}})
  (hsz:items.size≤sizeLine:=by size_fits):wpAny (model prog w) A (getItem (.ref t) (.ref sl)) Q E s:=by
 have htake:sizeOk (.seq (items.toList.take b).toArray):=by
  refine(?_:(items.toList.take b).toArray.size≤sizeLine)
  rw[List.size_toArray,List.length_take,Array.length_toList]
  exact apf hsz
 refine dz (id hs) ?_;intro os hos hcs hds
 have hTs:s.TypeIs (.ref sl) "slice":=⟨os,hos,hcs⟩
 unfold getItem
 try with_reducible refine wpAny_holding ?_
 first|refine wpAny_bind (wpAny_pure ?_)|skip
 refine wpAny_bind (wpAny_sequenceKey ht.typeIs (by decide) ?_)
 refine wpAny_bind (wpAny_callSpecial?_slot (name:=Str.ofString "__getitem__") ht.typeIs slot_tuple_getitem
  (wpAny_call_entry slot_tuple_getitem ht.typeIs entry_tuple_getitem ?_ (args_tuple_getitem _ _)))
 refine(?_:wpAny _ _ (Builtin.Tuple.tupleItemsOf (.ref t) >>=_) _ _ s)
 refine wpAny_bind (tupleItemsOf_ ht ?_)
 refine wpAny_bind (wpAny_typeOf hTs ?_)
 rw[if_pos (by decide)]
 refine wpAny_bind (wq hs (Nat.le_of_lt hb) ?_)
 have hno:¬(((0:Int)==0&&(1:Int)==1&&b==items.size)=true):=by
  have:(b==items.size)=false:=by rw[beq_eq_false_iff_ne];exact aq9 hb
  rw[this];simp
 refine(?_:wpAny _ _ (if((0:Int)==0&&(1:Int)==1&&b==items.size)=true then _ else _) _ _ s)
 rw[if_neg hno,af8 items b (Nat.le_of_lt hb)]
 first
  |exact wpAny_bind (m:=Builtin.Tuple.tupleExact _) (wpAny_newObj_type (wpAny_pure ⟨_,rfl,wpAny_pure h⟩) htake)
  |exact wpAny_bind (m:=Builtin.Tuple.tupleExact _) (wpAny_newObj_type (wpAny_bind (wpAny_pure (wpAny_pure ⟨_,rfl,wpAny_pure h⟩))) htake)
  |exact wpAny_bind (wpAny_bind (m:=Builtin.Tuple.tupleExact _) (wpAny_newObj_type (wpAny_pure (wpAny_pure ⟨_,rfl,wpAny_pure h⟩)) htake))
end
theorem vg.keepAll{α:a7}{h h':Heap}{v:Value}{d:D}(r:vg C h (Bad X σ α) v d) (hk:∀a o,h.get? a=some o→h'.get? a=some o):vg C h' (Bad X σ α) v d:=by
 cases d with
 |list ds=>
  refine yh r ?_;clear r;intro a vs h1 pq3 h3 h4;obtain⟨n,h2⟩:=pq3
  exact⟨a,vs,h1,⟨n,hk _ _ h2⟩,h3,h4.mono (fun b o _ e=>hk b o e) fun _ _ _=>id⟩
 |_=>exact RepD.mono (fun b o _ e=>hk b o e) (fun _ _ _=>id) r
theorem ags{P:D→Option Int→Option Int→Option Int→V→Sto→Prop}{l u z:Option Int}{x:D}(e:(match x,z with
     |.list xs,none=>some (V.d (.list (cut xs l u)),σ)
     |.tuple xs,none=>(match l,u with|none,some b=>if 1≤b∧b<xs.length then some (.d (.tuple (xs.take b.toNat)),σ) else none|_,_=>none)
     |.list xs,some (-1)=>if l.isNone&&u.isNone then some (.d (.list xs.reverse),σ) else none
     |_,_=>none)=some (W,σ')) (k1:∀xs l u,P (.list xs) none l u (.d (.list (cut xs l u))) σ) (k2:∀xs (b:Nat),b<xs.length→P (.tuple xs) none none (some (b:Int)) (.d (.tuple (xs.take b))) σ) (k3:∀xs,P (.list xs) (some (-1)) none none (.d (.list xs.reverse)) σ):P x z l u W σ':=by
 cases x with
 |list xs=>cases z with
  |none=>exact du e (k1 xs l u)
  |some i=>
   by_cases hi:i=-1
   ·subst hi
    refine ai e (fun q e=>?_) fun _ e=>no e
    cases l with
    |some _=>cases q
    |none=>cases u with
     |some _=>cases q
     |none=>exact du e (k3 xs)
   ·rcases i with i|(_|i)
    ·exact no e
    ·exact absurd rfl hi
    ·exact no e
 |tuple xs=>cases z with
  |some _=>exact no e
  |none=>cases l with
   |some _=>exact no e
   |none=>cases u with
    |none=>exact no e
    |some b=>
     refine ai e (fun hb e=>?_) fun _ e=>no e
     obtain⟨n,rfl⟩:=Int.eq_ofNat_of_zero_le (Int.le_trans (by decide:(0:Int)≤1) hb.1)
     exact du e (k2 xs n (Int.ofNat_lt.mp hb.2))
 |_=>exact no e
theorem af2{l u st:Option Expr}{q:Pos}(v w:Value):∃ops,subscripted (.Slice l u st q) false v w=operate ops (getItem v w):=by
 cases st with
 |none=>exact⟨_,rfl⟩
 |some _=>exact⟨_,rfl⟩
theorem a3g{vs:List Value}(hn:vs.length≤1000001):vs.toArray.size≤sizeLine:=by rw[List.size_toArray];unfold sizeLine;lia
theorem aa7 (K:EnvOk C env sc X) (T:bu C A env X ρ ev) {o:Expr} {l u st:Option Expr} {q p:Pos}
  (e:((ev o σ).bind fun p=>(evO ev l p.2).bind fun ql=>(evO ev u ql.2).bind fun qu=>(evO ev st qu.2).bind fun qs=>if !(qu.1.all eh&&ql.1.all eh) then none else
   (peek qs.2 p.1).bind fun x=>match x,qs.1 with
    |.list xs,none=>some (V.d (.list (cut xs ql.1 qu.1)),qs.2)
    |.tuple xs,none=>(match ql.1,qu.1 with|none,some b=>if 1≤b∧b<xs.length then some (.d (.tuple (xs.take b.toNat)),qs.2) else none|_,_=>none)
    |.list xs,some (-1)=>if ql.1.isNone&&qu.1.isNone then some (.d (.list xs.reverse),qs.2) else none
    |_,_=>none)=some (W,σ')):x7 C A env X ρ true (eval (.Subscript o (.Slice l u st q) p) env) σ W σ':=by
 intro E Q s α r er h
 refine ag e ?_;clear e;intro V₁ σ₁ e1 e
 refine ag e ?_;clear e;intro ol σ₂ e2 e
 refine ag e ?_;clear e;intro ou σ₃ e3 e
 refine ag e ?_;clear e;intro os σ₄ e4 e
 refine ai e (fun _ e=>no e) ?_;clear e;intro hn e
 refine bj e ?_;clear e;intro x e5 e
 have hn':=nn2 hn
 refine Subscript_ ((T _ _ _ _ e1).then K r er fun v α₁ s₁ S₁ R r₁ er₁=>wpAny_Slice (y2 K T e2 E _ s₁ α₁ r₁ er₁ fun wl α₂ s₂ S₂ pl=>y2 K T e3 E _ s₂ α₂ S₂.srel (b0.step K r₁ S₂ er₁) fun wu α₃ s₃ S₃ pu=>
  y2 K T e4 E _ s₃ α₃ S₃.srel (b0.step K S₂.srel S₃ (b0.step K r₁ S₂ er₁)) fun ws α₄ s₄ S₄ ps=>ex1 (af2 (l:=l) (u:=u) (st:=st) (q:=q) v (.ref s₄.heap.objs.size)) fun ops hops=>?_))
 have S:=((S₁.trans S₂).trans S₃).trans S₄
 have r₄:=S.srel
 have RT:=(S₄.repV S₃.srel (S₃.repV S₂.srel (S₂.repV r₁ R))).peek r₄ e5
 have S₅:=Step.push r₄ {cls:=.type "slice",data:=.fields #[wl,wu,ws]} s₄.toks
 have hsl:(s₄.heap.push {cls:=.type "slice",data:=.fields #[wl,wu,ws]}).IsSliceOf s₄.heap.objs.size wl wu ws:=Heap.IsSliceOf.new ..
 have RT':=RT.keepAll (h':=s₄.heap.push {cls:=.type "slice",data:=.fields #[wl,wu,ws]}) fun a ob e=>Heap.get?_push_of_some _ e
 clear r er e1 e2 e3 e4 e5 RT
 revert RT' pl pu ps hn' h
 dsimp only at e
 apply ags e
 ·intro xs ol ou h hn' pl pu ps RT'
  refine yh RT' fun a vs hv hl hn rs=>?_
  subst hv
  refine tail_any (a1m rfl hl) slot_list_getitem.lookup ?_ hops
  refine wpAny_getItem_list_slice (PlainList.isList hl) hsl pl pu ps (by simp) ?_ (a3g hn)
  rw[a09 _ _ _ hn'.2 hn'.1]
  refine f5 (jg S₅.srel (rs.cut ol ou) (by unfold cut;rw[List.length_drop,List.length_take];exact apy hn) s₄.toks 0) fun S₆ R₆ F=>?_
  exact h _ _ _ ((S.trans S₅).trans S₆) (.d R₆) fun _ xs' q=>by cases q;exact F.early (Nat.le_trans S.grow S₅.grow)
 ·intro xs b hb h hn' pl pu ps RT'
  refine adk (v:=v) RT' fun a vs hv hl nb hn rs=>?_
  have lv:=rs.length
  subst hv
  cases pl
  cases ps
  cases pu
  refine tail_any (T:="tuple") (dz hl fun o ho hc _=>⟨o,ho,hc⟩) slot_tuple_getitem.lookup ?_ hops
  refine va (b:=b) hl hsl (by rw[List.size_toArray];exact apd hb lv) ?_ (a3g hn)
  refine bk (kx S₅.srel (rs.take b) (by rw[List.length_take];exact apz hn) s₄.toks 0) fun S₆ R₆=>?_
  exact h _ _ _ ((S.trans S₅).trans S₆) (.d R₆) fun _ xs' q=>by cases q
 ·intro xs h hn' pl pu ps RT'
  refine yh RT' fun a vs hv hl hn rs=>?_
  subst hv
  refine tail_any (a1m rfl hl) slot_list_getitem.lookup ?_ hops
  refine wpAny_getItem_list_slice (PlainList.isList hl) hsl pl pu ps (by simp) ?_ (a3g hn)
  rw[krv_pick]
  refine f5 (jg S₅.srel rs.reverse (by rw[List.length_reverse];exact hn) s₄.toks 0) fun S₆ R₆ F=>?_
  exact h _ _ _ ((S.trans S₅).trans S₆) (.d R₆) fun _ xs' q=>by cases q;exact F.early (Nat.le_trans S.grow S₅.grow)
theorem RepKVs.setKey{h:Heap}{B:Addr→Prop}{α:a7}{k:D}{v:Value}{x:V}(a:RepV C h B α v x){l:List (D×Value)}{ds:List (D×V)}(r:RepKVs C h B α l ds):RepKVs C h B α (Mini.Internal.setKey k v l) (Mini.Internal.setKey k x ds):=by
 induction r with
 |nil=>exact .cons a .nil
 |cons b r ih=>
  rename_i k' _ _ _ _
  show RepKVs C h B α (if D.beq k' k=true then (k',v)::_ else (k',_)::Mini.Internal.setKey k v _) (if D.beq k' k=true then (k',x)::_ else (k',_)::Mini.Internal.setKey k x _)
  cases D.beq k' k with
  |true=>exact .cons a r
  |false=>exact .cons b ih
theorem a5m {E:Value→Shared→Prop}{s:Shared}{B:Addr→Prop}{a:Addr}{kd kd':Kd}{kvs:List (D×Value)}{k:D}{u:Value}{Q:Unit→Shared→Prop}{v:Value}(x:bb C s.heap B a kd kvs) (r:RepD C s.heap B u k) (hr:kvs.length≤1000000) (ha:kd.takes k=some kd')
  (ht:(k.kind==.tup)=false) (h:∀h' t,Heap.SameBut a s.heap h'→bb C h' B a kd' (setKey k v kvs)→Q () {s with heap:=h',toks:=t}):
  wpAny (model C.prog C.w) A (dictSet a u v) Q E s:=by
 refine f5 (a5j ha) ?_;intro hk rf1 he;subst rf1
 have hz:kvs.length≤sizeLine:=Nat.le_trans hr (by decide)
 have hlen:(setKey k v kvs).length≤1000001:=Nat.le_trans (gz kvs) (Nat.succ_le_succ hr)
 refine a0y x r hk he (fun K _ knd en z l hq h1 hk' hl hd back _=>?_) fun z ka l hk' hu' nka hka h1 hl hd hBl ht'=>by rw[ht']at ht;cases ht
 clear x r ha he hr
 subst hk';subst hl
 rw[List.length_map]at hz
 have e:=yw en (v:=v) (z:=z) (zw hd)
 refine wpAny_dictSet_pairs hq hd (fun h' hd' hs=>h h' _ hs ?_) hz
 rw[e]at hlen ⊢
 exact back h' _ hd' hlen
inductive Folds (C:Cfg) (h:Heap) (B:Addr→Prop) (α:a7):List (Value×Value)→Kd→List (D×V)→Kd→List (D×V)→Prop
 |nil{kd:Kd}{acc:List (D×V)}:Folds C h B α [] kd acc kd acc
 |cons{u v:Value}{x:D}{w:V}{vs:List (Value×Value)}{kd kd₁ kd':Kd}{acc acc':List (D×V)}:RepD C h B u x→(x.kind==.tup)=false→kd.takes x=some kd₁→RepV C h B α v w→Folds C h B α vs kd₁ (Mini.Internal.setKey x w acc) kd' acc'→
  Folds C h B α ((u,v)::vs) kd acc kd' acc'
theorem sf {E:Value→Shared→Prop}{B:Addr→Prop}{α:a7}{a:Addr}(hB:B a):∀(vs:List (Value×Value)) (kd:Kd) (l:List (D×Value)) (acc:List (D×V)) (kd':Kd) (acc':List (D×V)) (s:Shared) (Q:Unit→Shared→Prop),
  bb C s.heap B a kd l→RepKVs C s.heap B α l acc→Folds C s.heap B α vs kd acc kd' acc'→l.length+vs.length≤1000000→
  (∀h' t l',Heap.SameBut a s.heap h'→bb C h' B a kd' l'→RepKVs C h' B α l' acc'→Q () {s with heap:=h',toks:=t})→wpAny (model C.prog C.w) A (storeAll a vs) Q E s
 |[],kd,l,acc,kd',acc',s,Q,hd,hk,hf,hl,h=>by
  cases hf
  exact wpAny_pure (h _ _ l ⟨rfl,fun _ _=>rfl⟩ hd hk)
 |(u,v)::vs,kd,l,acc,kd',acc',s,Q,hd,hk,hf,hl,h=>by
  cases hf with
  |cons h1 h2 h3 h4 h5=>
   rename_i x w kd₁
   simp only[List.length_cons]at hl
   unfold storeAll
   rw[List.forIn_cons]
   refine wpAny_bind (wpAny_bind (a5m hd h1 (by grind) h3 h2 fun h' t hs hd'=>wpAny_pure ?_))
   have kp:∀b o,¬B b→s.heap.get? b=some o→h'.get? b=some o:=fun b o nb e=>(hs.2 b fun q=>nb (q▸hB)).trans e
   have fm:∀{vs:List (Value×Value)}{kd kd':Kd}{acc acc':List (D×V)},Folds C s.heap B α vs kd acc kd' acc'→Folds C h' B α vs kd acc kd' acc':=fun f=>by
    induction f with
    |nil=>exact .nil
    |cons a1 a2 a3 a4 _ ih=>exact .cons (a1.mono kp fun _ _ _=>id) a2 a3 (a4.mono kp (fun _ _ _=>id) fun _ _ e=>e) ih
   have ln:=gz (k:=x) (v:=v) l
   refine sf hB vs _ (Mini.Internal.setKey x v l) (Mini.Internal.setKey x w acc) kd' acc' _ Q hd' ((hk.setKey h4).mono kp (fun _ _ _=>id) fun _ _ e=>e) (fm h5) (by grind) fun h'' t' l' hs' hd'' hk'=>?_
   exact h h'' t' l' ⟨hs'.1.trans hs.1,fun b hb=>(hs'.2 b hb).trans (hs.2 b hb)⟩ hd'' hk'
theorem a29 (K:EnvOk C env sc X) (T:bu C A env X ρ ev){evm:Expr→Sto→Option (V×Sto)}(TM:∀e σ V σ',evm e σ=some (V,σ')→x7 C A env X ρ false (eval e env) σ V σ'){p:Pos}:∀(ks:List (Option Expr)) (es:List Expr) (kd:Kd) (acc:List (D×V)) (σ:Sto) (kd':Kd) (acc':List (D×V)) (σ':Sto),
  u8 ev evm ks es kd acc σ=some ((kd',acc'),σ')→∀(E:Value→Shared→Prop) (Q:List (Value×Value)→Shared→Prop) (s:Shared) (α:a7),SRel C X α σ s.heap→b0 C env ρ X α σ s.heap→
   (∀vs α' s',Step C X α σ s α' σ' s'→vs.length=ks.length→Folds C s'.heap (Bad X σ' α') α' vs kd acc kd' acc'→Q vs s')→wpAny (model C.prog C.w) A (evalPairs (pairTrees ks es env p)) Q E s
 |[],[],kd,acc,σ,kd',acc',σ',e,E,Q,s,α,r,er,h=>by
  revert h;apply a61 e;clear e;intro h
  exact evalPairs_nil (h _ _ _ (Step.refl r) rfl .nil)
 |some k::ks,x::es,kd,acc,σ,kd',acc',σ',e,E,Q,s,α,r,er,h=>by
  refine ag e ?_;clear e;intro V₁ σ₁ e1 e
  cases V₁ with
  |m=>exact no e
  |d d=>
   refine ai e (fun _ e=>no e) fun ht e=>?_
   ·refine ag e ?_;clear e;intro V₂ σ₂ e2 e
    refine bj e ?_;clear e;intro kd₁ e3 e
    refine evalPairs_cons ((T _ _ _ _ e1).then K r er fun u α₁ s₁ S R r₁ er₁=>wpAny_bind (wpAny_mono ((TM _ _ _ _ e2).then K r₁ er₁ fun v α₂ s₂ S' R' r₂ er₂=>?_) (fun v s₂ z=>wpAny_bind (wpAny_standAt (wpAny_pure z))) fun _ _ z=>z))
    refine a29 K T TM ks es kd₁ _ σ₂ kd' acc' σ' e E _ s₂ α₂ r₂ er₂ fun vs α₃ s₃ S'' hl hf=>?_
    exact h _ _ _ ((S.trans S').trans S'') (by simp[hl]) (.cons (S''.repD r₂ (S'.repD r₁ R.data)) (by simpa using ht) e3 (S''.repV r₂ R') hf)
 |none::ks,_,kd,acc,σ,kd',acc',σ',e,_,_,_,_,_,_,_=>by exact no e
 |[],_::_,kd,acc,σ,kd',acc',σ',e,_,_,_,_,_,_,_=>by exact no e
 |some _::_,[],kd,acc,σ,kd',acc',σ',e,_,_,_,_,_,_,_=>by exact no e
theorem qm{evm:Expr→Sto→Option (V×Sto)}:∀(ks:List (Option Expr)) (es:List Expr) (kd:Kd) (acc:List (D×V)) (σ:Sto) (r:_),u8 ev evm ks es kd acc σ=some r→ks.all (·.isSome)=true∧ks.length=es.length
 |[],[],kd,acc,σ,r,e=>⟨rfl,rfl⟩
 |some k::ks,x::es,kd,acc,σ,r,e=>by
  refine ag e ?_;clear e;intro V₁ σ₁ e1 e
  cases V₁ with
  |m=>exact no e
  |d d=>
   refine ai e (fun _ e=>no e) fun _ e=>ag e fun V₂ σ₂ e2 e=>bj e fun kd₁ e3 e=>?_
   have:=qm ks es _ _ _ _ e
   exact⟨this.1,congrArg Nat.succ this.2⟩
 |none::ks,_,kd,acc,σ,r,e=>by exact no e
 |[],_::_,kd,acc,σ,r,e=>by exact no e
 |some _::_,[],kd,acc,σ,r,e=>by exact no e
theorem eg(h:Heap)(o:Obj):h.objs.size<(h.push o).objs.size:=by rw[Heap.size_push];exact Nat.lt_succ_self _
theorem adv (O:Ok C) (K:EnvOk C env sc X) (hbig:sysModules<C.base.objs.size) (T:∀X',(∀a,X a→X' a)→bu C A env X' ρ ev) {evm:Expr→Sto→Option (V×Sto)}
  (TM:∀X',(∀a,X a→X' a)→∀e σ V σ',evm e σ=some (V,σ')→x7 C A env X' ρ false (eval e env) σ V σ') {ks:List (Option Expr)} {es:List Expr} {p:Pos}
  (e:(if ks.length≤15 then(u8 ev evm ks es .any [] σ).map fun p=>p.2.alloc (.dict p.1.1 p.1.2) else none)=some (W,σ')):Snd C A env X ρ (.Dict ks es p) σ W σ':=by
 intro E Q s α r er h
 (refine ai e ?_ ?_<;>clear e<;>intro _ e)
 ·rename_i hl
  clear O
  obtain⟨⟨⟨kd,acc⟩,σ₁⟩,e1,eW⟩:=Option.map_eq_some_iff.mp e
  clear e
  obtain⟨hall,hlen⟩:=qm _ _ _ _ _ _ e1
  have hmod:∀s:Shared,SRel C X α σ s.heap→(s.heap.objs.size==sysModules)=false:=fun s r=>by
   rw[beq_eq_false_iff_ne]
   intro q
   exact absurd hbig (Nat.not_lt.mpr (Nat.le_trans r.sz (Nat.le_of_eq q)))
  cases ks with
  |nil=>
   cases es with
   |cons _ _=>simp at hlen
   |nil=>
    cases e1
    (revert h;apply re2 eW;clear eW;intro h)
    have S:=Step.alloc (h':=s.heap.push {cls:=.type "dict",data:=.dict #[]}) (p:=(s.heap.objs.size,s.heap.objs.size)) (o:=.dict .any []) r (fun a ob e=>Heap.get?_push_of_some _ e) (by rw[Heap.size_push];grind) (Nat.le_refl _) (Nat.le_refl _)
     (eg _ _) (eg _ _) ⟨rfl,[],⟨hmod s r,by simp,rfl,_,Heap.get?_push_size _ rfl⟩,.nil⟩ s.toks
    have fin:=h _ _ _ S (.m (xj r.len)) (fun q=>by cases q)
    rw[arm_eval_Dict]
    refine wpAny_bind (wpAny_standAt (wpAny_bind (wpAny_pure (wpAny_bind (wpAny_pure ?_)))))
    refine(?_:wpAny _ _ newDict _ _ _)
    exact wpAny_bind (wpAny_alloc (wpAny_pure fin))
  |cons k ks=>
   refine wpAny_Dict_any hall hlen (by simp) hl ?_
   have hk:∀a o,s.heap.get? a=some o→(s.heap.push {cls:=.type "dict",data:=.dict #[]}).get? a=some o:=fun a o e=>Heap.get?_push_of_some _ e
   have hs:s.heap.objs.size≤(s.heap.push {cls:=.type "dict",data:=.dict #[]}).objs.size:=by rw[Heap.size_push];grind
   have up:∀a,X a→(X a∨a=s.heap.objs.size):=fun a=>.inl
   have hN:∀a,(X a∨a=s.heap.objs.size)→X a∨(s.heap.objs.size≤a∧a<(s.heap.push {cls:=.type "dict",data:=.dict #[]}).objs.size):=fun a x=>x.imp id fun q=>⟨Nat.le_of_eq q.symm,by rw[q];exact Nat.lt_of_lt_of_eq (Nat.lt_succ_self _) (Heap.size_push ..).symm⟩
   have r':=r.widen hk hs up hN
   have er':b0 C env ρ (fun a=>X a∨a=s.heap.objs.size) α σ _:=b0.widen (sc:=sc) hk (fun a x=>(hN a x).imp id And.left) er
   refine a29 (K.widen up) (T _ up) (TM _ up) _ _ _ _ _ _ _ _ e1 E _ {s with heap:=_} α r' er' fun vs α₁ s₁ S hlv hf=>?_
   have hd₀:bb C s₁.heap (Bad (fun a=>X a∨a=s.heap.objs.size) σ₁ α₁) s.heap.objs.size .any []:=by
    refine⟨hmod s r,by simp,rfl,0,S.keep _ _ (fun m=>?_) (fun q=>?_) (Heap.get?_push_size _ rfl)⟩
    ·obtain⟨i,q,o,h1,_,_,h2⟩:=m
     have:=r.lt i q h1
     rcases h2 with h2|h2
     ·exact absurd this.1 (by rw[←h2];exact Nat.lt_irrefl _)
     ·exact absurd this.2 (by rw[←h2];exact Nat.lt_irrefl _)
    ·exact absurd (r.xLt _ r.xP) (by rw[←q];exact Nat.lt_irrefl _)
   refine sf (.inl (.inr rfl)) vs .any [] [] kd acc s₁ _ hd₀ .nil hf (by simp only[List.length_nil];rw[hlv];exact apw hl) fun h' t l' sb hd hk'=>?_
   have Sn:Step C X α σ s α₁ σ₁ s₁:=Step.narrow r hk hs up S
   (revert h;apply re2 eW;clear eW;intro h)
   have badd:∀b ob,h'.get? b=some ob→¬Bad (fun a=>X a∨a=s.heap.objs.size) σ₁ α₁ b→¬Bad X (σ₁.alloc (.dict kd acc)).2 (α₁++[(s.heap.objs.size,s.heap.objs.size)]) b:=fun b ob _ nb m=>by
    rcases m with m|m
    ·exact nb (.inl (.inl m))
    ·rcases Mut.alloc_sub S.srel.len b m with m|m|m
     ·exact nb (.inr m)
     ·exact nb (.inl (.inr m))
     ·exact nb (.inl (.inr m))
   have ext:∀(i:Nat) q,α₁[i]?=some q→(α₁++[(s.heap.objs.size,s.heap.objs.size)])[i]?=some q:=fun i q e=>by rw[List.getElem?_append_left (List.getElem?_eq_some_iff.mp e).1];exact e
   have Sf:=Step.adopt (p:=(s.heap.objs.size,s.heap.objs.size)) (o:=.dict kd acc) (h':=h') r Sn S.srel (fun b=>by simp) (Nat.le_refl _) (Nat.le_refl _) (fun a ob n1 _ e=>(sb.2 a n1).trans e) (Nat.le_of_eq sb.1.symm)
    ⟨rfl,l',hd.mono (fun _ e=>e) (fun _ _ _ e=>e) badd,hk'.mono (fun _ _ _ e=>e) badd ext⟩ t
   exact h _ _ _ Sf (.m (p:=(s.heap.objs.size,s.heap.objs.size)) (xj S.srel.len)) fun q=>by cases q
 ·exact no e
end
section
variable{C:Cfg}{A:Around}{env:Env}{X:Addr→Prop}{ρ:Rho}{sc:Scope}{ev:Expr→Sto→Option (V×Sto)}{σ σ':Sto}{W:V}{α:a7}{s:Shared}{E:Value→Shared→Prop}
theorem p8 {h':Heap}{i:Nat}{p:Addr×Addr}{o:MO}{vs:List Value}{xs:List D}(r:SRel C X α σ s.heap) (hi:α[i]?=some p) (ho:σ.objs[i]?=some o) (hl:o.live=true) (he:p.2=p.1)
  (hp:h'.PlainList p.1 vs.toArray) (hn:vs.length≤1000001) (rs:RepDs C s.heap (Bad X σ α) vs xs) (sb:Heap.SameBut p.1 s.heap h') (t:Nat):Step C X α σ s α (σ.put i (.list xs)) {s with heap:=h',toks:=t}:=by
 have mutp:Mut σ α p.1:=⟨i,p,o,hi,ho,hl,.inl rfl⟩
 refine Step.put (o':=.list xs) r hi ho hl (fun a ob n1 _ e=>(sb.2 a n1).trans e) (Nat.le_of_eq sb.1.symm) ⟨he,vs,hp,hn,rs.mono (fun b ob nb e=>(sb.2 b fun q=>nb (.inr (q▸mutp))).trans e) fun b ob _ nb m=>nb (m.elim .inl fun m=>.inr (Mut.put_sub hi ho hl b m))⟩ t
theorem a4e{B:Addr→Prop}{a:Addr}{kd:Kd}{l:List (D×Value)}(x:bb C s.heap B a kd l):∃o,s.heap.get? a=some o∧o.dict=none:=let⟨o,ho,_,hd⟩:=x.obj;⟨o,ho,hd⟩
theorem j9 {h:Heap}{a:Addr}{xs ys:Array Value}{n:Nat}(f:Array Value→Array Value)(e:h.get? a=some {cls:=.type "list",data:=.seq xs n})(hf:f xs=ys):(h.update a (Obj.mapSeq f)).PlainList a ys:=
 ⟨if ys.size==xs.size then n else n+1,by rw[Heap.get?_update_self _ e rfl];subst hf;rfl⟩
theorem a86 (ws:List Value):ws.toArray.eraseIdxIfInBounds (ws.toArray.size-1)=ws.dropLast.toArray:=by
 unfold Array.eraseIdxIfInBounds
 split
 ·rename_i h
  rw[List.eraseIdx_toArray,List.dropLast_eq_take,List.eraseIdx_eq_take_drop_succ]
  simp only[List.size_toArray]at h ⊢
  rw[List.drop_of_length_le (by exact apl h),List.append_nil]
 ·rename_i h
  simp only[List.size_toArray]at h
  have:ws=[]:=List.length_eq_zero_iff.mp (by exact aq2 h)
  subst this
  rfl
section
variable{β:Type}{P:Prop}{vs:List V}{z:β}
theorem afp{f:V→Option β}(e:(match vs with|[v]=>f v|_=>none)=some z)(k:∀v,vs=[v]→f v=some z→P):P:=by
 cases vs with
 |nil=>exact no e
 |cons v t=>cases t with
  |nil=>exact k _ rfl e
  |cons=>exact no e
theorem ap4{f:Int→V→Option β}(e:(match vs with|[.d (.int k),v]=>f k v|_=>none)=some z)(k:∀i v,vs=[.d (.int i),v]→f i v=some z→P):P:=by
 cases vs with
 |nil=>exact no e
 |cons v t=>cases v with
  |m=>exact no e
  |d x=>cases x with
   |int=>cases t with
    |nil=>exact no e
    |cons w t=>cases t with
     |nil=>exact k _ _ rfl e
     |cons=>exact no e
   |_=>exact no e
theorem ag5{f:D→Option β}{g:D→V→Option β}(e:(match vs with|[.d k]=>f k|[.d k,v]=>g k v|_=>none)=some z)(k1:∀k,vs=[.d k]→f k=some z→P)(k2:∀k v,vs=[.d k,v]→g k v=some z→P):P:=by
 cases vs with
 |nil=>exact no e
 |cons v t=>cases v with
  |m=>cases t<;>exact no e
  |d x=>cases t with
   |nil=>exact k1 _ rfl e
   |cons w t=>cases t with
    |nil=>exact k2 _ _ rfl e
    |cons=>exact no e
theorem aht{v:V}{f:List D→Option β}(e:(match v with|.d (.list ys)=>f ys|_=>none)=some z)(k:∀ys,v=.d (.list ys)→f ys=some z→P):P:=by
 cases v with
 |m=>exact no e
 |d x=>cases x with
  |list=>exact k _ rfl e
  |_=>exact no e
end
inductive MethId:Bool→Str→String→Prop
 |append:MethId true (Str.ofString "append") "list.append"
 |extend:MethId true (Str.ofString "extend") "list.extend"
 |insert:MethId true (Str.ofString "insert") "list.insert"
 |pop:MethId true (Str.ofString "pop") "list.pop"
 |get:MethId false (Str.ofString "get") "dict.get"
theorem a08{u:Value}{o:V}{b:Bool}{m:Str}{id:String}{pl:Sem Bool}{Q:Value×List Value→Shared→Prop}(r:SRel C X α σ s.heap) (ru:RepV C s.heap (Bad X σ α) α u o) (ht:gn σ o=some b) (hm:MethId b m id) (h:Q (.builtin id,[u]) s):
  wpAny (model C.prog C.w) A (getMethod u m pl) Q E s:=by
 have hd:∀{a:Addr}{kd:Kd}{l:List (D×Value)}{B:Addr→Prop},bb C s.heap B a kd l→b=false→u=.ref a→wpAny (model C.prog C.w) A (getMethod u m pl) Q E s:=by
  intro a kd l B x hb hu
  subst hb hu
  cases hm
  exact getMethod_builtin x.typeIs F.plainAttrs_dict F.slot_dict_get F.type_dict_get (fun a e=>by cases e;exact a4e x) h
 cases o with
 |d x=>cases x with
  |dict=>
   cases ht
   cases ru with
   |d q=>cases q with
    |dict x nb hk=>exact hd x rfl rfl
  |_=>exact no ht
 |m i=>
  refine a2q ht ?_ ?_<;>clear ht
  ·intro xs ho ht
   cases ht
   obtain⟨p,hp,rfl,_,vs,⟨n,hl⟩,hn,rs⟩:=ru.at r ho
   have nd:∀a,Value.ref p.1=.ref a→∃o,s.heap.get? a=some o∧o.dict=none:=fun a e=>by cases e;exact⟨_,hl,rfl⟩
   cases hm with
   |append=>exact getMethod_builtin ⟨_,hl,rfl⟩ F.plainAttrs_list F.slot_list_append F.type_list_append nd h
   |extend=>exact getMethod_builtin ⟨_,hl,rfl⟩ F.plainAttrs_list F.slot_list_extend F.type_list_extend nd h
   |insert=>exact getMethod_builtin ⟨_,hl,rfl⟩ F.plainAttrs_list F.slot_list_insert F.type_list_insert nd h
   |pop=>exact getMethod_builtin ⟨_,hl,rfl⟩ F.plainAttrs_list F.slot_list_pop F.type_list_pop nd h
  ·intro kd kvs ho ht
   cases ht
   obtain⟨p,hp,rfl,_,l,x,hk⟩:=ru.at r ho
   exact hd x rfl rfl
noncomputable def CQ (C:Cfg) (X:Addr→Prop) (α:a7) (σ:Sto) (s:Shared) (W:V) (σ':Sto) (Q:Value→Shared→Prop):Prop:=
 ∀v α' s',Step C X α σ s α' σ' s'→RepV C s'.heap (Bad X σ' α') α' v W→Q v s'
theorem t8{K:Type}[DecidableEq K](en:Enc K) (l:List (K×Value)) (k:K):valueAt l k=a6 (en.f k) (l.map fun p=>(en.f p.1,p.2)):=by
 rw[ga en (fun p:K×Value=>p.2)]
 rfl
theorem ada {Q:Value→Shared→Prop}{B B':Addr→Prop}{a:Addr}{kd:Kd}{kvs:List (D×Value)}{u:Value}{k:D}(x:bb C s.heap B a kd kvs) (r:RepD C s.heap B' u k) (ha:kd.asks k=true) (ht:k.kind≠.tup)
  (h:∀t,Q ((a6 k kvs).getD .none) {s with toks:=t}):wpAny (model C.prog C.w) A (call (.builtin "dict.get") [.ref a,u]) Q E s:=by
 refine a0y x r (j4 ha).1 (j4 ha).2 (fun K _ knd en z l hz h1 hk hl hd _ _=>?_) fun _ _ _ _ _ _ _ _ _ _ _ q=>absurd q ht
 have hT:=x.typeIs
 clear x r ha ht
 subst hk;subst hl
 refine call_meetsIn F.slot_dict_get hT F.entry_dict_get (F.args_dict_get_2 _ _) (meets_dict_get knd a hz h1) ⟨_,hd.mapOf,?_⟩
 rw[t8 en]
 exact h _
theorem ab3 {Q:Value→Shared→Prop}{B B':Addr→Prop}{a:Addr}{kd:Kd}{kvs:List (D×Value)}{u dv:Value}{k:D}(x:bb C s.heap B a kd kvs) (r:RepD C s.heap B' u k) (ha:kd.asks k=true) (ht:k.kind≠.tup)
  (h:∀t,Q ((a6 k kvs).getD dv) {s with toks:=t}):wpAny (model C.prog C.w) A (call (.builtin "dict.get") [.ref a,u,dv]) Q E s:=by
 refine a0y x r (j4 ha).1 (j4 ha).2 (fun K _ knd en z l hz h1 hk hl hd _ _=>?_) fun _ _ _ _ _ _ _ _ _ _ _ q=>absurd q ht
 have hT:=x.typeIs
 clear x r ha ht
 subst hk;subst hl
 refine call_meetsIn F.slot_dict_get hT F.entry_dict_get (F.args_dict_get_3 _ _ _) (meets_dict_get_default knd a hz h1 dv) ⟨_,hd.mapOf,?_⟩
 rw[t8 en]
 exact h _
section
variable{P:Prop}{i:Nat}{xs:List D}{u:Value}{us:List Value}{vs:List V}{Q:Value→Shared→Prop}
theorem uk {p:Addr×Addr}(r:SRel C X α σ s.heap) (hp:α[i]?=some p) (ho:σ.objs[i]?=some (.list xs)) (k:∀ws n,p.2=p.1→s.heap.get? p.1=some {cls:=.type "list",data:=.seq (List.toArray ws) n}→ws.length≤1000001→ws.length=xs.length→RepDs C s.heap (Bad X σ α) ws xs→P):P:=
 let⟨he,ws,⟨n,hl⟩,hn,rw_⟩:=r.obj i p _ hp ho
 k ws n he hl hn rw_.length rw_
theorem a8f (r:SRel C X α σ s.heap) (ru:RepV C s.heap (Bad X σ α) α u (.m i)) (ho:σ.objs[i]?=some (.list xs))
  (k:∀p ws n,α[i]?=some p→u=.ref p.1→p.2=p.1→s.heap.get? p.1=some {cls:=.type "list",data:=.seq (List.toArray ws) n}→ws.length≤1000001→ws.length=xs.length→RepDs C s.heap (Bad X σ α) ws xs→P):P:=
 vm ru fun p hp hu=>uk r hp ho fun ws n=>k p ws n hp hu
noncomputable def a9c (σ:Sto)(i:Nat)(vs:List V):Option (V×Sto):=match vs with|[v]=>(toD σ v).bind fun p=>(match p.2.objs[i]? with|some (.list ys)=>if fe (ys.length+1)then some (.d .none,p.2.put i (.list (ys++[p.1])))else none|_=>none)|_=>none
noncomputable def a8q (σ:Sto)(i:Nat)(xs:List D)(vs:List V):Option (V×Sto):=match vs with|[v]=>(match v with|.d (.list ys)=>if fe (xs.length+ys.length)then some (.d .none,σ.put i (.list (xs++ys)))else none|_=>none)|_=>none
noncomputable def a8y (σ:Sto)(i:Nat)(vs:List V):Option (V×Sto):=match vs with|[.d (.int k),v]=>(toD σ v).bind fun p=>(match p.2.objs[i]? with|some (.list ys)=>(if 0≤k∧k≤ys.length∧fe (ys.length+1)=true then some (.d .none,p.2.put i (.list (ys.take k.toNat++p.1::ys.drop k.toNat)))else none)|_=>none)|_=>none
noncomputable def aif (σ:Sto)(i:Nat)(xs:List D)(vs:List V):Option (V×Sto):=match vs with|[]=>(xs.getLast?).map fun x=>(.d x,σ.put i (.list xs.dropLast))|_=>none
noncomputable def aga (kd:Kd)(kvs:List (D×V))(σ:Sto)(vs:List V):Option (V×Sto):=match vs with
 |[.d k]=>if kd.asks k&&k.kind !=.tup then some ((match a6 k kvs with|some v=>norm σ v|none=>.d .none),σ)else none
 |[.d k,v]=>if kd.asks k&&k.kind !=.tup then some ((match a6 k kvs with|some v=>norm σ v|none=>v),σ)else none
 |_=>none
noncomputable def anx (kd:Kd)(kvs:List (D×D))(σ:Sto)(vs:List V):Option (V×Sto):=match vs with
 |[.d k]=>if kd.asks k&&k.kind !=.tup then some ((match a6 k kvs with|some v=>.d v|none=>.d .none),σ)else none
 |[.d k,v]=>if kd.asks k&&k.kind !=.tup then some ((match a6 k kvs with|some v=>.d v|none=>v),σ)else none
 |_=>none
noncomputable def MOk (C:Cfg) (A:Around) (E:Value→Shared→Prop) (s:Shared) (σ:Sto) (o:V) (u:Value) (us:List Value) (Q:Value→Shared→Prop) (m:Str):Prop:=∃b id,gn σ o=some b∧MethId b m id∧wpAny (model C.prog C.w) A (call (.builtin id) (u::us)) Q E s
theorem MOk.of{o:V}{f g:Str}(e:(f==g)=true)(h:MOk C A E s σ o u us Q g):MOk C A E s σ o u us Q f:=eq_of_beq e▸h
theorem o8 (ho:σ.objs[i]?=some (.list xs)):gn σ (.m i)=some true:=congrArg (fun o=>(match o with|some (.list _)=>some true|some (.dict _ _)=>some false|_=>none:Option Bool)) ho
theorem a4z{kd:Kd}{kvs:List (D×V)}(ho:σ.objs[i]?=some (.dict kd kvs)):gn σ (.m i)=some false:=congrArg (fun o=>(match o with|some (.list _)=>some true|some (.dict _ _)=>some false|_=>none:Option Bool)) ho
theorem a5b (r:SRel C X α σ s.heap) (ru:RepV C s.heap (Bad X σ α) α u (.m i)) (ho:σ.objs[i]?=some (.list xs)) (rs:RepVs C s.heap (Bad X σ α) α us vs) (e:a9c σ i vs=some (W,σ')) (h:CQ C X α σ s W σ' Q):MOk C A E s σ (.m i) u us Q "append":=by
 refine⟨true,_,o8 ho,.append,?_⟩
 refine afp e ?_;clear e;intro v hv e;subst hv
 ·refine rs1 rs fun u' hus a=>ag e fun d σ₁ e1 e=>isList e fun ys ho' e=>ai e (fun hr e=>?_) fun _ e=>no e
  refine vm ru fun p hp hu=>bk (kj r a e1) fun S R=>uk S.srel hp ho' fun ws n he hl hn lw rw'=>?_
  subst hus;subst hu;(revert h;apply du e;clear e;intro h)
  refine wpAny_list_append_plain ⟨n,hl⟩ (fun h' hq sb=>?_) (by rw[List.size_toArray];unfold sizeLine;omega)
  have hq':h'.PlainList p.1 (ws++[u']).toArray:=by rw[←List.push_toArray];exact hq
  exact h _ _ _ (S.trans (p8 S.srel hp ho' rfl he hq' (by rw[List.length_append,List.length_singleton,lw];exact Nat.succ_le_succ (pn hr|> Nat.le_of_succ_le)) (rw'.append (.cons R .nil)) sb s.toks)) (.d .none)
theorem a5o (r:SRel C X α σ s.heap) (ru:RepV C s.heap (Bad X σ α) α u (.m i)) (ho:σ.objs[i]?=some (.list xs)) (rs:RepVs C s.heap (Bad X σ α) α us vs) (e:a8q σ i xs vs=some (W,σ')) (h:CQ C X α σ s W σ' Q):MOk C A E s σ (.m i) u us Q "extend":=by
 refine⟨true,_,o8 ho,.extend,?_⟩
 refine afp e ?_;clear e;intro v hv e;subst hv
 ·refine aht e ?_;clear e;intro ys hv e;subst hv
  ·refine rs1 rs fun u' hus a=>ai e (fun hr e=>?_) fun _ e=>no e
   refine a8f r ru ho fun p ws n hp hu he hl hn lw rw_=>vv (vd a) fun b ws2 hu' hl2 nb hn2 rs2=>?_
   obtain⟨n2,hl2⟩:=hl2
   subst hus;subst hu;subst hu';(revert h;apply du e;clear e;intro h)
   have hr':=pn hr
   have l2:=rs2.length
   refine call_meets F.slot_list_extend ⟨_,hl,rfl⟩ F.entry_list_extend (F.args_list_extend_2 _ _) (AutoSeq1.list_extend_list_list_0 p.1 _ n _ _ n2 (by
    simp only[List.size_toArray,Builtin.List.listTooLong,sizeLine,Bool.and_eq_true,decide_eq_true_eq,not_and]
    omega) (by rw[List.size_toArray];unfold sizeLine;omega) (by simp only[List.size_toArray];unfold sizeLine;omega)) ⟨hl,hl2,?_⟩
   exact h _ _ _ (p8 r hp ho rfl he (vs:=ws++ws2) (h':=s.heap.update p.1 _) (j9 _ hl (by rw[List.append_toArray])) (by rw[List.length_append];exact aq5 lw hr' l2) (rw_.append rs2) (Heap.SameBut.update ..) s.toks) (.d .none)
theorem a4l (r:SRel C X α σ s.heap) (ru:RepV C s.heap (Bad X σ α) α u (.m i)) (ho:σ.objs[i]?=some (.list xs)) (rs:RepVs C s.heap (Bad X σ α) α us vs) (e:a8y σ i vs=some (W,σ')) (h:CQ C X α σ s W σ' Q):MOk C A E s σ (.m i) u us Q "insert":=by
 refine⟨true,_,o8 ho,.insert,?_⟩
 refine ap4 e ?_;clear e;intro k v hv e;subst hv
 ·refine rs2 rs fun u0 u' hus a0 a=>ag e fun d σ₁ e1 e=>isList e fun ys ho' e=>ai e (fun hr e=>?_) fun _ e=>no e
  refine vm ru fun p hp hu=>a0h a0 fun t0 hu0=>bk (kj r a e1) fun S R=>uk S.srel hp ho' fun ws n he hl hn lw rw'=>?_
  subst hus;subst hu;subst hu0;(revert h;apply du e;clear e;intro h)
  have hr':=pn hr.2.2
  have big:(2:Int) ^ 63=9223372036854775808:=by decide
  have hk:¬k<0:=Int.not_lt.mpr hr.1
  have hmin:min k.toNat ws.toArray.size=k.toNat:=by rw[List.size_toArray];exact aq8 hr lw
  refine call_meets F.slot_list_insert ⟨_,hl,rfl⟩ F.entry_list_insert (F.args_list_insert_3 _ _ _) (AutoSeq1.list_insert_list_int_val_1 p.1 _ n k t0 _ (by simp[Builtin.List.listFitsIndex];exact ap9 hr hn lw) (by rw[List.size_toArray];unfold sizeLine;omega)) ⟨hl,?_⟩
  refine h _ _ _ (S.trans (p8 S.srel hp ho' rfl he (vs:=ws.take k.toNat++u'::ws.drop k.toNat) (h':=s.heap.update p.1 _) (j9 _ hl (by simp only[hk,if_false,hmin];simp;exact List.take_of_length_le (by rw[List.length_drop];exact Nat.le_refl _))) ?_ ((rw'.take _).append (.cons R (rw'.drop _))) (Heap.SameBut.update ..) s.toks)) (.d .none)
  rw[List.length_append,List.length_take,List.length_cons,List.length_drop];exact apo lw hr'
theorem adf (r:SRel C X α σ s.heap) (ru:RepV C s.heap (Bad X σ α) α u (.m i)) (ho:σ.objs[i]?=some (.list xs)) (rs:RepVs C s.heap (Bad X σ α) α us vs) (e:aif σ i xs vs=some (W,σ')) (h:CQ C X α σ s W σ' Q):MOk C A E s σ (.m i) u us Q "pop":=by
 refine⟨true,_,o8 ho,.pop,?_⟩
 cases vs with
 |nil=>
  refine rs0 rs fun hus=>de e fun y e1 e=>a8f r ru ho fun p ws n hp hu he hl hn lw rw_=>?_
  subst hus;subst hu;(revert h;apply re2 e;clear e;intro h)
  rw[List.getLast?_eq_getElem?,←lw]at e1
  refine ar (rw_.get e1) fun w hw rw2=>?_
  refine call_meets F.slot_list_pop ⟨_,hl,rfl⟩ F.entry_list_pop (F.args_list_pop_1 _) (PySem.MeetsSeq.list_pop_last p.1 _ n w (by simpa using hw) (by rw[List.size_toArray];unfold sizeLine;omega)) ⟨hl,?_⟩
  have S:=p8 r hp ho rfl he (vs:=ws.dropLast) (xs:=xs.dropLast) (h':=s.heap.update p.1 (Obj.mapSeq fun xs=>xs.eraseIdxIfInBounds (ws.toArray.size-1))) (j9 _ hl (a86 ws)) (by rw[List.length_dropLast];exact ap2 hn) rw_.dropLast (Heap.SameBut.update ..) s.toks
  exact h _ _ _ S (.d (S.repD r rw2))
 |cons=>exact no e
theorem a3y{kd:Kd}{a:Addr}{o:V}{l:List (D×Value)}{B:Addr→Prop}{k:D}(r:SRel C X α σ s.heap) (hd:bb C s.heap B a kd l) (ht:gn σ o=some false) (rs:RepVs C s.heap (Bad X σ α) α us [.d k]) (q:(kd.asks k&&k.kind !=.tup)=true)
  (hf:RepV C s.heap (Bad X σ α) α ((a6 k l).getD .none) W) (h:CQ C X α σ s W σ Q):MOk C A E s σ o (.ref a) us Q "get":=by
 refine⟨false,_,ht,.get,rs1 rs fun u' hus a=>?_⟩
 have q:=tt q
 subst hus
 exact ada hd (vd a) q.1 (by simpa using q.2) fun t=>h _ _ _ (Step.tok r t) hf
theorem a52{kd:Kd}{a:Addr}{o:V}{l:List (D×Value)}{B:Addr→Prop}{k:D}{v:V}(r:SRel C X α σ s.heap) (hd:bb C s.heap B a kd l) (ht:gn σ o=some false) (rs:RepVs C s.heap (Bad X σ α) α us [.d k,v]) (q:(kd.asks k&&k.kind !=.tup)=true)
  (hf:∀dv,RepV C s.heap (Bad X σ α) α dv v→RepV C s.heap (Bad X σ α) α ((a6 k l).getD dv) W) (h:CQ C X α σ s W σ Q):MOk C A E s σ o (.ref a) us Q "get":=by
 refine⟨false,_,ht,.get,rs2 rs fun u' u2 hus a a2=>?_⟩
 have q:=tt q
 subst hus
 exact ab3 hd (vd a) q.1 (by simpa using q.2) fun t=>h _ _ _ (Step.tok r t) (hf _ a2)
theorem aah{kd:Kd}{kvs:List (D×V)}{a:Addr}{o:V}{l:List (D×Value)}{B:Addr→Prop}(r:SRel C X α σ s.heap) (hd:bb C s.heap B a kd l) (ht:gn σ o=some false)
  (hk:RepKVs C s.heap (Bad X σ α) α l kvs) (rs:RepVs C s.heap (Bad X σ α) α us vs) (e:aga kd kvs σ vs=some (W,σ')) (h:CQ C X α σ s W σ' Q):MOk C A E s σ o (.ref a) us Q "get":=by
 have key:∀k dv v,RepV C s.heap (Bad X σ α) α dv v→RepV C s.heap (Bad X σ α) α ((a6 k l).getD dv) (match a6 k kvs with|some v=>norm σ v|none=>v):=by
  intro k dv v rv
  have f:=hk.find (k:=k)
  cases q:a6 k kvs with
  |none=>rw[f.2 q];exact rv
  |some x=>exact ar (f.1 x q) fun w hw rw2=>by rw[hw];exact rw2.norm r
 refine ag5 e ?_ ?_
 ·clear e;intro k hv e;subst hv;refine ai e (fun q e=>?_) fun _ e=>no e
  (revert h;apply du e;clear e;intro h)
  exact a3y r hd ht rs q (key _ _ _ (.d .none)) h
 ·clear e;intro k v hv e;subst hv;refine ai e (fun q e=>?_) fun _ e=>no e
  (revert h;apply du e;clear e;intro h)
  exact a52 r hd ht rs q (fun dv=>key _ dv _) h
theorem a9h{kd:Kd}{kvs:List (D×D)}{a:Addr}{o:V}{l:List (D×Value)}{B:Addr→Prop}(r:SRel C X α σ s.heap) (hd:bb C s.heap B a kd l) (ht:gn σ o=some false)
  (hk:RepKs C s.heap (Bad X σ α) l kvs) (rs:RepVs C s.heap (Bad X σ α) α us vs) (e:anx kd kvs σ vs=some (W,σ')) (h:CQ C X α σ s W σ' Q):MOk C A E s σ o (.ref a) us Q "get":=by
 have key:∀k dv v,RepV C s.heap (Bad X σ α) α dv v→RepV C s.heap (Bad X σ α) α ((a6 k l).getD dv) (match a6 k kvs with|some v=>.d v|none=>v):=by
  intro k dv v rv
  have f:=hk.find (k:=k)
  cases q:a6 k kvs with
  |none=>rw[f.2 q];exact rv
  |some x=>exact ar (f.1 x q) fun w hw rw2=>by rw[hw];exact .d rw2
 refine ag5 e ?_ ?_
 ·clear e;intro k hv e;subst hv;refine ai e (fun q e=>?_) fun _ e=>no e
  (revert h;apply du e;clear e;intro h)
  exact a3y r hd ht rs q (key _ _ _ (.d .none)) h
 ·clear e;intro k v hv e;subst hv;refine ai e (fun q e=>?_) fun _ e=>no e
  (revert h;apply du e;clear e;intro h)
  exact a52 r hd ht rs q (fun dv=>key _ dv _) h
end
theorem a6q{Q:Value→Shared→Prop}{u:Value}{us:List Value}{o:V}{m:Str}{vs:List V}(r:SRel C X α σ s.heap) (ru:RepV C s.heap (Bad X σ α) α u o) (rs:RepVs C s.heap (Bad X σ α) α us vs) (e:dm σ o m vs=some (W,σ'))
  (h:CQ C X α σ s W σ' Q):∃b id,gn σ o=some b∧MethId b m id∧wpAny (model C.prog C.w) A (call (.builtin id) (u::us)) Q E s:=by
 refine(?_:MOk C A E s σ o u us Q m)
 cases o with
 |m i=>
  have e:(match σ.objs[i]? with
   |some (.list xs)=>if m==("append":Str) then a9c σ i vs else if m==("extend":Str) then a8q σ i xs vs else if m==("insert":Str) then a8y σ i vs else if m==("pop":Str) then aif σ i xs vs else none
   |some (.dict kd kvs)=>if m==("get":Str) then aga kd kvs σ vs else none
   |_=>none)=some (W,σ'):=e
  refine a2q e ?_ ?_<;>clear e
  ·intro xs ho e
   exact ai e (fun q e=>.of q (a5b r ru ho rs e h)) fun _ e=>ai e (fun q e=>.of q (a5o r ru ho rs e h)) fun _ e=>ai e (fun q e=>.of q (a4l r ru ho rs e h)) fun _ e=>ai e (fun q e=>.of q (adf r ru ho rs e h)) fun _ e=>no e
  ·intro kd kvs ho e
   refine ai e (fun q e=>.of q ?_) fun _ e=>no e
   obtain⟨p,hp,rfl,he,l,hd,hk⟩:=ru.at r ho
   exact aah r hd (a4z ho) hk rs e h
 |d x=>
  cases x<;>try exact no e
  refine ai e (fun q e=>.of q ?_) fun _ e=>no e
  refine a8e (vd ru) fun a l hu hd nb hk=>?_
  subst hu
  exact a9h r hd rfl hk rs e h
end
end
section
open PySem
theorem Runs.grow{M:Model}{Γ:Ctx}{p:Pos}{t:Sem Fin}{fs:List Frame}{s s':Shared}{e:End}(h:Runs M Γ p t fs s e s'):s.heap.objs.size≤s'.heap.objs.size:=by
 induction h with
 |done|raise|yield=>exact Nat.le_refl _
 |alloc _ ih=>refine Nat.le_trans ?_ ih;exact Nat.le_of_lt (Nat.lt_of_lt_of_eq (Nat.lt_succ_self _) (Heap.size_push ..).symm)
 |update _ _ ih=>refine Nat.le_trans ?_ ih;exact Nat.le_of_eq (Heap.SameBut.update _ _ _).1.symm
 |call _ _ ih1 ih2=>exact Nat.le_trans ih1 ih2
 |callSusp _ ih1=>exact ih1
 |resumeFresh hg _ _ _ ih1 ih2=>exact Nat.le_trans ih1 ih2
 |resumeSuspended hg _ _ _ ih1 ih2=>exact Nat.le_trans ih1 ih2
 |segRet _ _ ih1 ih2=>exact Nat.le_trans ih1 ih2
 |segGen _ _ ih1 ih2=>exact Nat.le_trans ih1 ih2
 |segSuspOut hn _ ih1=>exact ih1
 |segSuspGen hn _ _ _ ih1 ih2=>exact Nat.le_trans ih1 ih2
 |_=>assumption
theorem Wakes.grow{M:Model}{Γ:Ctx}{p:Pos}{g:Nat}{r:Resume}{s s1:Shared}{res:GenResult}(a:Wakes M Γ p g r s res s1):s.heap.objs.size≤s1.heap.objs.size:=by
 unfold Wakes at a
 cases hg:s.gens[g]? with
 |none=>rw[hg]at a;exact a.elim
 |some x=>
  rw[hg]at a
  cases x with
  |fresh c=>
   cases r with
   |throw x=>rw[a.2];exact Nat.le_refl _
   |send v=>
    cases v with
    |none=>
     obtain⟨e1,t1,r1,_,rfl,rfl⟩:=a
     have q:=Runs.grow r1
     exact q
    |_=>rw[a.2];exact Nat.le_refl _
  |suspended k l c p fs cl=>
   obtain⟨e1,t1,r1,_,rfl,rfl⟩:=a
   have q:=Runs.grow r1
   exact q
  |running=>rw[a.2];exact Nat.le_refl _
  |finished=>rw[a.2];exact Nat.le_refl _
theorem ae1{α:Type}{M:Model}{Γ:Ctx}{Q:α→Pos→Shared→Prop}{E:Value→Pos→Shared→Prop}{n:Nat}:∀(t:Sem α){p:Pos}{s:Shared},n≤s.heap.objs.size→Sem.wp M Γ t Q E p s→Sem.wp M Γ t (fun a p s=>n≤s.heap.objs.size∧Q a p s) E p s:=by
 intro t
 induction t with
 |pure a=>intro p s hn h1;exact⟨hn,h1⟩
 |raise v=>intro p s hn h1;exact h1
 |unsupported|finish|yield|fork|await|register=>intro p s hn h1;exact h1
 |alloc o k ih=>intro p s hn h1;exact ih _ (Nat.le_trans hn (Nat.le_of_lt (Nat.lt_of_lt_of_eq (Nat.lt_succ_self _) (Heap.size_push ..).symm))) h1
 |rule _ k ih|«at» _ k ih|loadIfAlive _ k ih|point _ k ih|fresh k ih|ask k ih|os _ _ k ih|handled _ k ih|newGen _ k ih|stack k ih|thread k ih=>intro p s hn h1;exact ih _ hn h1
 |load a _ k ih|genState a k ih=>rintro p s hn⟨o,ho,h1⟩;exact⟨o,ho,ih _ hn h1⟩
 |update a _ f k ih=>rintro p s hn⟨ha,h1⟩;exact⟨ha,ih _ (Nat.le_trans hn (Nat.le_of_eq (Heap.SameBut.update _ _ _).1.symm)) h1⟩
 |choose _ _ k ih=>rintro p s hn⟨ha,h1⟩;exact⟨ha,ih _ hn h1⟩
 |call c h g l k ih=>
  rintro p s hn⟨r,s',hr,h1⟩
  exact⟨r,s',hr,ih _ (Nat.le_trans hn (Runs.grow hr)) h1⟩
 |resume g r l k ih=>
  rintro p s hn⟨res,s',hw,h1⟩
  exact⟨res,s',hw,ih _ (Nat.le_trans hn (Wakes.grow hw)) h1⟩
theorem a7n{α:Type}{M:Model}{A:Around}{E:Value→Shared→Prop}{s:Shared}{t:Sem α}{Q:α→Shared→Prop}(h:wpAny M A t Q E s):wpAny M A t (fun a s'=>s.heap.objs.size≤s'.heap.objs.size∧Q a s') E s:=
 fun Γ p hΓ=>ae1 t (Nat.le_refl _) (h Γ p hΓ)
theorem av{α:Type}{M:Model}{A:Around}{E:Value→Shared→Prop}{s:Shared}{t:Sem α}{Q:α→Shared→Prop}(h:wpAny M A t (fun a s'=>s.heap.objs.size≤s'.heap.objs.size→Q a s') E s):wpAny M A t Q E s:=
 wpAny_mono (a7n h) (fun _ _ z=>z.2 z.1) fun _ _ z=>z
end
section
open PySem PySem.W PySem.Calls PyProof.Rows PySem.Spec
theorem a16:∀{ds:List D}{l:List Int},v4 ds=some l→ds=l.map .int
 |[],l,e=>by(apply j8 e;clear e);rfl
 |d::r,l,e=>by
  cases d with
  |int i=>exact de e fun l' e1 e2=>by subst e2;exact congrArg (_::·) (a16 e1)
  |_=>exact no e
theorem zp:∀{ds:List D}{l:List Bool},mj ds=some l→ds=l.map .bool
 |[],l,e=>by(apply j8 e;clear e);rfl
 |d::r,l,e=>by
  cases d with
  |bool i=>exact de e fun l' e1 e2=>by subst e2;exact congrArg (_::·) (zp e1)
  |_=>exact no e
theorem a6o{C:Cfg}{h:Heap}{B:Addr→Prop}{vs:List Value}{l:List Int}(r:RepDs C h B vs (l.map .int)):∃ps:List (Int×Tok),vs=ps.map (fun p=>.int p.1 p.2)∧ps.map (·.1)=l:=by
 induction l generalizing vs with
 |nil=>exact a89 r fun e=>⟨[],e,rfl⟩
 |cons i l ih=>exact aa1 r fun u us e a r=>gd a fun t ht=>ar (ih r) fun ps h1 h2=>⟨(i,t)::ps,by rw[e,ht,h1];rfl,congrArg (i::·) h2⟩
theorem ab9{C:Cfg}{h:Heap}{B:Addr→Prop}{vs:List Value}{l:List Bool}(r:RepDs C h B vs (l.map .bool)):vs=l.map .bool:=by
 induction l generalizing vs with
 |nil=>exact a89 r id
 |cons i l ih=>exact aa1 r fun u us e a r=>yv a fun hu=>by rw[e,hu,ih r];rfl
theorem rc (ps:List (Int×Tok))(i:Nat):numAt ps.toArray i=((ps.map (·.1))[i]?).getD 0:=by simp[numAt]
theorem a1b (bt:Int→Int→Bool) (f:Int→Int→Int) (hf:∀a b,f a b=if bt b a then b else a) (ps:List (Int×Tok)) (x:Int) (r:List Int) (hp:ps.map (·.1)=x::r):∀k,k≤r.length→
  numAt ps.toArray (argBest (fun i j=>bt (numAt ps.toArray i) (numAt ps.toArray j)) k)=(r.take k).foldl f x
 |0,_=>by simp only[argBest,rc,hp];rfl
 |k+1,hk=>by
  have ih:=a1b bt f hf ps x r hp k (by exact akh hk)
  have e:r.take (k+1)=r.take k++[r[k]'(by exact om4 hk)]:=by rw[List.take_succ_eq_append_getElem]
  have hv:numAt ps.toArray (k+1)=r[k]'(by exact om4 hk):=by rw[rc,hp,List.getElem?_cons_succ,List.getElem?_eq_getElem (by exact om4 hk)];rfl
  rw[e,List.foldl_append,List.foldl_cons,List.foldl_nil,hf,←ih]
  simp only[argBest]
  by_cases q:bt (r[k]'(by exact om4 hk)) (numAt ps.toArray (argBest (fun i j=>bt (numAt ps.toArray i) (numAt ps.toArray j)) k))=true
  ·rw[if_pos q,if_pos (by rw[hv];exact q),hv]
  ·rw[if_neg q,if_neg (by rw[hv];exact q)]
theorem w3 (ps:List (Int×Tok)) (l:List Int) (hp:ps.map (·.1)=l):∀j,j≤l.length→preSum (numAt ps.toArray) j=(l.take j).sum
 |0,_=>by simp[preSum]
 |j+1,hj=>by
  rw[preSum,w3 ps l hp j (by exact akh hj),rc,hp,List.getElem?_eq_getElem (by exact om4 hj),List.take_succ_eq_append_getElem (by exact om4 hj),List.sum_append]
  simp
section
variable{C:Cfg}{A:Around}{X:Addr→Prop}{σ σ':Sto}{α:a7}{s:Shared}{E:Value→Shared→Prop}
theorem af7 {Q:Value→Shared→Prop}{u:Value}{v:V}{n:Nat}(r:SRel C X α σ s.heap) (ru:RepV C s.heap (Bad X σ α) α u v) (e:a95 σ v=some n) (h:∀t k,Q (.int n t) {s with toks:=k}):wpAny (model C.prog C.w) A (call (.builtin "len") [u]) Q E s:=by
 have hL:∀{a:Addr}{vs:List Value}{xs:List D},s.heap.PlainList a vs.toArray→vs.length≤1000001→RepDs C s.heap (Bad X σ α) vs xs→xs.length=n→wpAny (model C.prog C.w) A (call (.builtin "len") [.ref a]) Q E s:=by
  intro a vs xs hl hn rs e
  have l:=rs.length
  have big:(2:Int) ^ 63=9223372036854775808:=by decide
  refine call_len_list (PlainList.isList hl) (by rw[List.size_toArray];exact amd hn big) ?_
  rw[List.size_toArray,l,e]
  exact h _ _
 cases v with
 |m i=>
  refine isList (f:=fun xs=>some xs.length) e fun xs ho e=>?_
  obtain⟨p,hp,hu,_,vs,hl,hn,rs⟩:=ru.at r ho
  rw[hu]
  exact hL hl hn rs (Option.some.inj e)
 |d x=>cases x with
  |list xs=>exact vv (vd ru) fun a vs hu hl _ hn rs=>hu▸hL hl hn rs (Option.some.inj e)
  |tuple xs=>
   refine adk (vd ru) fun a vs hu hl _ hn rs=>?_
   have big:(2:Int) ^ 63=9223372036854775808:=by decide
   rw[hu]
   refine len_tuple hl (by rw[List.size_toArray];exact amd hn big) ?_
   rw[List.size_toArray,rs.length]
   exact(Option.some.inj e:xs.length=n)▸h _ _
  |_=>exact no e
theorem a03 {l:Addr}{o:Obj}{items:Array Value}{n:Nat}{Q:List Value→Shared→Prop}{prog:Program}{w:World}(ho:s.heap.get? l=some o) (hc:o.cls=.type "list") (hd:o.data=.seq items n)
  (h:∀h':Heap,(∀b o',s.heap.get? b=some o'→h'.get? b=some o')→s.heap.objs.size≤h'.objs.size→Q items.toList {s with heap:=h'}) (hsz:items.size≤sizeLine):wpAny (model prog w) A (collect (.ref l)) Q E s:=
 av (wpAny_collect_seq (hsz:=hsz) l (.inl rfl) ho hc hd fun h' hk hs=>h h' hk hs)
theorem v6 (l:Addr) (o:Obj) (items:Array Value) (n:Nat) (hc:o.cls=.type "list") (hd:o.data=.seq items n) (hsz:items.size≤sizeLine):
  Meets (Builtin.«tuple.__new__» ⟨[.type "tuple",.ref l],[]⟩)
   (fun _ R s=>s.heap.get? l=some o∧∀h':Heap,(∀b o',s.heap.get? b=some o'→h'.get? b=some o')→s.heap.objs.size≤h'.objs.size→R (.ok (.ret (.ref h'.objs.size))) {s with heap:=h'.push {cls:=.type "tuple",data:=.seq items}}):=
 .of_wp fun prog w A R s h=>by
  obtain⟨hp,g,d,tk,os⟩:=s;(refine bk h ?_;clear h;intro ht h)
  have hsub:=sub_tuple_self
  have hinit:=init_tuple_lookup
  have hmh:=madeHere_tuple
  have hT:Shared.TypeIs ⟨hp,g,d,tk,os⟩ (.ref l) "list":=⟨o,ht,hc⟩
  wp_walk using wpAny_loadPart' ht,wpAny_typeOf hT,a03 (hsz:=hsz) ht hc hd
  intro h' hk hs
  refine(?_:wpAny _ _ (Builtin.Tuple.tupleExact items.toList.toArray >>=fun v=>ret v) _ _ _)
  refine wpAny_bind (wpAny_newObj_type ?_ (by refine(?_:items.toList.toArray.size≤sizeLine);simpa using hsz))
  refine wpAny_pure ⟨_,rfl,?_⟩
  have e:items.toList.toArray=items:=by simp
  rw[e]
  exact h h' hk hs
theorem ve {prog:Program}{w:World}{l:Addr}{items:Array Value}{Q:Value→Shared→Prop}(hl:s.heap.IsList l items)
  (h:∀h':Heap,(∀b o',s.heap.get? b=some o'→h'.get? b=some o')→s.heap.objs.size≤h'.objs.size→Q (.ref h'.objs.size) {s with heap:=h'.push {cls:=.type "tuple",data:=.seq items}})
  (hsz:items.size≤sizeLine):wpAny (model prog w) A (call (.type "tuple") [.ref l]) Q E s:=by
 obtain⟨o,ho,hc,n,hd⟩:=hl
 exact callType_new F.called_tuple (by decide) (F.typeCall_tuple_1 _) (F.newCall_tuple_1 _) (fun obj=>F.args_object_init_2 obj _) F.entry_tuple_new
  (v6 l o items n hc hd hsz) ⟨ho,fun h' hk hs=>⟨⟨_,Heap.get?_push_size _ rfl,rfl⟩,h h' hk hs⟩⟩
noncomputable def bOn(f:D→Option D)(σ:Sto)(vs:List V):Option D:=match vs with|[v]=>(peek σ v).bind f|_=>none
noncomputable def a65(g:List Int→Option D):D→Option D
 |.list xs=>(v4 xs).bind g
 |_=>none
noncomputable def a24 (two:Int→Int→Int)(all:List Int→Option Int)(σ:Sto)(vs:List V):Option D:=match vs with
 |[.d (.int a),.d (.int b)]=>some (.int (two a b))
 |[v]=>(peek σ v).bind (a65 fun l=>(all l).map .int)
 |_=>none
noncomputable def ale (σ:Sto)(vs:List V):Option D:=match vs with|[v]=>(a95 σ v).map fun(n:Nat)=>.int (n:Int)|_=>none
noncomputable def akl:D→Option D
 |.list xs=>(mj xs).map fun l=>.bool (l.all id)
 |_=>none
noncomputable def akm:D→Option D
 |.list xs=>some (.tuple xs)
 |.tuple xs=>some (.tuple xs)
 |_=>none
noncomputable def aky:D→Option D
 |.list xs=>some (.list xs)
 |_=>none
noncomputable def alk (vs:List V):Option D:=match vs with|[.d (.int a)]=>some (.int a)|_=>none
noncomputable def alr (l:List Int):Option D:=if fe l.length&&l.all (fun i=>decide (0≤i)&&decide (i≤1000000))then some (.int l.sum)else none
theorem on1{C:Cfg}{h:Heap}{B:Addr→Prop}{P:Prop}{f:D→Option D}{us:List Value}{vs:List V}{d:D}(rs:RepVs C h B α us vs)(e:bOn f σ vs=some d)(k:∀u v x,us=[u]→RepV C h B α u v→peek σ v=some x→f x=some d→P):P:=by
 cases vs with
 |nil=>exact no e
 |cons v t=>cases t with
  |nil=>exact rs1 rs fun u hu a=>bj e fun x e1 e2=>k u _ x hu a e1 e2
  |cons _ _=>exact no e
theorem afr{P:Prop}{g:List Int→Option D}{u:Value}{v:V}{x d:D}(r:SRel C X α σ s.heap) (a:RepV C s.heap (Bad X σ α) α u v) (e1:peek σ v=some x) (e:a65 g x=some d)
  (k:∀ad (ps:List (Int×Tok)) l,u=.ref ad→s.heap.IsList ad (intItems ps.toArray)→ps.length≤1000001→ps.map (·.1)=l→g l=some d→P):P:=by
 cases x<;>try exact no e
 refine bj e fun l e2 e3=>?_
 obtain⟨ad,ws,hu,hl,hn,hw⟩:=a.peek r e1
 rw[a16 e2]at hw
 obtain⟨ps,rfl,hps⟩:=a6o hw
 exact k ad ps l hu ((show(ps.map fun p=>Value.int p.1 p.2).toArray=intItems ps.toArray by simp[intItems])▸PlainList.isList hl) (by rw[List.length_map]at hn;exact hn) hps e3
noncomputable def qc (C:Cfg) (A:Around) (E:Value→Shared→Prop) (s:Shared) (us:List Value) (Q:Value→Shared→Prop) (f:Str):Prop:=∃bv,bootBuiltins f=some bv∧(∀a,bv≠.ref a)∧wpAny (model C.prog C.w) A (call bv us) Q E s
theorem qc.of{us:List Value}{Q:Value→Shared→Prop}{f g:Str}(e:(f==g)=true)(h:qc C A E s us Q g):qc C A E s us Q f:=eq_of_beq e▸h
theorem qc.bi{us:List Value}{Q:Value→Shared→Prop}{f:Str}{b:String}(e:bootBuiltins f=some (.builtin b)) (h:wpAny (model C.prog C.w) A (call (.builtin b) us) Q E s):qc C A E s us Q f:=⟨_,e,(fun a q=>by cases q),h⟩
theorem qc.ty{us:List Value}{Q:Value→Shared→Prop}{f:Str}{b:String}(e:bootBuiltins f=some (.type b)) (h:wpAny (model C.prog C.w) A (call (.type b) us) Q E s):qc C A E s us Q f:=⟨_,e,(fun a q=>by cases q),h⟩
noncomputable def a0r (C:Cfg) (X:Addr→Prop) (α:a7) (σ:Sto) (s:Shared) (d:D) (Q:Value→Shared→Prop):Prop:=∀x s',Step C X α σ s α σ s'→RepD C s'.heap (Bad X σ α) x d→Q x s'
theorem a0r.kp {d:D}{Q:Value→Shared→Prop}(r:SRel C X α σ s.heap) (h:a0r C X α σ s d Q) {h':Heap}{t:Nat}{x:Value}(hk:∀b o,s.heap.get? b=some o→h'.get? b=some o) (hs:s.heap.objs.size≤h'.objs.size) (rx:RepD C h' (Bad X σ α) x d):Q x {s with heap:=h',toks:=t}:=h _ _ (Step.keepAll r hk hs _) rx
section
variable{Q:Value→Shared→Prop}{us:List Value}{vs:List V}{d:D}
theorem agv (r:SRel C X α σ s.heap) (rs:RepVs C s.heap (Bad X σ α) α us vs) (e:ale σ vs=some d) (h:a0r C X α σ s d Q):qc C A E s us Q "len":=by
 refine .bi boot_len ?_
 cases vs with
 |nil=>exact no e
 |cons v t=>cases t with
  |nil=>exact rs1 rs fun u hu a=>de e fun n e1 e2=>hu▸af7 r a e1 fun t k=>h _ _ (Step.tok r k) (e2▸.int _ t)
  |cons _ _=>exact no e
theorem ak6{P:Prop}{v w:V}{t:List V}{d:D}{two:Int→Int→Int}{all:List Int→Option Int}(e:a24 two all σ (v::w::t)=some d)(k:∀a b,v=.d (.int a)→w=.d (.int b)→t=[]→some (D.int (two a b))=some d→P):P:=by
 revert e;generalize hv:v=v',hw:w=w',ht:t=t';intro e
 cases v' with
 |m _=>cases t'<;>exact no e
 |d x=>cases x with
  |int a=>cases w' with
   |m _=>cases t'<;>exact no e
   |d y=>cases y with
    |int b=>cases t' with
     |nil=>exact k a b hv hw ht e
     |cons _ _=>exact no e
    |_=>cases t'<;>exact no e
  |_=>cases t'<;>exact no e
theorem a8c{P:Prop}{two:Int→Int→Int}{all:List Int→Option Int}(r:SRel C X α σ s.heap) (rs:RepVs C s.heap (Bad X σ α) α us vs) (e:a24 two all σ vs=some d)
  (h2:∀a b t t',us=[.int a t,.int b t']→d=.int (two a b)→P) (h1:∀ad (ps:List (Int×Tok)) l i,us=[.ref ad]→s.heap.IsList ad (intItems ps.toArray)→ps.length≤1000001→ps.map (·.1)=l→all l=some i→d=.int i→P):P:=by
 cases vs with
 |nil=>exact no e
 |cons v t=>cases t with
  |nil=>
   have e:(peek σ v).bind (a65 fun l=>(all l).map .int)=some d:=by
    cases v with
    |m _=>exact e
    |d x=>cases x<;>exact e
   exact rs1 rs fun u hu a=>bj e fun x e1 e2=>afr r a e1 e2 fun ad ps l hu' hl hn hp e3=>de e3 fun i e4 e5=>h1 ad ps l i (by rw[hu,hu']) hl hn hp e4 e5.symm
  |cons w t=>
   refine ak6 e fun a b hv hw ht e=>?_
   rw[hv,hw,ht]at rs
   exact rs2 rs fun u u' hu a a'=>a0h a fun t e1=>a0h a' fun t' e2=>h2 _ _ t t' (by rw[hu,e1,e2]) (Option.some.inj e).symm
theorem a8n{bt:Int→Int→Bool}{two:Int→Int→Int}(hf:∀a b,two a b=if bt b a then b else a){ps:List (Int×Tok)}{x:Int}{r:List Int}(hps:ps.map (·.1)=x::r):numAt ps.toArray (argBest (fun i j=>bt (numAt ps.toArray i) (numAt ps.toArray j)) (ps.toArray.size-1))=r.foldl two x:=by
 have hlen:ps.length=r.length+1:=by have:=congrArg List.length hps;rw[List.length_map]at this;exact this
 rw[List.size_toArray,hlen,Nat.add_sub_cancel,a1b bt two hf ps x r hps r.length (Nat.le_refl _),List.take_length]
theorem agc (hh:A.handled=none) (r:SRel C X α σ s.heap) (rs:RepVs C s.heap (Bad X σ α) α us vs) (e:a24 (fun a b=>if b<a then b else a) afn σ vs=some d) (h:a0r C X α σ s d Q):qc C A E s us Q "min":=by
 refine .bi boot_min (a8c r rs e (fun a b t t' hu hd=>?_) fun ad ps l i hu hl hn hp e1 hd=>?_)
 ·subst hu;subst hd
  refine av (min_two_ints hh fun h' tk hk hs=>h.kp r hk hs ?_)
  split<;>exact .int _ _
 ·subst hu;subst hd
  cases l with
  |nil=>exact no e1
  |cons x l=>
   refine av (min_intList hh hl (by rw[List.size_toArray,←List.length_map (f:=(·.1)),hp];exact Nat.succ_pos _) fun v h' tk hv hk hs=>h.kp r hk hs ?_)
   obtain⟨t,rfl⟩:=intItems_at hv
   rw[a8n (bt:=fun a b=>decide (a<b)) (two:=fun a b=>if b<a then b else a) (fun a b=>by simp) hp]
   (revert h;apply j8 e1;clear e1;intro h)
   exact .int _ _
theorem ahu (hh:A.handled=none) (r:SRel C X α σ s.heap) (rs:RepVs C s.heap (Bad X σ α) α us vs) (e:a24 (fun a b=>if a<b then b else a) aev σ vs=some d) (h:a0r C X α σ s d Q):qc C A E s us Q "max":=by
 refine .bi boot_max (a8c r rs e (fun a b t t' hu hd=>?_) fun ad ps l i hu hl hn hp e1 hd=>?_)
 ·subst hu;subst hd
  refine av (max_two_ints hh fun h' tk hk hs=>h.kp r hk hs ?_)
  split<;>exact .int _ _
 ·subst hu;subst hd
  cases l with
  |nil=>exact no e1
  |cons x l=>
   refine av (max_intList hh hl (by rw[List.size_toArray,←List.length_map (f:=(·.1)),hp];exact Nat.succ_pos _) fun v h' tk hv hk hs=>h.kp r hk hs ?_)
   obtain⟨t,rfl⟩:=intItems_at hv
   rw[a8n (bt:=fun a b=>decide (a > b)) (two:=fun a b=>if a<b then b else a) (fun a b=>by simp) hp]
   (revert h;apply j8 e1;clear e1;intro h)
   exact .int _ _
theorem ah7 (hh:A.handled=none) (r:SRel C X α σ s.heap) (rs:RepVs C s.heap (Bad X σ α) α us vs) (e:bOn (a65 alr) σ vs=some d) (h:a0r C X α σ s d Q):qc C A E s us Q "sum":=by
 refine .bi boot_sum (on1 rs e fun u v x hu a e1 e2=>afr r a e1 e2 fun ad ps l hu' hl hn hp e3=>?_)
 subst hu;subst hu'
 refine ai e3 (fun hr e3=>?_) fun _ e=>no e
 (revert h;apply j8 e3;clear e3;intro h)
 refine av (PySem.sum_intListG hh hl fun h' tk t' hk hs=>h.kp r hk hs ?_)
 have hlen:ps.length=l.length:=by rw[←hp,List.length_map]
 rw[List.size_toArray,w3 ps l hp ps.length (Nat.le_of_eq hlen),hlen,List.take_length]
 exact .int _ _
theorem aaz (l:List Bool):((List.range (l.map Value.bool).toArray.size).all fun i=>(l[i]?).getD true)=l.all id:=by
 rw[List.size_toArray,List.length_map,Bool.eq_iff_iff]
 simp only[List.all_eq_true,List.mem_range,id]
 constructor
 ·intro h x hx
  obtain⟨i,hi,rfl⟩:=List.getElem_of_mem hx
  have:=h i hi
  rw[List.getElem?_eq_getElem hi]at this
  exact this
 ·intro h i hi
  rw[List.getElem?_eq_getElem hi]
  exact h _ (List.getElem_mem _)
theorem ah8 (hh:A.handled=none) (r:SRel C X α σ s.heap) (rs:RepVs C s.heap (Bad X σ α) α us vs) (e:bOn akl σ vs=some d) (h:a0r C X α σ s d Q):qc C A E s us Q "all":=by
 refine .bi boot_all (on1 rs e fun u v x hu a e1 e2=>?_)
 subst hu
 cases x<;>try exact no e2
 refine de e2 fun l e3 e4=>?_
 obtain ⟨ad,ws,rfl,hl,hn,hw⟩:=a.peek r e1
 rw[zp e3]at hw
 cases ab9 hw
 (revert h;apply re1 e4;clear e4;intro h)
 have hlt:ad<s.heap.objs.size:=by obtain ⟨_,e⟩:=hl;exact Heap.lt_size e
 refine av (call_all_walk (wpAny_pyIter_list (PlainList.isList hl) ⟨_,_,_,_,_,_,fun i=>(l[i]?).getD true,rfl,Walks.list (A:=A.in1) hh s.heap.objs.size ad (Nat.ne_of_lt hlt) (l.map Value.bool).toArray,⟨⟨_,Heap.get?_push_size _ rfl,rfl,rfl⟩,(PlainList.isList hl).push _⟩,fun i v s Q E hP hQ=>?_,fun h' tk hk hs=>?_⟩))
 ·simp only[List.getElem?_toArray,List.getElem?_map,Option.map_eq_some_iff]at hP
  obtain ⟨b,hb,rfl⟩:=hP
  have hQ:Q ((l[i]?).getD true) s:=hQ
  rw[hb]at hQ
  exact wpAny_truthy_bool hQ
 ·rw[aaz l]
  exact h.kp r (old_kept (s:=s) (l:=ad) hk) hs (.bool _)
theorem ac4 (r:SRel C X α σ s.heap) (rs:RepVs C s.heap (Bad X σ α) α us vs) (e:bOn akm σ vs=some d) (h:a0r C X α σ s d Q):qc C A E s us Q "tuple":=by
 refine .ty (b:="tuple") (by decide+kernel) (on1 rs e fun u v x hu a e1 e2=>?_)
 subst hu
 have RT:=a.peek r e1
 cases x<;>try exact no e2
 ·(revert h;apply j8 e2;clear e2;intro h)
  have RT':RepD C s.heap (Bad X σ α) _ (.tuple _):=RT
  cases RT' with
  |tuple hl nb hn rs'=>exact call_tuple_same hl (h _ _ (Step.refl r) (.tuple hl nb hn rs'))
 ·(revert h;apply j8 e2;clear e2;intro h)
  obtain⟨ad,ws,rfl,hl,hn,hw⟩:=RT
  refine ve (PlainList.isList hl) (fun h' hk sz=>?_) (by rw[List.size_toArray];unfold sizeLine;omega)
  have S₁:=Step.keepAll r hk sz s.toks
  refine bk (kx S₁.srel (S₁.repDs r hw) hn s.toks 0) fun S₂ R₂=>h _ _ (S₁.trans S₂) R₂
theorem af1 (r:SRel C X α σ s.heap) (rs:RepVs C s.heap (Bad X σ α) α us vs) (e:bOn aky σ vs=some d) (h:a0r C X α σ s d Q):qc C A E s us Q "list":=by
 refine .ty (b:="list") (by decide+kernel) (on1 rs e fun u v x hu a e1 e2=>?_)
 subst hu
 have RT:=a.peek r e1
 cases x<;>try exact no e2
 (revert h;apply j8 e2;clear e2;intro h)
 obtain ⟨ad,ws,rfl,⟨n,hl⟩,hn,hw⟩:=RT
 refine av (call_list_seq ad (.inl rfl) hl rfl rfl (fun h' c' hk hn' sz=>?_) (by rw[List.size_toArray];unfold sizeLine;omega))
 have S₁:=Step.keepAll r hk sz s.toks
 exact h _ _ S₁ (.list ⟨_,hn'⟩ (gv r (Nat.le_refl _)) hn (S₁.repDs r hw))
theorem ah0 (r:SRel C X α σ s.heap) (rs:RepVs C s.heap (Bad X σ α) α us vs) (e:alk vs=some d) (h:a0r C X α σ s d Q):qc C A E s us Q "int":=by
 refine .ty (b:="int") (by decide+kernel) ?_
 cases vs with
 |nil=>exact no e
 |cons v t=>cases t with
  |nil=>cases v with
   |m _=>exact no e
   |d x=>cases x with
    |int a=>exact rs1 rs fun u hu q=>a0h q fun t e1=>hu▸e1▸call_int_int (h _ _ (Step.refl r) (Option.some.inj e▸.int _ _))
    |_=>exact no e
  |cons _ _=>
   cases v with
   |m _=>exact no e
   |d x=>cases x<;>exact no e
end
theorem a48{Q:Value→Shared→Prop}{f:Str}{us:List Value}{vs:List V}{d:D}(hh:A.handled=none) (r:SRel C X α σ s.heap) (rs:RepVs C s.heap (Bad X σ α) α us vs) (e:builtin f σ vs=some d)
  (h:∀x s',Step C X α σ s α σ s'→RepD C s'.heap (Bad X σ α) x d→Q x s'):∃bv,bootBuiltins f=some bv∧(∀a,bv≠.ref a)∧wpAny (model C.prog C.w) A (call bv us) Q E s:=
 have e:(if f==("len":Str) then ale σ vs else if f==("min":Str) then a24 (fun a b=>if b<a then b else a) afn σ vs else if f==("max":Str) then a24 (fun a b=>if a<b then b else a) aev σ vs
  else if f==("sum":Str) then bOn (a65 alr) σ vs else if f==("all":Str) then bOn akl σ vs else if f==("tuple":Str) then bOn akm σ vs else if f==("list":Str) then bOn aky σ vs else if f==("int":Str) then alk vs else none)=some d:=e
 ai (P:=qc C A E s us Q f) e (fun q e=>.of q (agv r rs e h)) fun _ e=>ai e (fun q e=>.of q (agc hh r rs e h)) fun _ e=>ai e (fun q e=>.of q (ahu hh r rs e h)) fun _ e=>ai e (fun q e=>.of q (ah7 hh r rs e h)) fun _ e=>
  ai e (fun q e=>.of q (ah8 hh r rs e h)) fun _ e=>ai e (fun q e=>.of q (ac4 r rs e h)) fun _ e=>ai e (fun q e=>.of q (af1 r rs e h)) fun _ e=>ai e (fun q e=>.of q (ah0 r rs e h)) fun _ e=>no e
end
noncomputable def kl (K:Frag):Key→Option Addr
 |.fn f=>match nsIn K mainGlobals f with|some (some (.ref a))=>some a|_=>none
 |.meth c m=>(dl K c).bind fun ca=>match findIn K (.ref ca) m with|some (some (.ref f))=>some f|_=>none
noncomputable def a10 (K:Frag)(k:Key)(fa:Addr):Bool:=keepIn K (.ref fa)&&(match k with|.meth _ _=>isFn K (.ref fa)|_=>true)
structure FxOk (C:Cfg) (A:Around) (Φ:Fx):Prop where
 pure:∀k ds d,Φ.pure k ds=some d→∃fa,kl C.K k=some fa∧a10 C.K k fa=true∧∀(X:Addr→Prop) (α:a7) (σ:Sto) (s:Shared) (us:List Value) (E:Value→Shared→Prop) (Q:Value→Shared→Prop),SRel C X α σ s.heap→RepDs C s.heap (Bad X σ α) us ds→
  (∀v s',Step C X α σ s α σ s'→RepD C s'.heap (Bad X σ α) v d→Q v s')→wpAny (model C.prog C.w) A (call (.ref fa) us) Q E s
 eff:∀k vs σ W σ',Φ.eff k vs σ=some (W,σ')→∃fa,kl C.K k=some fa∧a10 C.K k fa=true∧∀(X:Addr→Prop) (α:a7) (s:Shared) (us:List Value) (E:Value→Shared→Prop) (Q:Value→Shared→Prop),SRel C X α σ s.heap→RepVs C s.heap (Bad X σ α) α us vs→
  CQ C X α σ s W σ' Q→wpAny (model C.prog C.w) A (call (.ref fa) us) Q E s
section
variable{C:Cfg}{A:Around}{env:Env}{X:Addr→Prop}{ρ:Rho}{sc:Scope}{ev:Expr→Sto→Option (V×Sto)}{σ σ':Sto}{W:V}{Φ:Fx}
theorem a33{M:Model}{E:Value→Shared→Prop}{s:Shared}{f:Value}{args:List (Bool×Sem Value)}{Q:Args→Shared→Prop}(hp:args.any (·.1)=false) (h:wpAny M A (spliced args) (fun vs s'=>Q ⟨vs,[]⟩ s') E s):
  wpAny M A (evalArgs f true args []) Q E s:=by
 cases args with
 |nil=>
  refine(?_:wpAny M A (spliced []>>=_) Q E s)
  refine wpAny_bind (wpAny_mono h (fun vs s' h'=>?_) fun _ _ x=>x)
  refine wpAny_holding ?_
  exact wpAny_bind (wpAny_pure (wpAny_bind (wpAny_pure (wpAny_pure h'))))
 |cons x rest=>
  obtain⟨b,m⟩:=x
  simp only[List.any_cons,Bool.or_eq_false_iff]at hp
  refine bk hp ?_;clear hp;intro rf0 _;subst rf0
  exact evalArgs_plain h
theorem ju (N:di ev):∀(es:List Expr)(σ:Sto)(r:_),fj ev es σ=some r→∀p:Pos,(backTo p (starEach es env)).any (·.1)=false
 |[],_,_,_,_=>rfl
 |x::rest,σ,r,e,p=>by
  refine ag e ?_;clear e;intro V₁ σ₁ e1 e
  refine nt e ?_;clear e;intro Vs σ₂ e2 e
  rw[um (xf N e1)]
  exact ju N rest σ₁ _ e2 p
theorem d9 (K:EnvOk C env sc X) (T:bu C A env X ρ ev) (N:di ev){es:List Expr}{p q:Pos}{f:Value}{first:List Value}{Vs:List V}{P:Heap→Prop}(e:fj ev es σ=some (Vs,σ'))
  (hk:∀h,P h→∃k,(k=Keeper.frame∨k=Keeper.machine∨k=Keeper.boundFrame)∧Looks (model C.prog C.w) h (keeperOf f) k){E:Value→Shared→Prop}{Q:Value→Shared→Prop}{s:Shared}{α:a7}(r:SRel C X α σ s.heap) (er:b0 C env ρ X α σ s.heap)
  (h:∀vs α' s',Step C X α σ s α' σ' s'→RepVs C s'.heap (Bad X σ' α') α' vs Vs→P s'.heap∧wpAny (model C.prog C.w) A (call f (first++vs)) Q E s'):wpAny (model C.prog C.w) A (callWith p f first (backTo q (starEach es env)) []) Q E s:=by
 have hp:=ju (env:=env) N es σ _ e q
 refine callWith_of (P:=P) (by rw[hp];rfl) hk (a33 hp ?_)
 exact a80 K T N es σ Vs σ' e E _ s α r er fun vs α' s' S R=>h vs α' s' S R
theorem ml (O:Ok C){s:Shared}{α:a7}(r:SRel C X α σ s.heap):C.K.In s.heap:=fun a o e=>r.stays _ _ (O.kin a o e)
theorem pf (K:EnvOk C env sc X){f:Str}{fp p:Pos}{es:List Expr}{fv:Value}{E:Value→Shared→Prop}{Q:Value→Shared→Prop}{s:Shared}(hf:sc.names.lookup f=some .globalImplicit) (hl:∀{Q:Value→Shared→Prop},Q fv s→wpAny (model C.prog C.w) A (loadGlobal env f) Q E s)
  (h:wpAny (model C.prog C.w) A (callWith p fv [] (backTo p (starEach es env)) []) Q E s):wpAny (model C.prog C.w) A (eval (.Call (.Name f fp) es [] p) env) Q E s:=
 Call_ (Name_function_global K.kind (K.glob f hf) (hl h) (sy K hf)) rfl
theorem ane{P:Prop}{β:Type}{o:Option (Option Value)}{f:Addr→Option β}{z:β}(e:(match o with|some (some (.ref a))=>f a|_=>none)=some z)(k:∀a,o=some (some (.ref a))→f a=some z→P):P:=by
 cases o with
 |none=>exact no e
 |some o=>cases o with
  |none=>exact no e
  |some v=>cases v with
   |ref=>exact k _ rfl e
   |_=>exact no e
theorem ac8{K:Frag}{f:Str}{fa:Addr}(h:kl K (.fn f)=some fa):nsIn K mainGlobals f=some (some (.ref fa)):=by
 exact ane h fun a e h=>by cases h;exact e
theorem a8h (O:Ok C) (K:EnvOk C env sc X){f:Str}{fa:Addr}{s:Shared}{α:a7}{E:Value→Shared→Prop}(r:SRel C X α σ s.heap) (h:kl C.K (.fn f)=some fa){Q:Value→Shared→Prop}(hq:Q (.ref fa) s):wpAny (model C.prog C.w) A (loadGlobal env f) Q E s:=
 loadGlobal_global (mg:=C.mg) (by rw[K.globals];exact O.g.keeps r.stays) (mg_of O.kin O.g (ac8 h)) hq
theorem a3r (O:Ok C) (K:EnvOk C env sc X) (F:FxOk C A Φ) (T:bu C A env X ρ ev) (N:di ev){f:Str}{fp p:Pos}{es:List Expr}(hf:sc.names.lookup f=some .globalImplicit)
  (e:((fj ev es σ).bind fun p=>(a00 p.1 p.2).bind fun q=>(Φ.pure (.fn f) q.1).map fun d=>(V.d d,q.2))=some (W,σ')):Snd C A env X ρ (.Call (.Name f fp) es [] p) σ W σ':=by
 intro E Q s α r er h
 refine ag e ?_;clear e;intro Vs σ₁ e1 e
 refine ag e ?_;clear e;intro ds σ₂ e2 e
 refine de e ?_;clear e;intro d e3 e
 (revert h;apply re2 e;clear e;intro h)
 refine dz (F.pure _ _ _ e3) ?_;intro fa hk ho hc
 replace ho:=(tt ho).1
 refine pf K hf (a8h O K r hk) (d9 K T N e1 (keeps_K ho) r er fun vs α' s' S R=>⟨ml O S.srel,?_⟩)
 refine bk (xy S.srel R e2) ?_;intro S' R'
 exact hc X α' σ₂ s' vs E Q S'.srel R' fun v s'' S'' R''=>h _ _ _ ((S.trans S').trans S'') (.d R'') fun q=>by cases q
theorem a5r (O:Ok C) (K:EnvOk C env sc X) (F:FxOk C A Φ) (T:bu C A env X ρ ev) (N:di ev){f:Str}{fp p:Pos}{es:List Expr}(hf:sc.names.lookup f=some .globalImplicit)
  (e:((fj ev es σ).bind fun p=>Φ.eff (.fn f) p.1 p.2)=some (W,σ')):Snd C A env X ρ (.Call (.Name f fp) es [] p) σ W σ':=by
 intro E Q s α r er h
 refine ag e ?_;clear e;intro Vs σ₁ e1 e
 refine dz (F.eff _ _ _ _ _ e) ?_;intro fa hk ho hc
 replace ho:=(tt ho).1
 refine pf K hf (a8h O K r hk) (d9 K T N e1 (keeps_K ho) r er fun vs α' s' S R=>⟨ml O S.srel,?_⟩)
 exact hc X α' s' vs E Q S.srel R fun v α'' s'' S'' R''=>h _ _ _ (S.trans S'') R'' fun q=>by cases q
theorem ea{M:Model}{f:Value}(hf:∀a,f≠.ref a):∀h:Heap,True→∃k,(k=Keeper.frame∨k=Keeper.machine∨k=Keeper.boundFrame)∧Looks M h (keeperOf f) k:=fun h _=>by
 refine⟨.machine,.inr (.inl rfl),?_⟩
 have:keeperOf f=pure .machine:=by
  unfold keeperOf
  cases f<;>first|rfl|exact absurd rfl (hf _)
 exact Looks.of_pure this
theorem a44{f:Str}(hb:bw.contains f=true):∃bv,bootBuiltins f=some bv∧(∀a,bv≠.ref a):=by
 have all:(bw.all fun f=>(bootBuiltins f).any fun v=>match v with|.ref _=>false|_=>true)=true:=by decide+kernel
 have h:=List.all_eq_true.mp all f (List.contains_iff_mem.mp hb)
 cases q:bootBuiltins f with
 |none=>rw[q]at h;cases h
 |some v=>rw[q]at h;exact⟨v,rfl,fun a e=>by subst e;cases h⟩
theorem wy (O:Ok C) (hh:A.handled=none) (hfree:∀f,bw.contains f=true→C.mg f=none) (K:EnvOk C env sc X) (T:bu C A env X ρ ev) (N:di ev){f:Str}{fp p:Pos}{es:List Expr}(hf:sc.names.lookup f=some .globalImplicit) (hb:bw.contains f=true)
  (e:((fj ev es σ).bind fun p=>(builtin f p.2 p.1).map fun d=>(V.d d,p.2))=some (W,σ')):Snd C A env X ρ (.Call (.Name f fp) es [] p) σ W σ':=by
 intro E Q s α r er h
 refine ag e ?_;clear e;intro Vs σ₁ e1 e
 refine de e ?_;clear e;intro d e2 e
 (revert h;apply re2 e;clear e;intro h)
 have hname:f≠"__name__":=fun q=>by rw[q] at hb;revert hb;decide+kernel
 refine ar (a44 hb) ?_;intro bv hbv hnr
 refine pf K hf (fv:=bv) (fun hq=>loadGlobal_builtin (mg:=C.mg) (mb:=C.mb) (by rw[K.globals];exact O.g.keeps r.stays) (hfree f hb) (by rw[K.builtins];exact O.b.keeps r.stays) ((O.blt f hname).trans hbv) hq) ?_
 refine d9 K T N e1 (P:=fun _=>True) (ea hnr) r er fun vs α' s' S R=>⟨trivial,?_⟩
 refine dz (a48 (E:=E) (Q:=Q) hh S.srel R e2 fun v s'' S'' R''=>h _ _ _ (S.trans S'') (.d R'') fun q=>by cases q) ?_;intro bv' hbv' _ hc
 rw[hbv] at hbv';cases hbv'
 exact hc
theorem w5{o:Expr}{m:Str}{ap p:Pos}{es:List Expr}(hb:f8 o=true) (hl:(ap.endLine==p.line)=true) (hn:es.length<30) (hp:(backTo p (starEach es env)).any (·.1)=false):
  eval (.Call (.Attribute o m ap) es [] p) env=(do
   let ov←eval o env
   standAt ap.atName
   let(f,first)←holding [ov] (getMethod ov m (do return (←importBound o env).getD true))
   callWith p f first (backTo p (starEach es env)) (backToKw p (keywordEach [] env))):=by
 have hform:methodCallForm es.length (backTo p (starEach es env)) (backToKw p (keywordEach [] env))=true:=by
  unfold methodCallForm
  have h1:((backTo p (starEach es env)).all fun x=>!x.1)=true:=by
   refine List.all_eq_true.mpr fun x hx=>?_
   rw[eq_false_of_ne_true (List.any_eq_false.mp hp x hx)];rfl
  rw[h1]
  exact(Bool.true_and _).trans (decide_eq_true hn)
 show(do
   let ov←attributeBase o m env (eval o env)
   standAt ap.atName
   methodCall o m ap p env ov (es.length+0) (backTo p (starEach es env)) (backToKw p (keywordEach [] env)))=_
 rw[lu hb]
 unfold methodCall
 rw[Nat.add_zero,hform,show methodCallPos true o env ap p=pure p from if_pos hl]
 rfl
theorem a5c (K:EnvOk C env sc X) (T:bu C A env X ρ ev) (N:di ev){o:Expr}{m:Str}{ap p:Pos}{es:List Expr}(hb:f8 o=true) (hl:(ap.endLine==p.line)=true) (hn:es.length<30){V₁:V}{σ₁:Sto}{Vs:List V}{σ₂:Sto}(e1:ev o σ=some (V₁,σ₁)) (e2:fj ev es σ₁=some (Vs,σ₂))
  {f:Value}{P:Heap→Prop}(hk:∀h,P h→∃k,(k=Keeper.frame∨k=Keeper.machine∨k=Keeper.boundFrame)∧Looks (model C.prog C.w) h (keeperOf f) k)
  (hg:∀{E:Value→Shared→Prop}{Q:Value×List Value→Shared→Prop}{s:Shared}{α:a7}{u:Value}{pl:Sem Bool},SRel C X α σ₁ s.heap→RepV C s.heap (Bad X σ₁ α) α u V₁→Q (f,[u]) s→wpAny (model C.prog C.w) A (getMethod u m pl) Q E s)
  (hc:∀{E:Value→Shared→Prop}{Q:Value→Shared→Prop}{s:Shared}{α:a7}{u:Value}{us:List Value},SRel C X α σ₂ s.heap→RepV C s.heap (Bad X σ₂ α) α u V₁→RepVs C s.heap (Bad X σ₂ α) α us Vs→CQ C X α σ₂ s W σ' Q→P s.heap∧wpAny (model C.prog C.w) A (call f (u::us)) Q E s):
  Snd C A env X ρ (.Call (.Attribute o m ap) es [] p) σ W σ':=by
 intro E Q s α r er h
 refine methodCall_KW ?_ (w5 hb hl hn (ju N es σ₁ _ e2 p))
 refine(T _ _ _ _ e1).then K r er fun u α₁ s₁ S R r₁ er₁=>hg r₁ R ?_
 refine d9 K T N e2 (P:=P) hk r₁ er₁ fun vs α₂ s₂ S' R'=>?_
 exact hc S'.srel (S'.repV r₁ R) R' fun v α₃ s₃ S'' R''=>h _ _ _ ((S.trans S').trans S'') R'' fun q=>by cases q
noncomputable def agz(σ:Sto)(o:V)(m:Str):Prop:=∃b id,gn σ o=some b∧MethId b m id
theorem agz.of{o:V}{f g:Str}{b:Bool}{id:String}(e:(f==g)=true)(ht:gn σ o=some b)(h:MethId b g id):agz σ o f:=⟨b,id,ht,eq_of_beq e▸h⟩
theorem a7t{o:V}{m:Str}{vs:List V}(e:dm σ o m vs=some (W,σ')):agz σ o m:=by
 cases o with
 |m i=>
  refine a2q e (fun xs ho e=>?_) fun kd kvs ho e=>ai e (fun q _=>.of q (a4z ho) .get) fun _ e=>no e
  have t:=o8 ho
  exact ai e (fun q _=>.of q t .append) fun _ e=>ai e (fun q _=>.of q t .extend) fun _ e=>ai e (fun q _=>.of q t .insert) fun _ e=>ai e (fun q _=>.of q t .pop) fun _ e=>no e
 |d x=>
  cases x<;>try exact no e
  exact ai e (fun q _=>.of q rfl .get) fun _ e=>no e
noncomputable def aq6(m:Str):String:=if m==("append":Str)then"list.append"else if m==("extend":Str)then"list.extend"else if m==("insert":Str)then"list.insert"else if m==("pop":Str)then"list.pop"else"dict.get"
theorem MethId.id{b:Bool}{m:Str}{id:String}(h:MethId b m id):id=aq6 m:=by cases h<;>decide+kernel
theorem a40 (K:EnvOk C env sc X) (T:bu C A env X ρ ev) (N:di ev){o:Expr}{m:Str}{ap p:Pos}{es:List Expr}(hb:f8 o=true) (hl:(ap.endLine==p.line)=true) (hn:es.length<30){V₁:V}{σ₁:Sto}{Vs:List V}{σ₂:Sto}(e1:ev o σ=some (V₁,σ₁)) (e2:fj ev es σ₁=some (Vs,σ₂))
  (ht:gn σ₁ V₁=gn σ₂ V₁) (e3:dm σ₂ V₁ m Vs=some (W,σ')):Snd C A env X ρ (.Call (.Attribute o m ap) es [] p) σ W σ':=by
 intro E Q s α r er h
 refine methodCall_KW ?_ (w5 hb hl hn (ju N es σ₁ _ e2 p))
 refine(T _ _ _ _ e1).then K r er fun u α₁ s₁ S R r₁ er₁=>?_
 refine a8p (a7t e3) ?_;intro b id hb hm
 refine a08 r₁ R (ht.trans hb) hm ?_
 refine d9 K T N e2 (P:=fun _=>True) (ea fun a q=>by cases q) r₁ er₁ fun vs α₂ s₂ S' R'=>⟨trivial,?_⟩
 obtain⟨b',id',hb',hm',hc⟩:=a6q (E:=E) (Q:=Q) S'.srel (S'.repV r₁ R) R' e3 fun v α₃ s₃ S'' R''=>h _ _ _ ((S.trans S').trans S'') R'' fun q=>by cases q
 rw[hb]at hb';cases hb'
 have:id=id':=hm.id.trans hm'.id.symm
 subst this
 exact hc
theorem aet (O:Ok C){s:Shared}{α:a7}{u:Value}{V₁:V}{m c:Str}(r:SRel C X α σ s.heap) (ru:RepV C s.heap (Bad X σ α) α u V₁) (e:m8 σ m V₁=some c):
  ∃x ox ca od,u=.ref x∧PySem.W.InstAt s.heap x ox ca od∧dl C.K c=some ca∧shadowIn od m=some false:=by
 have main:∀{cn:Str}{ca xa dx:Addr}{es:List DictEntry}{n:Nat}{l:List (Str×Value)},s.heap.get? xa=some (instObj ca dx)→s.heap.get? dx=some (dictOf es n)→dl C.K cn=some ca→oo es l→l.lookup m=none→
   ∃x ox ca od,Value.ref xa=.ref x∧PySem.W.InstAt s.heap x ox ca od∧dl C.K cn=some ca∧shadowIn od m=some false:=by
  intro cn ca xa dx es n l h1 h2 h3 h4 h5
  refine⟨xa,_,ca,some (dictOf es n),rfl,⟨h1,rfl,rfl,h2⟩,h3,?_⟩
  refine(?_:(lookIn m (dictOf es n)).map _=_)
  rw[lookIn_dict,h4.1,h5];rfl
 cases V₁ with
 |d x=>
  cases x<;>try exact no e
  refine ai e (fun hn e=>?_) fun _ e=>no e
  apply j8 e
  exact adt (vd ru) fun x dx c es n l hu h1 h2 hc hfl rf=>hu▸main h1 h2 hc hfl ((rf.look (k:=m)).2 (Option.isNone_iff_eq_none.mp hn))
 |m i=>
  refine ade e fun c fs ho e=>ai e (fun hn e=>?_) fun _ e=>no e
  apply j8 e
  refine vm ru fun p hp hu=>?_
  obtain⟨c',es,n,l,h1,h2,h3,h4,rk⟩:=r.obj i p _ hp ho
  exact hu▸main h1 h2 h3 h4 ((rk.look (k:=m)).2 (Option.isNone_iff_eq_none.mp hn))
theorem qk (O:Ok C){s:Shared}{α:a7}{u:Value}{V₁:V}{m c:Str}{fa:Addr}{pl:Sem Bool}{E:Value→Shared→Prop}{Q:Value×List Value→Shared→Prop}(r:SRel C X α σ s.heap) (ru:RepV C s.heap (Bad X σ α) α u V₁) (e:m8 σ m V₁=some c) (hk:kl C.K (.meth c m)=some fa)
  (ho:a10 C.K (.meth c m) fa=true) (h:Q (.ref fa,[u]) s):wpAny (model C.prog C.w) A (getMethod u m pl) Q E s:=by
 obtain⟨x,ox,ca,od,rfl,I,hc,hs⟩:=aet O r ru e
 refine bj hk fun ca' hc' hk=>?_
 rw[hc]at hc';cases hc'
 refine ane hk fun f hf hk=>?_
 cases hk
 have ok:=plainGet_of (tt (tt (O.cls c ca hc)).1).1
 exact method_fn (ml O r) I ok.1 ok.2 hf (beq_iff_eq.mp (tt ho).2) hs h
theorem a4j (O:Ok C) (K:EnvOk C env sc X) (F:FxOk C A Φ) (T:bu C A env X ρ ev) (N:di ev){o:Expr}{m c:Str}{ap p:Pos}{es:List Expr}(hb:f8 o=true) (hl:(ap.endLine==p.line)=true) (hn:es.length<30){V₁:V}{σ₁:Sto}{Vs:List V}{σ₂:Sto}(e1:ev o σ=some (V₁,σ₁)) (e2:fj ev es σ₁=some (Vs,σ₂))
  (hi:m8 σ₁ m V₁=some c) (e3:Φ.eff (.meth c m) (V₁::Vs) σ₂=some (W,σ')):Snd C A env X ρ (.Call (.Attribute o m ap) es [] p) σ W σ':=by
 refine dz (F.eff _ _ _ _ _ e3) ?_;intro fa hk ho hc
 have ho':keepIn C.K (.ref fa)=true:=(tt ho).1
 exact a5c K T N hb hl hn e1 e2 (f:=.ref fa) (P:=fun h=>C.K.In h) (keeps_K ho') (fun r ru hq=>qk O r ru hi hk ho hq)
  fun r ru rs hq=>⟨ml O r,hc X _ _ _ _ _ r (.cons ru rs) hq⟩
theorem a3p (O:Ok C) (K:EnvOk C env sc X) (F:FxOk C A Φ) (T:bu C A env X ρ ev) (N:di ev){o:Expr}{m c:Str}{ap p:Pos}{es:List Expr}(hb:f8 o=true) (hl:(ap.endLine==p.line)=true) (hn:es.length<30){V₁:V}{σ₁:Sto}{Vs:List V}{σ₂:Sto}(e1:ev o σ=some (V₁,σ₁)) (e2:fj ev es σ₁=some (Vs,σ₂))
  (hi:m8 σ₁ m V₁=some c) (e3:((a00 (V₁::Vs) σ₂).bind fun u=>(Φ.pure (.meth c m) u.1).map fun d=>(V.d d,u.2))=some (W,σ')):Snd C A env X ρ (.Call (.Attribute o m ap) es [] p) σ W σ':=by
 refine ag e3 ?_;clear e3;intro ds σ₃ e4 e3
 refine de e3 ?_;clear e3;intro d e5 e3
 (apply re2 e3;clear e3)
 refine dz (F.pure _ _ _ e5) ?_;intro fa hk ho hc
 have ho':keepIn C.K (.ref fa)=true:=(tt ho).1
 refine a5c K T N hb hl hn e1 e2 (f:=.ref fa) (P:=fun h=>C.K.In h) (keeps_K ho') (fun r ru hq=>qk O r ru hi hk ho hq) fun{E Q s α u us}r ru rs hq=>⟨ml O r,?_⟩
 refine bk (xy r (.cons ru rs) e4) ?_;intro S' R'
 exact hc X α σ₃ s (u::us) E Q S'.srel R' fun v s'' S'' R''=>hq _ _ _ (S'.trans S'') (.d R'')
end
theorem aex{h:Heap}{a:Addr}{m m':Str→Option Value}(x:h.Ns a m)(y:h.Ns a m'):m=m':=by
 obtain⟨o,es,ep,ho,hd,_,hf⟩:=x
 obtain⟨o',es',ep',ho',hd',_,hf'⟩:=y
 rw[ho]at ho';cases ho'
 rw[hd]at hd';cases hd'
 funext n
 rw[←hf,←hf']
section
variable{C:Cfg}{env:Env}{X X':Addr→Prop}{α α₀:a7}{σ σ₀:Sto}{s s₀:Shared}{sc:Scope}{ρ ρ' τ:Rho}
theorem a1e.keep{h h':Heap}(K:EnvOk C env sc X') (a:a1e env sc h) (hk:∀b o,X' b→b≠C.P→h.get? b=some o→h'.get? b=some o):a1e env sc h':=by
 refine bk a ?_;clear a;intro pq0 hc;obtain⟨m,hm⟩:=pq0
 refine⟨⟨m,hm.at' fun o e=>hk _ o K.xL K.nP.1 e⟩,fun x c h1 h2=>?_⟩
 refine a8p (hc x c h1 h2) ?_;intro v o ho hd
 exact⟨v,o,hk c o (K.xC x c h2) (K.nP.2 x c h2) ho,hd⟩
theorem t6(K:EnvOk C env sc X'){a:Addr}(o:Own env sc a):X' a:=by
 rcases o with rfl|⟨x,_,h⟩
 ·exact K.xL
 ·exact K.xC x a h
theorem dp(r:SRel C X' α σ s.heap){a:Addr}(x:X' a):¬Mut σ α a:=fun m=>by
 obtain⟨i,p,o,h1,_,_,q⟩:=m
 have:=r.notX i p h1
 rcases q with rfl|rfl
 ·exact this.1 x
 ·exact this.2 x
theorem SRel.poke{Y:Addr→Prop}{h h':Heap}(r:SRel C X' α σ h) (hY:∀a,Y a→X' a) (hP:¬Y C.P) (hk:∀a o,¬Y a→h.get? a=some o→h'.get? a=some o) (hs:h.objs.size≤h'.objs.size):SRel C X' α σ h':=by
 refine⟨r.len,fun i p o h1 h2=>(r.obj i p o h1 h2).mono (fun b o nb e=>hk b o (fun y=>nb (.inl (hY b y))) e) (fun _ _ _ n=>n) (fun _ _ e=>e) (fun o e=>hk _ o (fun y=>(r.notX i p h1).1 (hY _ y)) e) (fun o e=>hk _ o (fun y=>(r.notX i p h1).2 (hY _ y)) e),
  r.apart,r.notX,r.notBase,fun i p e=>⟨Nat.lt_of_lt_of_le (r.lt i p e).1 hs,Nat.lt_of_lt_of_le (r.lt i p e).2 hs⟩,r.xBase,fun a x=>Nat.lt_of_lt_of_le (r.xLt a x) hs,r.xP,fun b o e=>hk b o (fun y=>?_) (r.stays b o e),Nat.le_trans r.sz hs,r.tab.keep fun o e=>hk _ o hP e⟩
 rw[r.xBase b (hY b y)]at e
 cases e
theorem Step.poke {Y:Addr→Prop}{h':Heap}(r₀:SRel C X α₀ σ₀ s₀.heap) (up:∀a,X a→X' a) (S:Step C X α₀ σ₀ s₀ α σ s) (r:SRel C X' α σ s.heap) (hY:∀a,Y a→X' a∧s₀.heap.objs.size≤a)
  (hk:∀a o,¬Y a→s.heap.get? a=some o→h'.get? a=some o) (hs:s.heap.objs.size≤h'.objs.size) (t:Nat):Step C X α₀ σ₀ s₀ α σ {s with heap:=h',toks:=t}∧SRel C X' α σ h':=by
 have hP:¬Y C.P:=fun y=>absurd (r₀.xLt _ r₀.xP) (Nat.not_lt.mpr (hY _ y).2)
 have r':=r.poke (fun a y=>(hY a y).1) hP hk hs
 have old:∀a o,s₀.heap.get? a=some o→¬Y a:=fun a o e y=>absurd (Heap.lt_size e) (Nat.not_lt.mpr (hY _ y).2)
 refine a2b S.sh ?_;intro h1 t1 e1
 refine⟨⟨⟨h',t,by rw[e1]⟩,S.ext,r'.narrow up r₀.xP,fun a o nm np e=>hk a o (old a o e) (S.keep a o nm np e),S.muts,Nat.le_trans S.grow hs,S.verle,fun e=>?_⟩,r'⟩
 refine f5 (S.same e) ?_;intro q1 q2 q3
 exact⟨q1,q2,fun a o np e=>hk a o (old a o e) (q3 a o np e)⟩
structure Blk(C:Cfg)(env:Env)(sc:Scope)(X X':Addr→Prop)(α₀:a7)(σ₀:Sto)(s₀:Shared)(ρ:Rho)(α:a7)(σ:Sto)(s:Shared):Prop where
 step:Step C X α₀ σ₀ s₀ α σ s
 srel:SRel C X' α σ s.heap
 er:b0 C env ρ X' α σ s.heap
 at_:a1e env sc s.heap
structure BlkOk(C:Cfg)(env:Env)(sc:Scope)(X X':Addr→Prop)(α₀:a7)(σ₀:Sto)(s₀:Shared):Prop where
 r₀:SRel C X α₀ σ₀ s₀.heap
 K:EnvOk C env sc X'
 up:∀a,X a→X' a
 own:∀a,Own env sc a→s₀.heap.objs.size≤a
theorem Blk.next{α':a7}{σ':Sto}{s':Shared}(G:BlkOk C env sc X X' α₀ σ₀ s₀) (b:Blk C env sc X X' α₀ σ₀ s₀ ρ α σ s) (S:Step C X' α σ s α' σ' s'):Blk C env sc X X' α₀ σ₀ s₀ ρ α' σ' s':=by
 have S':Step C X α σ s α' σ' s':=Step.narrow (h':=s.heap) (t:=s.toks) b.step.srel (fun _ _ e=>e) (Nat.le_refl _) G.up S
 exact⟨b.step.trans S',S.srel,b0.step G.K b.srel S b.er,b.at_.keep G.K fun a o x np e=>S.keep a o (dp b.srel x) np e⟩
theorem Rho.set_get:∀{ρ ρ':Rho}{x:Str}{v:V},Rho.set x v ρ=some ρ'→(∀y,Rho.get (ρ'++τ) y=if y=x then some v else Rho.get (ρ++τ) y)∧(∀y,(ρ'.lookup y).isSome=(ρ.lookup y).isSome)
 |[],ρ',x,v,e=>by cases e
 |(z,u)::r,ρ',x,v,e=>by
  simp only[Rho.set]at e
  split at e
  ·rename_i hz
   cases e
   have hz':=eq_of_beq hz
   subst hz'
   refine⟨fun y=>?_,fun y=>?_⟩
   ·simp only[Rho.get,List.cons_append,List.lookup_cons]
    by_cases hy:y=z
    ·subst hy;simp
    ·have e:(y==z)=false:=by simpa using hy
     rw[e,if_neg hy]
   ·simp only[List.lookup_cons];cases y==z<;>rfl
  ·rename_i hz
   refine de e ?_;clear e;intro r' e1 e
   cases e
   refine bk (Rho.set_get e1) ?_;intro h1 h2
   have hzx:z≠x:=fun q=>hz (by rw[q];exact beq_self_eq_true x)
   refine⟨fun y=>?_,fun y=>?_⟩
   ·have:=h1 y
    simp only[Rho.get,List.cons_append,List.lookup_cons]at this⊢
    by_cases hy:y=z
    ·subst hy;simp[hzx]
    ·have e:(y==z)=false:=by simpa using hy
     rw[e];exact this
   ·have:=h2 y
    simp only[List.lookup_cons];cases y==z<;>simp[this]
theorem Rho.set_in:∀{ρ ρ':Rho}{x:Str}{v:V},Rho.set x v ρ=some ρ'→(ρ.lookup x).isSome=true
 |[],ρ',x,v,e=>by cases e
 |(z,u)::r,ρ',x,v,e=>by
  simp only[Rho.set]at e
  simp only[List.lookup_cons]
  split at e
  ·rename_i hz
   have hz':=eq_of_beq hz
   subst hz'
   simp
  ·rename_i hz
   refine de e ?_;clear e;intro r' e1 e
   have:=Rho.set_in e1
   cases x==z
   ·exact this
   ·rfl
noncomputable def j6(sc:Scope)(ρ:Rho):Prop:=∀x,(ρ.lookup x).isSome=true→sc.names.lookup x=some .local∨sc.names.lookup x=some .cell
section
variable{A:Around}{E:Value→Shared→Prop}
theorem qr (G:BlkOk C env sc X X' α₀ σ₀ s₀) (b:Blk C env sc X X' α₀ σ₀ s₀ (ρ++τ) α σ s) {x:Str}{u:Value}{v:V}(hx:sc.names.lookup x=some .local∨sc.names.lookup x=some .cell) (e:Rho.set x v ρ=some ρ') (ru:RepV C s.heap (Bad X' σ α) α u v)
  {Q:Unit→Shared→Prop}(h:∀h' t,(∀a o,¬Own env sc a→s.heap.get? a=some o→h'.get? a=some o)→s.heap.objs.size≤h'.objs.size→Blk C env sc X X' α₀ σ₀ s₀ (ρ'++τ) α σ {s with heap:=h',toks:=t}→Q () {s with heap:=h',toks:=t}):
  wpAny (model C.prog C.w) A (storeName env x u) Q E s:=by
 have fin:∀(a:Addr) (h':Heap) (t:Nat),Own env sc a→Heap.SameBut a s.heap h'→a1e env sc h'→m4 env h' x u→(∀y w,y≠x→m4 env s.heap y w→m4 env h' y w)→Q () {s with heap:=h',toks:=t}:=by
  intro a h' t ho sb at' rx ry
  have kp:∀c o,¬Own env sc c→s.heap.get? c=some o→h'.get? c=some o:=fun c o n e=>(sb.2 c fun q=>n (q▸ho)).trans e
  have sz:s.heap.objs.size≤h'.objs.size:=Nat.le_of_eq sb.1.symm
  refine bk (Step.poke (Y:=Own env sc) G.r₀ G.up b.step b.srel (fun a o=>⟨t6 G.K o,G.own a o⟩) kp sz t) ?_;intro S r
  have mono:∀{w:Value}{d:V},RepV C s.heap (Bad X' σ α) α w d→RepV C h' (Bad X' σ α) α w d:=fun rw_=>rw_.mono (fun c o nb e=>kp c o (fun o=>nb (.inl (t6 G.K o))) e) (fun _ _ _ n=>n) fun _ _ e=>e
  refine h h' t kp sz ⟨S,r,fun y w hy=>?_,at'⟩
  rw[(Rho.set_get e).1 y]at hy
  by_cases hyx:y=x
  ·subst hyx
   rw[if_pos rfl]at hy
   cases hy
   exact ⟨u,rx,mono ru⟩
  ·rw[if_neg hyx]at hy
   refine ar (b.er y w hy) ?_;intro w' h1 h2
   exact ⟨w',ry y w' hyx h1,mono h2⟩
 refine bk b.at_ ?_;intro pq0 hc;obtain ⟨m,hm⟩:=pq0
 rcases hx with hx|hx
 ·refine wpAny_storeName_local (G.K.loc x hx) hm (fun h' hn sb=>fin env.locals h' _ (.inl rfl) sb ?_ ?_ ?_) (by rw[G.K.kind];rfl)
  ·refine ⟨⟨_,hn⟩,fun y c h1 h2=>?_⟩
   refine ex1 (hc y c h1 h2) ?_;intro v' hv
   exact ⟨v',hv.sameBut sb (G.K.lc y c h2)⟩
  ·exact .inl ⟨G.K.loc x hx,_,hn,by simp⟩
  ·intro y w hy hr
   rcases hr with ⟨k,m',hm',hw⟩|⟨k,c,h1,h2⟩
   ·refine .inl ⟨k,_,hn,?_⟩
    rw[if_neg hy,aex hm hm']
    exact hw
   ·exact .inr ⟨k,c,h1,h2.sameBut sb (G.K.lc y c h1)⟩
 ·refine ex1 (G.K.cells x (.inl hx)) ?_;intro c hcx
  refine ex1 (hc x c hx hcx) ?_;intro v₀ hv₀
  refine wpAny_storeName_cell G.K.kind (G.K.cel x hx) hcx hv₀ fun h' hn sb=>fin c h' _ (.inr ⟨x,hx,hcx⟩) sb ?_ ?_ ?_
  ·refine ⟨⟨m,hm.sameBut sb (G.K.lc x c hcx).symm⟩,fun y c' h1 h2=>?_⟩
   by_cases q:c'=c
   ·subst q;exact ⟨_,hn⟩
   ·refine ex1 (hc y c' h1 h2) ?_;intro v' hv
    exact ⟨v',hv.sameBut sb q⟩
  ·exact .inr ⟨.inl (G.K.cel x hx),c,hcx,hn⟩
  ·intro y w hy hr
   rcases hr with ⟨k,m',hm',hw⟩|⟨k,c',h1,h2⟩
   ·exact .inl ⟨k,m',hm'.sameBut sb (G.K.lc x c hcx).symm,hw⟩
   ·exact .inr ⟨k,c',h1,h2.sameBut sb fun q=>hy (G.K.inj y x c (q▸h1) hcx)⟩
theorem ny (G:BlkOk C env sc X X' α₀ σ₀ s₀) (b:Blk C env sc X X' α₀ σ₀ s₀ (ρ++τ) α σ s) {x:Str}{p:Pos}{u:Value}{v:V}(hx:sc.names.lookup x=some .local∨sc.names.lookup x=some .cell) (e:Rho.set x v ρ=some ρ') (ru:RepV C s.heap (Bad X' σ α) α u v)
  {Q:Unit→Shared→Prop}(h:∀h' t,(∀a o,¬Own env sc a→s.heap.get? a=some o→h'.get? a=some o)→s.heap.objs.size≤h'.objs.size→Blk C env sc X X' α₀ σ₀ s₀ (ρ'++τ) α σ {s with heap:=h',toks:=t}→Q () {s with heap:=h',toks:=t}):
  wpAny (model C.prog C.w) A (assign (.Name x p) env u) Q E s:=by
 have arm:assign (.Name x p) env u=(do standAt p;bindName env x u):=rfl
 rw[arm]
 exact wpAny_bind (wpAny_standAt (wpAny_bindName (qr G b hx e ru h)))
theorem cy:∀{ts:List Expr},(∀t∈ts,∀x p,t≠.Starred x p)→assignEach ts env=ts.map fun t=>(false,assign t env)
 |[],_=>rfl
 |t::ts,h=>by
  have ih:=cy (ts:=ts) fun t ht=>h t (.tail _ ht)
  have h0:=h t (.head _)
  cases t<;>first|(show _::assignEach ts env=_;rw[ih];rfl)|exact absurd rfl (h0 _ _)
theorem mz:∀{n:Nat}{ts:List Expr}{ds:List D}{ρ ρ':Rho},aj.go n ts ds ρ=some ρ'→(∀t∈ts,∀x p,t≠.Starred x p)∧ts.length=ds.length
 |n,[],[],ρ,ρ',_=>⟨fun _ h=>(by cases h),rfl⟩
 |n,t::ts,d::ds,ρ,ρ',e=>by
  refine bj e ?_;clear e;intro ρ₁ e1 e2
  have:=mz e2
  refine⟨fun t' ht x p q=>?_,by simp[this.2]⟩
  rcases List.mem_cons.mp ht with rfl|ht
  ·rw[q]at e1
   cases n<;>exact no e1
  ·exact this.1 t' ht x p q
 |n,[],_::_,ρ,ρ',e=>no e
 |n,_::_,[],ρ,ρ',e=>no e
theorem je:∀(n:Nat),(∀{t:Expr}{d:D}{ρ ρ':Rho},aj n t d ρ=some ρ'→∀y,(ρ'.lookup y).isSome=(ρ.lookup y).isSome):=by
 intro n
 induction n with
 |zero=>intro t d ρ ρ' e;cases t<;>exact no e
 |succ n ih=>
  intro t d ρ ρ' e y
  cases t with
  |Name x p=>exact(Rho.set_get (τ:=[]) e).2 y
  |Tuple ts k p=>
   cases d with
   |tuple ds=>
    have go:∀(ts:List Expr) (ds:List D) (ρ ρ':Rho),aj.go n ts ds ρ=some ρ'→(ρ'.lookup y).isSome=(ρ.lookup y).isSome:=by
     intro ts
     induction ts with
     |nil=>intro ds ρ ρ' e;cases ds with|nil=>cases e;rfl|cons _ _=>exact no e
     |cons t ts iht=>
      intro ds ρ ρ' e
      cases ds with
      |nil=>exact no e
      |cons d ds=>
       refine bj e ?_;clear e;intro ρ₁ e1 e2
       rw[iht ds ρ₁ ρ' e2,ih e1 y]
    exact go ts ds ρ ρ' e
   |_=>exact no e
  |_=>exact no e
theorem j6.of_keys (h:j6 sc ρ)(k:∀y,(ρ'.lookup y).isSome=(ρ.lookup y).isSome):j6 sc ρ':=fun x hx=>h x (by rw[←k];exact hx)
theorem nj (hh:A.handled=none) (G:BlkOk C env sc X X' α₀ σ₀ s₀):∀(n:Nat) (t:Expr) (d:D) (ρ ρ':Rho) (s:Shared) (u:Value) (Q:Unit→Shared→Prop),aj n t d ρ=some ρ'→j6 sc ρ→Blk C env sc X X' α₀ σ₀ s₀ (ρ++τ) α σ s→RepD C s.heap (Bad X' σ α) u d→
  (∀h' t,(∀a o,¬Own env sc a→s.heap.get? a=some o→h'.get? a=some o)→s.heap.objs.size≤h'.objs.size→Blk C env sc X X' α₀ σ₀ s₀ (ρ'++τ) α σ {s with heap:=h',toks:=t}→Q () {s with heap:=h',toks:=t})→
  wpAny (model C.prog C.w) A (assign t env u) Q E s:=by
 intro n
 induction n with
 |zero=>intro t d ρ ρ' s u Q e;cases t<;>exact no e
 |succ n ih=>
  intro t d ρ ρ' s u Q e hs b ru h
  cases t with
  |Name x p=>exact ny G b (hs x (Rho.set_in e)) e (.d ru) h
  |Tuple ts k p=>
   cases d with
   |tuple ds=>
    refine bk (mz e) ?_;intro hst hlen
    have go:∀(ts:List Expr) (ds:List D) (ρ ρ':Rho) (s:Shared) (vs:List Value) (Q:Unit→Shared→Prop),aj.go n ts ds ρ=some ρ'→j6 sc ρ→Blk C env sc X X' α₀ σ₀ s₀ (ρ++τ) α σ s→RepDs C s.heap (Bad X' σ α) vs ds→
      (∀h' t,(∀a o,¬Own env sc a→s.heap.get? a=some o→h'.get? a=some o)→s.heap.objs.size≤h'.objs.size→Blk C env sc X X' α₀ σ₀ s₀ (ρ'++τ) α σ {s with heap:=h',toks:=t}→Q () {s with heap:=h',toks:=t})→
      wpAny (model C.prog C.w) A (assignInOrder (ts.map fun t=>assign t env) vs) Q E s:=by
     intro ts
     induction ts with
     |nil=>
      intro ds ρ ρ' s vs Q e hs b rs h
      cases ds with
      |nil=>
       cases e
       exact a89 rs fun q=>q▸wpAny_pure (h s.heap s.toks (fun _ _ _ e=>e) (Nat.le_refl _) b)
      |cons _ _=>exact no e
     |cons t ts iht=>
      intro ds ρ ρ' s vs Q e hs b rs h
      cases ds with
      |nil=>exact no e
      |cons d ds=>
       refine bj e ?_;clear e;intro ρ₁ e1 e2
       refine aa1 rs ?_;clear rs;intro u us hu a rs
       subst hu
       ·refine(?_:wpAny _ A (do holding _ (assign t env _);assignInOrder (ts.map fun t=>assign t env) _) Q E s)
        refine wpAny_bind (wpAny_holding (ih t d ρ ρ₁ s _ _ e1 hs b a fun h₁ t₁ kp sz b₁=>?_))
        refine iht ds ρ₁ ρ' _ _ Q e2 (hs.of_keys (je n e1)) b₁ (rs.mono (fun c o nb e=>kp c o (fun o=>nb (.inl (t6 G.K o))) e) fun _ _ _ n=>n) fun h₂ t₂ kp₂ sz₂ b₂=>?_
        exact h h₂ t₂ (fun a o n e=>kp₂ a o n (kp a o n e)) (Nat.le_trans sz sz₂) b₂
    refine adk ru ?_;clear ru;intro T vs hu hT nb hn rs
    subst hu
    ·have lv:=rs.length
     have hn':(assignEach ts env).length=vs.toArray.size:=by rw[cy hst,List.length_map,List.size_toArray,hlen,lv]
     have hstar:(assignEach ts env).findIdx? (·.1)=none:=by rw[cy hst];simp[List.findIdx?_eq_none_iff]
     rw[assign_Tuple]
     refine wpAny_bind (wpAny_standAt ?_)
     unfold unpack
     rw[hn',hstar]
     refine wpAny_bind (wpAny_holding (av (wpAny_unpackItems_tuple hh hT fun h' hx sz=>?_)))
     have kp:∀a o,s.heap.get? a=some o→h'.get? a=some o:=fun a o e=>hx a o (fun q=>absurd (Heap.lt_size e) (by rw[q];exact Nat.lt_irrefl _)) e
     have S:=Step.keepAll b.srel kp sz s.toks
     have b':=b.next G S
     have em:(assignEach ts env).map (·.2)=ts.map fun t=>assign t env:=by rw[cy hst,List.map_map];rfl
     rw[em]
     refine go ts ds ρ ρ' _ vs Q e hs b' (S.repDs b.srel rs) fun h₂ t₂ kp₂ sz₂ b₂=>?_
     exact h h₂ t₂ (fun a o n e=>kp₂ a o n (kp a o e)) (Nat.le_trans sz sz₂) b₂
   |_=>exact no e
  |_=>exact no e
end
end
noncomputable def tn(h:Heap)(d:Addr)(es:Array DictEntry)(ep:Nat):Prop:=∃o,h.get? d=some o∧o.ExactDict∧o.data=.dict es ep
section
variable{prog:Program}{w:World}{A:Around}{E:Value→Shared→Prop}{s:Shared}
theorem a81 {d:Addr}{es:Array DictEntry}{ep:Nat}{Q:Value→Shared→Prop}(hd:(d==sysModules)=false) (hm:tn s.heap d es ep)
  (hQ:Q (.ref s.heap.objs.size) {s with heap:=s.heap.push {cls:=.type "dict_keyiterator",data:=.fields #[.ref d,.int 0 0,.int es.size 0,.int ep 0]}}):
  wpAny (model prog w) A (pyIter (.ref d)) Q E s:=by
 refine dz (id hm) ?_;intro o ho hc hdat
 have hT:s.TypeIs (.ref d) "dict":=⟨o,ho,hc.1⟩
 refine wpAny_pyIter_slot hT F.slot_dict_iter (wpAny_call_entry F.slot_dict_iter hT F.entry_dict_iter ?_ (F.args_dict_iter_1 _))
 unfold Builtin.«dict.__iter__»
 refine wpAny_bind ?_
 unfold Builtin.Dict.dictSlotNone
 refine wpAny_bind (wpAny_notOrdered_dict hT ?_)
 refine(?_:wpAny _ _ (pure (Value.ref d)) _ _ s)
 refine wpAny_pure ?_
 refine(?_:wpAny _ _ (Builtin.Dict.showsAll d >>=_) _ _ s)
 unfold Builtin.Dict.showsAll
 rw[if_neg (by rw[hd];exact Bool.false_ne_true)]
 refine wpAny_bind (wpAny_pure ?_)
 refine wpAny_bind (wpAny_dictEntries ho hdat ?_)
 refine wpAny_bind (wpAny_dictEpoch ho hdat ?_)
 refine wpAny_bind (wpAny_newObj_type (wpAny_pure ⟨_,rfl,"dict_keyiterator",_,⟨_,Heap.get?_push_size _ rfl,rfl⟩,F.slot_dict_keyiterator_next.lookup,?_⟩))
 simpa[rawInt]using hQ
theorem xi(i:Int):¬(i !=i)=true:=by simp
theorem wN{M:Model}{A:Around}{α:Type}{c:Prop}[Decidable c]{a b:Sem α}{Q:α→Shared→Prop}{E:Value→Shared→Prop}{s:Shared}(hc:¬c) (h:wpAny M A b Q E s):wpAny M A (if c then a else b) Q E s:=by
 rw[if_neg hc];exact h
theorem x6 {it d:Addr}{i ep:Nat}{es:Array DictEntry}{Q:Option Value→Shared→Prop}(hit:s.heap.IsKeyIter it d i es.size ep)
  (hm:tn s.heap d es ep) (hlt':i<es.size)
  (hQ:∀h',h'.IsKeyIter it d (i+1) es.size ep→Heap.SameBut it s.heap h'→Q (some es[i].key) {s with heap:=h'}):
  wpAny (model prog w) A (pyNext (.ref it)) Q E s:=by
 refine dz (id hit) ?_;intro o ho hc hd
 refine dz (id hm) ?_;intro od hod hcd hdd
 unfold pyNext
 refine wpAny_bind (wpAny_attempt (wpAny_callSpecial?_slot (name:=Str.ofString "__next__") hit.typeIs F.slot_dict_keyiterator_next
  (wpAny_call_entry F.slot_dict_keyiterator_next hit.typeIs F.entry_dict_keyiterator_next ?_ (F.args_dict_keyiterator_next_1 _))))
 refine wpAny_bind (wpAny_pure ?_)
 refine wpAny_bind ?_
 refine wpAny_bind ?_
 first|refine wpAny_bind (wpAny_typeNameOfWhole_keyiter hit.typeIs (wpAny_pure ?_))|refine wpAny_bind (wpAny_typeNameOf_keyiter hit.typeIs (wpAny_pure ?_))
 refine wpAny_bind (wpAny_fieldsOf ho hd ?_)
 refine(?_:wpAny _ _ (if(Value.ref d==Value.none)=true then _ else _) _ _ s)
 refine wN (fun q=>Bool.false_ne_true q) ?_
 refine wpAny_bind (wpAny_pure ?_)
 refine wpAny_bind (wpAny_dictEntries hod hdd ?_)
 refine wN (xi _) ?_
 refine wpAny_bind (wpAny_pure ?_)
 refine wpAny_bind (wpAny_dictEpoch hod hdd ?_)
 refine wN (xi _) ?_
 refine wpAny_pure ?_
 have q:(if(i:Int)<0 then none else es[(i:Int).toNat]?)=some es[i]:=(if_neg (aq1 hlt')).trans (Array.getElem?_eq_getElem hlt')
 refine(?_:wpAny _ _ (match(if(i:Int)<0 then none else es[(i:Int).toNat]?)with|some e=>_|none=>_) _ _ s)
 rw[q]
 refine wpAny_bind ?_
 first|refine wpAny_bind (wpAny_typeNameOfWhole_keyiter hit.typeIs (wpAny_pure ?_))|refine wpAny_bind (wpAny_typeNameOf_keyiter hit.typeIs (wpAny_pure ?_))
 refine wpAny_bind (wpAny_isOneOf_keyiter hit.typeIs ?_)
 refine(?_:wpAny _ _ (PySem.setField (.ref it) 1 (rawInt ((i:Int)+1)) >>=_) _ _ s)
 refine wpAny_bind (wpAny_setField ho hd (by simp) ?_)
 have hit':(s.heap.update it (Obj.mapFields (·.setIfInBounds 1 (rawInt ((i:Int)+1))))).IsKeyIter it d (i+1) es.size ep:=
  ⟨_,Heap.get?_update_self _ ho (Obj.isFreed_of_fields (Obj.data_mapFields hd _)),(Obj.cls_mapFields ..).trans hc,by rw[Obj.data_mapFields hd];simp[rawInt]⟩
 refine wpAny_bind (wpAny_holding ?_)
 refine wpAny_bind (wpAny_isOneOf_keyiter (s:={s with heap:=s.heap.update it (Obj.mapFields (·.setIfInBounds 1 (rawInt ((i:Int)+1))))}) hit'.typeIs ?_)
 refine(?_:wpAny _ _ (pure es[i].key) _ _ _)
 exact wpAny_pure (wpAny_pure ⟨_,rfl,wpAny_pure (hQ _ hit' (Heap.SameBut.update ..))⟩)
theorem ze {it d:Addr}{i ep:Nat}{es:Array DictEntry}{Q:Option Value→Shared→Prop}(hh:A.handled=none) (hit:s.heap.IsKeyIter it d i es.size ep)
  (hm:tn s.heap d es ep) (hge:es.size≤i)
  (hQ:∀h',Heap.ExtBut it s.heap h'→Q none {s with heap:=h'}):wpAny (model prog w) A (pyNext (.ref it)) Q E s:=by
 refine dz (id hit) ?_;intro o ho hc hd
 refine dz (id hm) ?_;intro od hod hcd hdd
 unfold pyNext
 refine wpAny_bind (wpAny_attempt (wpAny_callSpecial?_slot (name:=Str.ofString "__next__") hit.typeIs F.slot_dict_keyiterator_next
  (wpAny_call_entry F.slot_dict_keyiterator_next hit.typeIs F.entry_dict_keyiterator_next ?_ (F.args_dict_keyiterator_next_1 _))))
 refine wpAny_bind (wpAny_pure ?_)
 refine wpAny_bind ?_
 refine wpAny_bind ?_
 first|refine wpAny_bind (wpAny_typeNameOfWhole_keyiter hit.typeIs (wpAny_pure ?_))|refine wpAny_bind (wpAny_typeNameOf_keyiter hit.typeIs (wpAny_pure ?_))
 refine wpAny_bind (wpAny_fieldsOf ho hd ?_)
 refine(?_:wpAny _ _ (if(Value.ref d==Value.none)=true then _ else _) _ _ s)
 refine wN (fun q=>Bool.false_ne_true q) ?_
 refine wpAny_bind (wpAny_pure ?_)
 refine wpAny_bind (wpAny_dictEntries hod hdd ?_)
 refine wN (xi _) ?_
 refine wpAny_bind (wpAny_pure ?_)
 refine wpAny_bind (wpAny_dictEpoch hod hdd ?_)
 refine wN (xi _) ?_
 refine wpAny_pure ?_
 have q:(if(i:Int)<0 then none else es[(i:Int).toNat]?)=none:=(if_neg (fun c=>Int.not_lt.mpr (Int.natCast_nonneg i) c)).trans (Array.getElem?_eq_none hge)
 refine(?_:wpAny _ _ (match(if(i:Int)<0 then none else es[(i:Int).toNat]?)with|some e=>_|none=>_) _ _ s)
 rw[q]
 refine wpAny_bind ?_
 first|refine wpAny_bind (wpAny_typeNameOfWhole_keyiter hit.typeIs (wpAny_pure ?_))|refine wpAny_bind (wpAny_typeNameOf_keyiter hit.typeIs (wpAny_pure ?_))
 refine(?_:wpAny _ _ (PySem.setField (.ref it) 0 .none >>=_) _ _ s)
 refine wpAny_bind (wpAny_setField ho hd (by simp) ?_)
 refine(?_:wpAny _ _ (newExc (.type "StopIteration") []>>=_) _ _ _)
 refine wpAny_bind ?_
 refine(?_:wpAny _ _ (newObj (.type "tuple") (.seq #[]) >>=_) _ _ _)
 refine wpAny_bind (wpAny_newObj_type ?_ (by size_fits))
 refine wpAny_bind (m:=firstArgMember _ _) (wpAny_of_eq (a:=Value.none) (by first|rfl|(simp only[firstArgMember];rfl)) ?_)
 refine wpAny_newObj_type ?_ (by size_fits)
 refine(?_:wpAny _ _ (handled >>=_) _ _ _)
 refine wpAny_bind (wpAny_handled ?_)
 rw[show A.in1.handled=none from hh]
 refine wpAny_bind (wpAny_pure (wpAny_throw ?_))
 refine wpAny_bind (wpAny_isInstance (T:="StopIteration") (b:=true) ⟨_,Heap.get?_push_size _ rfl,rfl⟩ isSubtype_stop ?_)
 exact wpAny_pure (hQ _ (((Heap.SameBut.update ..).extBut.push _).push _))
theorem vz{target:Expr}{I:Addr}{T:String}{v:Value}{Q:Unit→Shared→Prop}(hT:s.TypeIs (.ref I) T) (hn:["enumerate","zip","dict_itemiterator","dict_reverseitemiterator","odict_iterator","itertools.zip_longest","itertools.pairwise"].contains T=false) (h:Q () s):
  wpAny (model prog w) A (letOwnedTupleGo target (.ref I) v) Q E s:=by
 refine ar hT ?_;clear hT;intro o ho hc
 have main:wpAny (model prog w) A (match(Value.ref I,v)with
   |(.ref r,.ref a)=>do
    let o←load r
    match o.cls,o.data with
    |.type n,.fields vs=>
     if["enumerate","zip","dict_itemiterator","dict_reverseitemiterator","odict_iterator","itertools.zip_longest","itertools.pairwise"].contains n&&vs[0]?==some (rawInt a)then
      rule "for.unpacks-the-owned-tuple"
      updateField r 0 .none
    |_,_=>pure ()
   |_=>pure ():Sem Unit) Q E s:=by
  cases v<;>first|exact wpAny_pure h|skip
  refine wpAny_bind (wpAny_load ho ?_)
  rw[hc]
  generalize o.data=dt
  cases dt with
  |fields vs=>
   refine(?_:wpAny _ _ (if(_&&_)=true then _ else _) _ _ _)
   rw[hn]
   exact wpAny_pure h
  |_=>exact wpAny_pure h
 unfold letOwnedTupleGo
 cases target<;>first|exact wpAny_pure h|exact main
end
structure Iter (C:Cfg) (A:Around) (target:Expr) (it:Value) (us:List Value) (es ds:List D) (fp wr:List Addr) (St:Nat→Heap→Prop):Prop where
 frame:∀i h h',St i h→(∀b∈fp,∀o,h.get? b=some o→h'.get? b=some o)→St i h'
 item:∀(i:Nat) (s:Shared) (d:D) (Q:Value→Shared→Prop) (E:Value→Shared→Prop),ds[i]?=some d→St i s.heap→
  (∀v h' tk,St (i+1) h'→s.heap.objs.size≤h'.objs.size→(∀b o,b ∉ wr→s.heap.get? b=some o→h'.get? b=some o)→(∀B,RepDs C h' B us es→(∀a,s.heap.objs.size≤a→¬B a)→RepD C h' B v d)→Q v {s with heap:=h',toks:=tk})→
  wpAny (model C.prog C.w) A (pyNext it) (fun r s₁=>match r with|none=>False|some v=>wpAny (model C.prog C.w) A (letOwnedTupleGo target it v) (fun _ s₂=>Q v s₂) E s₁) E s
 done:∀(s:Shared) (Q:Shared→Prop) (E:Value→Shared→Prop),St ds.length s.heap→
  (∀h' tk,s.heap.objs.size≤h'.objs.size→(∀b o,b ∉ wr→s.heap.get? b=some o→h'.get? b=some o)→Q {s with heap:=h',toks:=tk})→
  wpAny (model C.prog C.w) A (pyNext it) (fun r s₁=>match r with|none=>Q s₁|some _=>False) E s
 self:∀(i:Nat) (s:Shared) (Q:Value→Shared→Prop) (E:Value→Shared→Prop),St i s.heap→Q it s→wpAny (model C.prog C.w) A (pyIter it) Q E s
noncomputable def aha:List String:=["enumerate","zip","dict_itemiterator","dict_reverseitemiterator","odict_iterator","itertools.zip_longest","itertools.pairwise"]
section
variable{C:Cfg}{A:Around}{target:Expr}{I:Addr}{us:List Value}{es ds:List D}{fp wr:List Addr}{St:Nat→Heap→Prop}
theorem Iter.ofWalks{n:Nat}{P:Nat→Value→Prop}(W:Walks C.prog C.w A I fp wr n P St) (hT:∀i h,St i h→∃T,(∃o,h.get? I=some o∧o.cls=.type T)∧aha.contains T=false)
  (hP:∀i d v h B,ds[i]?=some d→P i v→RepDs C h B us es→RepD C h B v d) (hn:n=ds.length):Iter C A target (.ref I) us es ds fp wr St where
 frame:=W.frame
 item:=fun i s d Q E hd st h=>by
  have hi:i<n:=hn▸(List.getElem?_eq_some_iff.mp hd).1
  refine av (W.item i s _ E hi st fun v h' tk hv st' hk sz=>?_)
  refine ar (hT _ _ st') ?_;intro T hT hno
  exact vz (s:={s with heap:=h',toks:=tk}) hT hno (h v h' tk st' sz hk fun B rs _=>hP i d v h' B hd hv rs)
 done:=fun s Q E st h=>av (W.done s _ E (hn▸st) fun h' tk hk sz=>h h' tk sz hk)
 self:=W.self
theorem Iter.ofWalksT {n:Nat} {Pt:Nat→Array Value→Prop} {Mid:Nat→Addr→Heap→Prop} {elts:List Expr} {k:Nat} {pos:Pos} (W:WalksT C.prog C.w A I fp wr n Pt St Mid)
  (hP:∀i d m5 h B,ds[i]?=some d→Pt i m5→RepDs C h B us es→∃dd,d=.tuple dd∧RepDs C h B m5.toList dd∧m5.size≤1000001) (hn:n=ds.length):Iter C A (.Tuple elts k pos) (.ref I) us es ds fp wr St where
 frame:=W.frame
 item:=fun i s d Q E hd st h=>by
  have hi:i<n:=hn▸(List.getElem?_eq_some_iff.mp hd).1
  refine av (W.item i s _ E hi st fun T m5 h' tk hv hnew hTup hm hk sz=>?_)
  refine av (W.go elts k pos i T {s with heap:=h',toks:=tk} _ E hm fun h'' st' hk' sz'=>?_)
  refine h (.ref T) h'' tk st' (Nat.le_trans sz sz') (fun b o hb e=>hk' b o hb (hk b o hb e)) fun B rs hB=>?_
  refine dz (hP i d m5 h'' B hd hv rs) ?_;intro dd rf1 rd hsz;subst rf1
  have hTup':h''.IsTuple T m5.toList.toArray:=by
   have:h''.IsTuple T m5:=IsTuple.mono hTup fun o e=>hk' T o (W.apart i T h' hm) e
   simpa using this
  exact .tuple hTup' (hB T hnew) (by simpa using hsz) rd
 done:=fun s Q E st h=>av (W.done s _ E (hn▸st) fun h' tk hk sz=>h h' tk sz hk)
 self:=W.self
theorem Iter.raw (hh:A.handled=none){d:Addr}{el:Array DictEntry}{ep:Nat}(hne:d≠I) (hP:∀(i:Nat) (x:D) (h:Heap) (B:Addr→Prop),ds[i]?=some x→RepDs C h B us es→∃e:DictEntry,el[i]?=some e∧RepD C h B e.key x) (hn:el.size=ds.length):
  Iter C A target (.ref I) us es ds [I,d] [I] (fun i h=>h.IsKeyIter I d i el.size ep∧tn h d el ep) where
 frame:=fun i h h' st hk=>⟨st.1.at fun o e=>hk I (by simp) o e,let⟨o,ho,r⟩:=st.2;⟨o,hk d (by simp) o ho,r⟩⟩
 item:=fun i s x Q E hd st h=>by
  have hi:i<el.size:=hn▸(List.getElem?_eq_some_iff.mp hd).1
  refine av (x6 st.1 st.2 hi fun h' hit' sb sz=>?_)
  refine vz (s:={s with heap:=h'}) hit'.typeIs (by decide) (h el[i].key h' s.toks ⟨hit',let⟨o,ho,r⟩:=st.2;⟨o,(sb.2 d hne).trans ho,r⟩⟩ sz (fun b o hb e=>(sb.2 b (fun q=>hb (by simp[q]))).trans e) fun B rs _=>?_)
  refine ar (hP i x h' B hd rs) ?_;intro e he r
  rw[Array.getElem?_eq_getElem hi] at he
  cases he
  exact r
 done:=fun s Q E st h=>av (ze hh st.1 st.2 (by rw[hn];exact Nat.le_refl _) fun h' hk sz=>h h' s.toks sz fun b o hb e=>hk b o (fun q=>hb (by simp[q])) e)
 self:=fun i s Q E st h=>wpAny_pyIter_keyiter st.1 h
end
noncomputable def a4v(C:Cfg)(fp:List Addr)(live:Bool)(σ:Sto)(α:a7)(h:Heap):Prop:=∀b∈fp,b<h.objs.size∧b≠C.P∧(live=false→¬Mut σ α b)
section
variable{C:Cfg}{A:Around}{env:Env}{X:Addr→Prop}{ρ:Rho}{sc:Scope}{ev:Expr→Sto→Option (V×Sto)}{σ σ':Sto}{α:a7}{s:Shared}{E:Value→Shared→Prop}{target:Expr}
noncomputable def wj (C:Cfg) (A:Around) (X:Addr→Prop) (target:Expr) (ds:List D) (live:Bool) (α:a7) (σ σ':Sto) (s:Shared) (Q:Value→Shared→Prop):Prop:=
 ∀it α' s' us es fp wr St,Step C X α σ s α' σ' s'→Iter C A target it us es ds fp wr St→St 0 s'.heap→(SRel C (fun a=>X a∨a∈wr) α' σ' s'.heap∧RepDs C s'.heap (Bad (fun a=>X a∨a∈wr) σ' α') us es)→a4v C fp live σ' α' s'.heap→((∀b∈wr,s.heap.objs.size≤b∧b∈fp)∧∀b∈fp,¬X b)→Q it s'
theorem RepDs.widen{h h':Heap}{X':Addr→Prop}{vs:List Value}{ds:List D}(hk:∀a o,h.get? a=some o→h'.get? a=some o) (hN:∀a,X' a→X a∨h.objs.size≤a) (r:RepDs C h (Bad X σ α) vs ds):RepDs C h' (Bad X' σ α) vs ds:=
 r.mono (fun b o _ e=>hk b o e) fun b o e nb m=>by
  rcases m with m|m
  ·rcases hN b m with m|m
   ·exact nb (.inl m)
   ·exact absurd (Heap.lt_size e) (Nat.not_lt.mpr m)
  ·exact nb (.inr m)
theorem adx{h':Heap}{wr:List Addr}{us:List Value}{es:List D}(r:SRel C X α σ s.heap) (hk:∀a o,s.heap.get? a=some o→h'.get? a=some o) (hs:s.heap.objs.size≤h'.objs.size) (hw:∀b∈wr,s.heap.objs.size≤b∧b<h'.objs.size) (rs:RepDs C s.heap (Bad X σ α) us es):
  SRel C (fun a=>X a∨a∈wr) α σ h'∧RepDs C h' (Bad (fun a=>X a∨a∈wr) σ α) us es:=
 ⟨r.widen hk hs (fun _=>.inl) fun a x=>x.imp id fun x=>hw a x,rs.widen hk fun a x=>x.imp id fun x=>(hw a x).1⟩
theorem xn{o:Obj}{us:List Value}{es:List D}(r:SRel C X α σ s.heap) (rs:RepDs C s.heap (Bad X σ α) us es):
  SRel C (fun a=>X a∨a∈[s.heap.objs.size]) α σ (s.heap.push o)∧RepDs C (s.heap.push o) (Bad (fun a=>X a∨a∈[s.heap.objs.size]) σ α) us es:=
 adx r (fun _ _ e=>Heap.get?_push_of_some _ e) (Nat.le_of_lt (eg _ _)) (fun b hb=>by rw[List.mem_singleton.mp hb];exact⟨Nat.le_refl _,eg _ _⟩) rs
theorem f6 (r:SRel C X α σ s.heap){a:Addr}(h:@LE.le Nat _ s.heap.objs.size a):¬X a:=fun x=>absurd (r.xLt a x) (Nat.not_lt.mpr h)
theorem a4w{h:Heap}(r:SRel C X α σ h){b:Addr}(hb:@LE.le Nat _ h.objs.size b):b≠C.P:=fun q=>absurd (r.xLt _ r.xP) (by rw[←q];exact Nat.not_lt.mpr hb)
theorem rt{live:Bool}{h':Heap}{b:Addr}(r:SRel C X α σ s.heap)(hb:@LE.le Nat _ s.heap.objs.size b)(hl:b<h'.objs.size):b<h'.objs.size∧b≠C.P∧(live=false→¬Mut σ α b):=⟨hl,a4w r hb,fun _ m=>gv r hb (.inr m)⟩
theorem v3{live:Bool}{h':Heap}{b:Addr}(r:SRel C X α σ s.heap)(hl:b<h'.objs.size)(hx:¬X b)(hm:live=false→¬Mut σ α b):b<h'.objs.size∧b≠C.P∧(live=false→¬Mut σ α b):=⟨hl,fun q=>hx (q▸r.xP),hm⟩
theorem a3w {Q:Value→Shared→Prop} {a:Addr} {vs:List Value} {ds:List D} {live:Bool} (hh:A.handled=none) (r:SRel C X α σ s.heap) (hl:s.heap.PlainList a vs.toArray) (rs:RepDs C s.heap (Bad X σ α) vs ds) (hx:¬X a) (hlive:live=false→¬Mut σ α a)
  (h:wj C A X target ds live α σ σ s Q):wpAny (model C.prog C.w) A (pyIter (.ref a)) Q E s:=by
 have hlt:a<s.heap.objs.size:=by(refine ex1 hl ?_;clear hl;intro _ e);exact Heap.lt_size e
 refine wpAny_pyIter_list (PlainList.isList hl) ?_
 have S:=Step.push r {cls:=.type "list_iterator",data:=.fields #[.ref a,.int 0 0]} s.toks
 refine h _ α _ vs ds [s.heap.objs.size,a] [s.heap.objs.size] (fun i h=>h.IsListIter s.heap.objs.size a i∧h.IsList a vs.toArray) S (Iter.ofWalks (Walks.list hh s.heap.objs.size a (Nat.ne_of_lt hlt) vs.toArray) ?_ ?_ ?_) ⟨⟨_,Heap.get?_push_size _ rfl,rfl,rfl⟩,(PlainList.isList hl).push _⟩ (xn r rs) ?_ ?_
 ·rintro i h ⟨⟨o,ho,hc,_⟩,_⟩
  exact⟨"list_iterator",⟨o,ho,hc⟩,by decide⟩
 ·intro i d v h B hd hv rs
  refine ar (rs.get hd) ?_;intro w hw rw_
  simp only[List.getElem?_toArray]at hv
  rw[hw]at hv;cases hv
  exact rw_
 ·rw[List.size_toArray,rs.length]
 ·exact alc (rt r (Nat.le_refl _) (eg _ _)) (alc (v3 r (Nat.lt_trans hlt (eg _ _)) hx hlive) aln)
 ·exact⟨alc ⟨Nat.le_refl _,.head _⟩ aln,alc (f6 r (Nat.le_refl _)) (alc hx aln)⟩
theorem ab0 {Q:Value→Shared→Prop} {a:Addr} {vs:List Value} {ds:List D} (hh:A.handled=none) (r:SRel C X α σ s.heap) (hl:s.heap.IsTuple a vs.toArray) (rs:RepDs C s.heap (Bad X σ α) vs ds) (nb:¬Bad X σ α a)
  (h:wj C A X target ds false α σ σ s Q):wpAny (model C.prog C.w) A (pyIter (.ref a)) Q E s:=by
 have hlt:a<s.heap.objs.size:=by(refine ar (id hl) ?_;intro _ e _);exact Heap.lt_size e
 refine wpAny_pyIter_tuple hl ?_
 have S:=Step.push r {cls:=.type "tuple_iterator",data:=.fields #[.ref a,.int 0 0]} s.toks
 refine h _ α _ vs ds [s.heap.objs.size,a] [s.heap.objs.size] (fun i h=>h.IsTupleIter s.heap.objs.size a i∧h.IsTuple a vs.toArray) S (Iter.ofWalks (Walks.tuple hh s.heap.objs.size a (Nat.ne_of_lt hlt) vs.toArray) ?_ ?_ ?_) ⟨⟨_,Heap.get?_push_size _ rfl,rfl,rfl⟩,IsTuple.mono hl fun o e=>Heap.get?_push_of_some _ e⟩ (xn r rs) ?_ ?_
 ·rintro i h ⟨⟨o,ho,hc,_⟩,_⟩
  exact⟨"tuple_iterator",⟨o,ho,hc⟩,by decide⟩
 ·intro i d v h B hd hv rs
  refine ar (rs.get hd) ?_;intro w hw rw_
  simp only[List.getElem?_toArray] at hv
  rw[hw] at hv;cases hv
  exact rw_
 ·rw[List.size_toArray,rs.length]
 ·exact alc (rt r (Nat.le_refl _) (eg _ _)) (alc (v3 r (Nat.lt_trans hlt (eg _ _)) (fun q=>nb (.inl q)) fun _ m=>nb (.inr m)) aln)
 ·exact⟨alc ⟨Nat.le_refl _,.head _⟩ aln,alc (f6 r (Nat.le_refl _)) (alc (fun q=>nb (.inl q)) aln)⟩
end
section
variable{C:Cfg}{h:Heap}{B:Addr→Prop}
theorem a9v{el:List DictEntry}{l:List (Str×Value)}(r:Pairs (strKind C.prog C.w) el l):RepDs C h B (el.map (·.key)) (l.map fun p=>D.str p.1):=by
 induction r with
 |nil=>exact .nil
 |cons a _ _ ih=>
  refine .cons ?_ ih
  rename_i e _ _ _ _ _
  obtain⟨hh,key,val⟩:=e
  cases key<;>simp[PySem.strKind,Value.isStrOf]at a
  subst a;exact .str _ _
theorem aa4{el:List DictEntry}{l:List (Int×Value)}(r:Pairs (intKind C.prog C.w) el l):RepDs C h B (el.map (·.key)) (l.map fun p=>D.int p.1):=by
 induction r with
 |nil=>exact .nil
 |cons a _ _ ih=>
  refine .cons ?_ ih
  rename_i e _ _ _ _ _
  obtain⟨hh,key,val⟩:=e
  cases key<;>simp[PySem.intKind,Value.isInt]at a
  subst a;exact .int _ _
theorem a84{ks:List Int}{vs:List Value}(r:ItemsAre (intKind C.prog C.w) ks vs):RepDs C h B vs (ks.map .int):=by
 induction r with
 |nil=>exact .nil
 |cons a _ ih=>
  refine .cons ?_ ih
  rename_i v _ _ _
  cases v<;>simp[PySem.intKind,Value.isInt]at a
  rw[←a];exact .int _ _
theorem a2g{ks:List Int}{vs:List Value}(r:ItemsAre (intKind C.prog C.w) ks vs):vs.length=ks.length:=by
 induction r with
 |nil=>rfl
 |cons _ _ ih=>exact congrArg Nat.succ ih
theorem a9y{a:Addr}{kd:Kd}{kvs:List (D×Value)}(x:bb C h B a kd kvs):∃el ep,tn h a el ep∧RepDs C h B (el.toList.map (·.key)) (kvs.map (·.1)):=by
 refine f5 x ?_;clear x;intro _ hlen h3
 cases kd with
 |any=>obtain ⟨rfl,n,ho⟩:=h3;exact ⟨#[],n,⟨_,ho,⟨rfl,rfl,rfl⟩,rfl⟩,.nil⟩
 |str=>
  obtain ⟨l,rfl,o,es,ep,ho,r,hd,_,hp,_⟩:=h3
  refine ⟨es,ep,⟨o,ho,r,hd⟩,?_⟩
  rw[List.map_map]
  exact a9v hp
 |int=>
  obtain ⟨l,rfl,o,es,ep,ho,r,hd,_,hp,_⟩:=h3
  refine ⟨es,ep,⟨o,ho,r,hd⟩,?_⟩
  rw[List.map_map]
  exact aa4 hp
 |tup=>
  refine dz h3 ?_;clear h3;intro l rf1 pq2 hB;subst rf1;obtain ⟨o,es,ep,ho,r,hd,he,hk,hnd⟩:=pq2
  refine ⟨es,ep,⟨o,ho,r,hd⟩,?_⟩
  rw[he,List.map_map,List.map_map]
  clear he hd ho r hlen hnd
  induction l with
  |nil=>exact .nil
  |cons p l ih=>
   refine .cons ?_ (ih (fun x hx=>hB x (.tail _ hx)) (fun x hx=>hk x (.tail _ hx)))
   obtain ⟨o',items,n,ho',hc',hd',hi⟩:=(show IsTupleKey (intKind C.prog C.w) h p.1 p.2.1 from hk p (.head _))
   have hb:=hB p (.head _)
   refine .tuple (vs:=items.toList) ⟨o',ho',hc',n,by simpa using hd'⟩ hb.1 ?_ (a84 hi)
   rw[a2g hi];exact hb.2
end
section
variable{C:Cfg}{A:Around}{env:Env}{X:Addr→Prop}{ρ:Rho}{sc:Scope}{ev:Expr→Sto→Option (V×Sto)}{σ σ':Sto}{α:a7}{s:Shared}{E:Value→Shared→Prop}{target:Expr}
theorem abl {Q:Value→Shared→Prop} {a:Addr} {kd:Kd} {kvs:List (D×Value)} (hh:A.handled=none) (r:SRel C X α σ s.heap) (hd:bb C s.heap (Bad X σ α) a kd kvs) (nb:¬Bad X σ α a)
  (h:wj C A X target (kvs.map (·.1)) false α σ σ s Q):wpAny (model C.prog C.w) A (pyIter (.ref a)) Q E s:=by
 refine a8p (a9y hd) ?_;intro el ep hraw rk
 have hlt:a<s.heap.objs.size:=by(refine ar hraw ?_;clear hraw;intro o e _);exact Heap.lt_size e
 have hsize:el.size=(kvs.map (·.1)).length:=by have:=rk.length;simpa using this
 refine a81 hd.1 hraw ?_
 have S:=Step.push r {cls:=.type "dict_keyiterator",data:=.fields #[.ref a,.int 0 0,.int el.size 0,.int ep 0]} s.toks
 refine h _ α _ (el.toList.map (·.key)) (kvs.map (·.1)) [s.heap.objs.size,a] [s.heap.objs.size] _ S (Iter.raw (ep:=ep) (el:=el) hh (Nat.ne_of_lt hlt) ?_ hsize) ⟨⟨_,Heap.get?_push_size _ rfl,rfl,rfl⟩,?_⟩ (xn r rk) ?_ ?_
 ·intro i x h B hx rs
  refine ar (rs.get hx) ?_;intro w hw rw_
  simp only[List.getElem?_map,Option.map_eq_some_iff,Array.getElem?_toList] at hw
  refine ar hw ?_;clear hw;intro e he rf2;subst rf2
  exact⟨e,he,rw_⟩
 ·refine ar hraw ?_;clear hraw;intro o ho q;exact⟨o,Heap.get?_push_of_some _ ho,q⟩
 ·exact alc (rt r (Nat.le_refl _) (eg _ _)) (alc (v3 r (Nat.lt_trans hlt (eg _ _)) (fun q=>nb (.inl q)) fun _ m=>nb (.inr m)) aln)
 ·exact⟨alc ⟨Nat.le_refl _,.head _⟩ aln,alc (f6 r (Nat.le_refl _)) (alc (fun q=>nb (.inl q)) aln)⟩
theorem a01{Q:Value→Shared→Prop}{u:Value}{x:D}{ds:List D}(hh:A.handled=none) (r:SRel C X α σ s.heap) (ru:RepD C s.heap (Bad X σ α) u x) (e:a3l x=some ds) (h:wj C A X target ds false α σ σ s Q):
  wpAny (model C.prog C.w) A (pyIter u) Q E s:=by
 cases ru with
 |list hl nb hn rs=>cases e;exact a3w hh r hl rs (fun q=>nb (.inl q)) (fun _ m=>nb (.inr m)) h
 |tuple hl nb hn rs=>cases e;exact ab0 hh r hl rs nb h
 |dict hd nb hk=>
  cases e
  rename_i kd kvs kds
  have ek:∀{l:List (D×Value)}{m:List (D×D)},RepKs C s.heap (Bad X σ α) l m→l.map (·.1)=m.map (·.1):=by
   intro l m
   induction m generalizing l with
   |nil=>intro r;cases r;rfl
   |cons p m ih=>intro r;cases r with|cons _ r=>simp[ih r]
  refine abl (target:=target) hh r hd nb ?_
  rw[ek hk]
  exact h
 |_=>exact no e
theorem ye(a b:Int):Builtin.Range.rangeSize a b 1=(((b-a).toNat:Nat):Int):=by
 unfold Builtin.Range.rangeSize
 simp only[show(1:Int)> 0 by decide,if_true,Int.ediv_one]
 split<;>grind
theorem a4q{a b:Int}(ha:small a=true)(hb:small b=true)(hl:b-a≤1000000):Builtin.Range.small a b 1=true:=by
 unfold small lim at ha hb
 simp only[Bool.and_eq_true,decide_eq_true_eq]at ha hb
 unfold Builtin.Range.small
 rw[ye]
 have big:(2:Int)^ 63=9223372036854775808:=by decide
 unfold Builtin.Range.rangeFitsLong
 simp only[show(1:Int)> 0 by decide,if_true,Bool.and_eq_true,Bool.or_eq_true,decide_eq_true_eq,beq_iff_eq]
 omega
theorem a7r{a b:Int}{i:Nat}{d:D}(h:(ee a b)[i]?=some d):d=.int (a+(i:Int)):=by
 simp only[ee,List.getElem?_map,Option.map_eq_some_iff]at h
 refine ar h ?_;clear h;intro k hk rf2;(apply re1 rf2;clear rf2)
 refine ex1 (List.getElem?_eq_some_iff.mp hk) ?_;intro _ rf1;(apply re1 rf1;clear rf1)
 simp
theorem a1r {Q:Value→Shared→Prop} {a b:Int} {ra:Addr} {t u v:Tok} (hh:A.handled=none) (r:SRel C X α σ s.heap) (hr:IsRange s.heap ra a b 1 t u v) (ha:small a=true) (hb:small b=true) (hl:b-a≤1000000)
  (h:wj C A X target (ee a b) false α σ σ s Q):wpAny (model C.prog C.w) A (pyIter (.ref ra)) Q E s:=by
 refine wpAny_pyIter_range hr (a4q ha hb hl) ?_
 have S:=Step.push r {cls:=.type "range_iterator",data:=.fields #[rawInt a,rawInt (Builtin.Range.rangeSize a b 1),rawInt 1]} s.toks
 refine h _ α _ [] [] [s.heap.objs.size] [s.heap.objs.size] (fun i h=>IsRangeIter h s.heap.objs.size (a+(i:Nat)*1) ((((b-a).toNat:Nat):Int)-(i:Nat)) 1) S (Iter.ofWalks (Walks.range hh s.heap.objs.size a 1 (b-a).toNat) ?_ ?_ ?_) ?_ (xn r .nil) ?_ ?_
 ·intro i h hi
  exact ⟨"range_iterator",⟨_,hi,rfl⟩,by decide⟩
 ·rintro i d v h B hd ⟨t',rfl⟩ _
  rw [a7r hd,Int.mul_one]
  exact .int _ _
 ·simp [ee]
 ·refine (?_:(s.heap.push _).get? s.heap.objs.size=some _)
  rw [Heap.get?_push_size _ rfl,ye]
  simp
 ·exact alc (rt r (Nat.le_refl _) (eg _ _)) aln
 ·exact ⟨alc ⟨Nat.le_refl _,.head _⟩ aln,alc (f6 r (Nat.le_refl _)) aln⟩
theorem aaa (n l m:Nat) (h1:l<n) (h2:m<n):ZipApart (n+4) (n+2) (n+3) n (n+1) l m:=by constructor<;>(show@Ne Nat _ _;grind)
theorem r9 (n l:Nat) (h1:l<n):@Ne Addr (n+1) n∧@Ne Addr l (n+1)∧@Ne Addr l n:=by refine⟨?_,?_,?_⟩<;>(show@Ne Nat _ _;omega)
theorem a1c:∀{xs:List D}{k i:Nat}{d:D},(gj k xs)[i]?=some d→∃x,xs[i]?=some x∧d=.tuple [.int ((k+i:Nat):Int),x]
 |[],k,i,d,h=>no h
 |x::xs,k,0,d,h=>⟨x,rfl,(Option.some.inj h).symm⟩
 |x::xs,k,i+1,d,h=>by
  refine ar (a1c (k:=k+1) (i:=i) h) ?_;intro y h1 h2
  exact⟨y,h1,by rw[h2,Nat.succ_add_eq_add_succ]⟩
theorem w7:∀(xs:List D)(k:Nat),(gj k xs).length=xs.length
 |[],_=>rfl
 |x::xs,k=>congrArg Nat.succ (w7 xs (k+1))
theorem a3x{Q:Value→Shared→Prop}{l:Addr}{vs:List Value}{xs:List D}{live:Bool}{elts:List Expr}{k:Nat}{pos:Pos}(hh:A.handled=none) (r:SRel C X α σ s.heap) (hl:s.heap.PlainList l vs.toArray) (rs:RepDs C s.heap (Bad X σ α) vs xs) (hx:¬X l) (hlive:live=false→¬Mut σ α l)
  (h:wj C A X (.Tuple elts k pos) (gj 0 xs) live α σ σ s Q):wpAny (model C.prog C.w) A (call (.type "enumerate") [.ref l]) (fun x s₁=>wpAny (model C.prog C.w) A (pyIter x) Q E s₁) E s:=by
 have hlt:l<s.heap.objs.size:=by (refine ex1 (id hl) ?_;intro _ e);exact Heap.lt_size e
 refine call_enumerate_list (PlainList.isList hl) fun h' he hit hs hk=>wpAny_pyIter_enum he ?_
 have sz:s.heap.objs.size≤h'.objs.size:=by exact apu hs
 have S:=Step.keepAll r hk sz s.toks
 have hl':h'.PlainList l vs.toArray:=let ⟨n,e⟩:=hl;⟨n,hk _ _ e⟩
 have g0:@LE.le Nat _ s.heap.objs.size s.heap.objs.size:=Nat.le_refl _
 have g1:@LE.le Nat _ s.heap.objs.size (s.heap.objs.size+1):=Nat.le_succ _
 have l1:@LT.lt Nat _ (s.heap.objs.size+1) h'.objs.size:=by exact ala hs
 have l0:@LT.lt Nat _ s.heap.objs.size h'.objs.size:=Nat.lt_of_succ_lt l1
 refine h _ α _ vs xs [s.heap.objs.size+1,s.heap.objs.size,l] [s.heap.objs.size+1,s.heap.objs.size] _ S (Iter.ofWalksT (WalksT.enumerate hh (s.heap.objs.size+1) s.heap.objs.size l (r9 _ _ hlt).1 (r9 _ _ hlt).2.1 (r9 _ _ hlt).2.2 vs.toArray) ?_ ?_) ⟨⟨_,he⟩,hit,PlainList.isList hl'⟩ (adx r hk sz (alc ⟨g1,l1⟩ (alc ⟨g0,l0⟩ aln)) rs) ?_ ?_
 ·rintro i d m5 h B hd ⟨t,x,hx,rfl⟩ rs
  refine ar (a1c hd) ?_;intro y hy rf2;subst rf2
  refine ar (rs.get hy) ?_;intro w hw rw_
  simp only [List.getElem?_toArray] at hx
  rw [hw] at hx;cases hx
  refine ⟨_,rfl,.cons ?_ (.cons rw_ .nil),by simp⟩
  rw [Nat.zero_add];exact .int _ _
 ·rw [List.size_toArray,rs.length,w7]
 ·exact alc (rt r g1 l1) (alc (rt r g0 l0) (alc (v3 r (Nat.lt_of_lt_of_le hlt sz) hx hlive) aln))
 ·exact ⟨alc ⟨g1,.head _⟩ (alc ⟨g0,.tail _ (.head _)⟩ aln),alc (f6 r g1) (alc (f6 r g0) (alc hx aln))⟩
theorem a64:∀{xs ys:List D}{i:Nat}{d:D},(x5 xs ys)[i]?=some d→∃x y,xs[i]?=some x∧ys[i]?=some y∧d=.tuple [x,y]
 |[],_,i,d,h=>no h
 |_::_,[],i,d,h=>no h
 |x::xs,y::ys,0,d,h=>⟨x,y,rfl,rfl,(Option.some.inj h).symm⟩
 |x::xs,y::ys,i+1,d,h=>by
  exact a64 (xs:=xs) (ys:=ys) (i:=i) h
theorem y1:∀(xs ys:List D),(x5 xs ys).length=min xs.length ys.length
 |[],_=>by rfl
 |_::_,[]=>by rfl
 |x::xs,y::ys=>(congrArg Nat.succ (y1 xs ys)).trans (Nat.succ_min_succ ..).symm
theorem aeo{Q:Value→Shared→Prop}{l m:Addr}{vs ws:List Value}{xs ys:List D}{elts:List Expr}{k:Nat}{pos:Pos}(hh:A.handled=none) (r:SRel C X α σ s.heap) (hl:s.heap.PlainList l vs.toArray) (rs:RepDs C s.heap (Bad X σ α) vs xs) (nb:¬Bad X σ α l)
  (hm:s.heap.PlainList m ws.toArray) (rm:RepDs C s.heap (Bad X σ α) ws ys) (nm:¬Bad X σ α m)
  (h:wj C A X (.Tuple elts k pos) (x5 xs ys) false α σ σ s Q):wpAny (model C.prog C.w) A (call (.type "zip") [.ref l,.ref m]) (fun x s₁=>wpAny (model C.prog C.w) A (pyIter x) Q E s₁) E s:=by
 have hlt:l<s.heap.objs.size:=by(refine ex1 (id hl) ?_;intro _ e);exact Heap.lt_size e
 have hmt:m<s.heap.objs.size:=by(refine ex1 (id hm) ?_;intro _ e);exact Heap.lt_size e
 refine call_zip_2 (PlainList.isList hl) (PlainList.isList hm) fun h' z1 z2 z3 z4 z5 hs hk=>wpAny_pyIter_zip z1 ?_
 have sz:s.heap.objs.size≤h'.objs.size:=by exact ak4 hs
 have S:=Step.keepAll r hk sz s.toks
 have hl':h'.PlainList l vs.toArray:=let⟨n,e⟩:=hl;⟨n,hk _ _ e⟩
 have hm':h'.PlainList m ws.toArray:=let⟨n,e⟩:=hm;⟨n,hk _ _ e⟩
 have g:∀k,@LE.le Nat _ s.heap.objs.size (s.heap.objs.size+k):=Nat.le_add_right _
 have l4:@LT.lt Nat _ (s.heap.objs.size+4) h'.objs.size:=by exact ali hs
 have lz:∀k,k≤4→@LT.lt Nat _ (s.heap.objs.size+k) h'.objs.size:=fun k q=>Nat.lt_of_le_of_lt (Nat.add_le_add_left q _) l4
 have fp:∀k,k≤4→@LT.lt Nat _ (s.heap.objs.size+k) h'.objs.size∧s.heap.objs.size+k≠C.P∧(false=false→¬Mut σ α (s.heap.objs.size+k)):=fun k q=>rt r (g k) (lz k q)
 have ap:ZipApart (s.heap.objs.size+4) (s.heap.objs.size+2) (s.heap.objs.size+3) s.heap.objs.size (s.heap.objs.size+1) l m:=aaa _ _ _ hlt hmt
 refine h _ α _ (vs++ws) (xs++ys) [s.heap.objs.size+4,s.heap.objs.size+2,s.heap.objs.size+3,s.heap.objs.size,s.heap.objs.size+1,l,m] [s.heap.objs.size+4,s.heap.objs.size+3,s.heap.objs.size,s.heap.objs.size+1] _ S
  (Iter.ofWalksT (WalksT.zip2 hh (s.heap.objs.size+4) (s.heap.objs.size+2) (s.heap.objs.size+3) s.heap.objs.size (s.heap.objs.size+1) l m ap vs.toArray ws.toArray) ?_ ?_) ⟨z1,z2,⟨_,_,z3⟩,z4,z5,PlainList.isList hl',PlainList.isList hm'⟩ (adx r hk sz (alc ⟨g 4,l4⟩ (alc ⟨g 3,lz 3 (by decide)⟩ (alc ⟨g 0,lz 0 (by decide)⟩ (alc ⟨g 1,lz 1 (by decide)⟩ aln)))) (rs.append rm)) ?_ ?_
 ·rintro i d m5 h B hd ⟨x,y,hx,hy,rfl⟩ rs'
  refine aba (a64 hd) ?_;intro a b ha hb rf4;subst rf4
  have la:i<xs.length:=(List.getElem?_eq_some_iff.mp ha).1
  refine ar (rs'.get (show(xs++ys)[i]?=some a by rw[List.getElem?_append_left la];exact ha)) ?_;intro w hw rw_
  refine ar (rs'.get (show(xs++ys)[xs.length+i]?=some b by rw[List.getElem?_append_right (by grind)];rw[Nat.add_sub_cancel_left];exact hb)) ?_;intro w' hw' rw'
  rw[List.getElem?_append_left (by rw[rs.length];exact la)] at hw
  rw[←rs.length,List.getElem?_append_right (by grind),Nat.add_sub_cancel_left] at hw'
  simp only[List.getElem?_toArray] at hx hy
  rw[hw] at hx;cases hx
  rw[hw'] at hy;cases hy
  exact⟨_,rfl,.cons rw_ (.cons rw' .nil),by simp⟩
 ·rw[List.size_toArray,List.size_toArray,rs.length,rm.length,y1]
 ·exact alc (fp 4 (by decide)) (alc (fp 2 (by decide)) (alc (fp 3 (by decide)) (alc (fp 0 (by decide)) (alc (fp 1 (by decide)) (alc (v3 r (Nat.lt_of_lt_of_le hlt sz) (fun q=>nb (.inl q)) fun _ m=>nb (.inr m)) (alc (v3 r (Nat.lt_of_lt_of_le hmt sz) (fun q=>nm (.inl q)) fun _ m=>nm (.inr m)) aln))))))
 ·exact⟨alc ⟨g 4,.head _⟩ (alc ⟨g 3,.tail _ (.tail _ (.head _))⟩ (alc ⟨g 0,.tail _ (.tail _ (.tail _ (.head _)))⟩ (alc ⟨g 1,.tail _ (.tail _ (.tail _ (.tail _ (.head _))))⟩ aln))),
   alc (f6 r (g 4)) (alc (f6 r (g 2)) (alc (f6 r (g 3)) (alc (f6 r (g 0)) (alc (f6 r (g 1)) (alc (fun q=>nb (.inl q)) (alc (fun q=>nm (.inl q)) aln))))))⟩
section
variable{β:Type}{P:Prop}{vs:List V}{z:β}
theorem ahz{f:Int→Option β}{g:Int→Int→Option β}(e:(match vs with|[.d (.int b)]=>f b|[.d (.int a),.d (.int b)]=>g a b|_=>none)=some z)(k1:∀b,vs=[.d (.int b)]→f b=some z→P)(k2:∀a b,vs=[.d (.int a),.d (.int b)]→g a b=some z→P):P:=by
 cases vs with
 |nil=>exact no e
 |cons v t=>cases t with
  |nil=>cases v with
   |m=>exact no e
   |d x=>cases x with
    |int=>exact k1 _ rfl e
    |_=>exact no e
  |cons w t=>cases v with
   |m=>exact no e
   |d x=>cases x with
    |int=>cases w with
     |m=>exact no e
     |d y=>cases y with
      |int=>cases t with
       |nil=>exact k2 _ _ rfl e
       |cons=>exact no e
      |_=>exact no e
    |_=>exact no e
theorem ald{f:List D→Option β}{g:Nat→Option β}(e:(match vs with|[.d (.list xs)]=>f xs|[.m i]=>g i|_=>none)=some z)(k1:∀b,vs=[.d (.list b)]→f b=some z→P)(k2:∀i,vs=[.m i]→g i=some z→P):P:=by
 cases vs with
 |nil=>exact no e
 |cons v t=>cases t with
  |nil=>cases v with
   |m=>exact k2 _ rfl e
   |d x=>cases x with
    |list=>exact k1 _ rfl e
    |_=>exact no e
  |cons=>cases v with
   |m=>exact no e
   |d x=>cases x<;>exact no e
theorem apg{f:List D→List D→Option β}(e:(match vs with|[.d (.list xs),.d (.list ys)]=>f xs ys|_=>none)=some z)(k:∀a b,vs=[.d (.list a),.d (.list b)]→f a b=some z→P):P:=by
 cases vs with
 |nil=>exact no e
 |cons v t=>cases v with
  |m=>exact no e
  |d x=>cases x with
   |list=>cases t with
    |nil=>exact no e
    |cons w t=>cases w with
     |m=>exact no e
     |d y=>cases y with
      |list=>cases t with
       |nil=>exact k _ _ rfl e
       |cons=>exact no e
      |_=>exact no e
   |_=>exact no e
theorem aed{o:Option MO}{f:List D→Option β}{g:Option β}(e:(match o with|some (.list xs)=>f xs|_=>g)=some z)(k1:∀xs,o=some (.list xs)→f xs=some z→P)(k2:g=some z→P):P:=by
 cases o with
 |none=>exact k2 e
 |some x=>cases x with
  |list=>exact k1 _ rfl e
  |_=>exact k2 e
end
noncomputable def kz (C:Cfg) (A:Around) (env:Env) (X:Addr→Prop) (ρ:Rho) (target e:Expr) (σ:Sto) (ds:List D) (live:Bool) (σ':Sto):Prop:=∀(E:Value→Shared→Prop) (Q:Value→Shared→Prop) (s:Shared) (α:a7),SRel C X α σ s.heap→b0 C env ρ X α σ s.heap→
 wj C A X target ds live α σ σ' s Q→wpAny (model C.prog C.w) A (eval e env) (fun x s₁=>wpAny (model C.prog C.w) A (pyIter x) Q E s₁) E s
theorem wj.after{Q:Value→Shared→Prop}{ds:List D}{live:Bool}{α₁:a7}{σ₁:Sto}{s₁:Shared}(S:Step C X α σ s α₁ σ₁ s₁) (h:wj C A X target ds live α σ σ' s Q):wj C A X target ds live α₁ σ₁ σ' s₁ Q:=fun it α' s' us es fp wr St S' I st rs fo hw=>
 h it α' s' us es fp wr St (S.trans S') I st rs fo ⟨fun b hb=>⟨Nat.le_trans S.grow (hw.1 b hb).1,(hw.1 b hb).2⟩,hw.2⟩
theorem aeq{Q:Value→Shared→Prop}{u:Value}{V₁:V}{ds:List D}{live:Bool}(hh:A.handled=none) (r:SRel C X α σ s.heap) (ru:RepV C s.heap (Bad X σ α) α u V₁)
  (e:a04 σ V₁=some ((ds,live),σ'))
  (h:wj C A X target ds live α σ σ' s Q):wpAny (model C.prog C.w) A (pyIter u) Q E s:=by
 cases V₁ with
 |d x=>
  refine de e fun l e1 e=>?_
  cases e
  exact a01 (target:=target) hh r (vd ru) e1 h
 |m i=>
  refine aed e (fun xs ho e=>?_) fun e=>ag e fun d σ₁ e1 e=>de e fun l e2 e=>?_
  ·(revert h;apply a61 e;clear e;intro h)
   refine vm ru fun p hp hu=>?_
   obtain⟨_,vs,hl,hn,rs⟩:=r.obj _ _ _ hp ho
   exact hu▸a3w (target:=target) hh r hl rs (r.notX i p hp).1 (fun q=>by cases q) h
  ·cases e
   exact bk (kj r ru e1) fun S R=>a01 (target:=target) hh S.srel R e2 (h.after S)
theorem a7k (hh:A.handled=none) (K:EnvOk C env sc X) (T:bu C A env X ρ ev){x:Expr}{ds:List D}{live:Bool}(e:((ev x σ).bind fun p=>a04 p.2 p.1)=some ((ds,live),σ')):kz C A env X ρ target x σ ds live σ':=by
 intro E Q s α r er h
 refine ag e ?_;clear e;intro V₁ σ₁ e1 e
 exact(T _ _ _ _ e1).then K r er fun v α₁ s₁ S R r₁ er₁=>aeq (target:=target) hh r₁ R e (h.after S)
theorem j7 (O:Ok C) (hfree:∀f,e7.contains f=true→C.mg f=none) (K:EnvOk C env sc X){f:Str}{bv:Value}{s:Shared}{α:a7}{E:Value→Shared→Prop}(r:SRel C X α σ s.heap) (hb:e7.contains f=true) (hn:f≠"__name__") (hbv:bootBuiltins f=some bv){Q:Value→Shared→Prop}(hq:Q bv s):
  wpAny (model C.prog C.w) A (loadGlobal env f) Q E s:=
 loadGlobal_builtin (mg:=C.mg) (mb:=C.mb) (by rw[K.globals];exact O.g.keeps r.stays) (hfree f hb) (by rw[K.builtins];exact O.b.keeps r.stays) ((O.blt f hn).trans hbv) hq
theorem a3a (O:Ok C) (hh:A.handled=none) (hfree:∀f,e7.contains f=true→C.mg f=none) (K:EnvOk C env sc X) (T:bu C A env X ρ ev) (N:di ev) {fp p:Pos} {es:List Expr} {ds:List D} {live:Bool} (hf:sc.names.lookup ("range":Str)=some .globalImplicit)
  (e:((fj ev es σ).bind fun p=>match p.1 with
   |[.d (.int b)]=>if b≤1000000&&small b then some ((ee 0 b,false),p.2) else none
   |[.d (.int a),.d (.int b)]=>if small a&&small b&&decide (b-a≤1000000) then some ((ee a b,false),p.2) else none
   |_=>none)=some ((ds,live),σ')):kz C A env X ρ target (.Call (.Name "range" fp) es [] p) σ ds live σ':=by
 intro E Q s α r er h
 refine ag e ?_;clear e;intro Vs σ₁ e1 e
 refine pf K hf (fv:=.type "range") (fun hq=>j7 O hfree K r (by decide+kernel) (by decide+kernel) boot_range hq) ?_
 refine d9 K T N e1 (P:=fun _=>True) (ea fun a q=>by cases q) r er fun vs α' s' S R=>⟨trivial,?_⟩
 have r':=S.srel
 refine ahz e (fun b hV e=>ai e (fun q e=>?_) fun _ e=>no e) fun a b hV e=>ai e (fun q e=>?_) fun _ e=>no e
 ·have q:=tt q
  subst hV
  refine rs1 R fun u hu a=>a0h a fun t ht=>?_
  subst hu;subst ht
  (revert h;apply a61 e;clear e;intro h)
  refine call_range_1 ?_
  have S':=Step.push r' {cls:=.type "range",data:=.fields #[.int 0 s'.toks,.int b t,.int 1 (s'.toks+1)]} (s'.toks+1+1)
  exact a1r (target:=target) hh S'.srel (IsRange.new ..) (by decide) q.2 (by rw[Int.sub_zero];exact of_decide_eq_true q.1) (h.after (S.trans S'))
 ·have q:=tt q
  have q1:=tt q.1
  subst hV
  refine rs2 R fun u v hu r1 r2=>a0h r1 fun t ht=>a0h r2 fun t' ht'=>?_
  subst hu;subst ht;subst ht'
  (revert h;apply a61 e;clear e;intro h)
  refine call_range_2 ?_
  have S':=Step.push r' {cls:=.type "range",data:=.fields #[.int a t,.int b t',.int 1 s'.toks]} (s'.toks+1)
  exact a1r (target:=target) hh S'.srel (IsRange.new ..) q1.1 q1.2 (of_decide_eq_true q.2) (h.after (S.trans S'))
theorem a4i (O:Ok C) (hh:A.handled=none) (hfree:∀f,e7.contains f=true→C.mg f=none) (K:EnvOk C env sc X) (T:bu C A env X ρ ev) (N:di ev){fp p:Pos}{es:List Expr}{ds:List D}{live:Bool}(hf:sc.names.lookup ("enumerate":Str)=some .globalImplicit){elts:List Expr}{k:Nat}{pos:Pos}
  (e:((fj ev es σ).bind fun p=>match p.1 with
   |[.d (.list xs)]=>some ((gj 0 xs,false),p.2)
   |[.m i]=>match p.2.objs[i]? with|some (.list xs)=>some ((gj 0 xs,true),p.2)|_=>none
   |_=>none)=some ((ds,live),σ')):kz C A env X ρ (.Tuple elts k pos) (.Call (.Name "enumerate" fp) es [] p) σ ds live σ':=by
 intro E Q s α r er h
 refine ag e ?_;clear e;intro Vs σ₁ e1 e
 refine pf K hf (fv:=.type "enumerate") (fun hq=>j7 O hfree K r (by decide+kernel) (by decide+kernel) boot_enumerate hq) ?_
 refine d9 K T N e1 (P:=fun _=>True) (ea fun a q=>by cases q) r er fun vs α' s' S R=>⟨trivial,?_⟩
 have r':=S.srel
 refine ald e (fun xs hV e=>?_) fun i hV e=>isList e fun xs ho e=>?_
 ·subst hV
  (revert h;apply a61 e;clear e;intro h)
  refine rs1 R fun u hu a=>vv (vd a) fun b us hb hl nb hn rs=>?_
  subst hu;subst hb
  exact a3x hh r' hl rs (fun q=>nb (.inl q)) (fun _ m=>nb (.inr m)) (h.after S)
 ·subst hV
  (revert h;apply a61 e;clear e;intro h)
  refine rs1 R fun u hu a=>vm a fun p hp hb=>?_
  obtain⟨_,us,hl,hn,rs⟩:=r'.obj _ _ _ hp ho
  subst hu;subst hb
  exact a3x hh r' hl rs (r'.notX i p hp).1 (fun q=>by cases q) (h.after S)
theorem a7i (O:Ok C) (hh:A.handled=none) (hfree:∀f,e7.contains f=true→C.mg f=none) (K:EnvOk C env sc X) (T:bu C A env X ρ ev) (N:di ev){fp p:Pos}{es:List Expr}{ds:List D}{live:Bool}(hf:sc.names.lookup ("zip":Str)=some .globalImplicit){elts:List Expr}{k:Nat}{pos:Pos}
  (e:((fj ev es σ).bind fun p=>match p.1 with
   |[.d (.list xs),.d (.list ys)]=>some ((x5 xs ys,false),p.2)
   |_=>none)=some ((ds,live),σ')):kz C A env X ρ (.Tuple elts k pos) (.Call (.Name "zip" fp) es [] p) σ ds live σ':=by
 intro E Q s α r er h
 refine ag e ?_;clear e;intro Vs σ₁ e1 e
 refine pf K hf (fv:=.type "zip") (fun hq=>j7 O hfree K r (by decide+kernel) (by decide+kernel) boot_zip hq) ?_
 refine d9 K T N e1 (P:=fun _=>True) (ea fun a q=>by cases q) r er fun vs α' s' S R=>⟨trivial,?_⟩
 have r':=S.srel
 refine apg e fun xs ys hV e=>?_
 subst hV
 (revert h;apply a61 e;clear e;intro h)
 refine rs2 R fun u v hu a b=>vv (vd a) fun _ us hb hl nb hn rs=>vv (vd b) fun _ ws hc hm nm hn' rm=>?_
 subst hu;subst hb;subst hc
 exact aeo hh r' hl rs nb hm rm nm (h.after S)
end
noncomputable def fz (cells:List (Str×Addr)):List (Str×NameKind)→List (Str×Addr)→List (Str×Addr)
 |[],acc=>acc
 |(n,k)::r,acc=>if k==.free then fz cells r ((n,(cells.lookup n).getD 0)::acc)else fz cells r acc
theorem l7 (env:Env) (f:Str×NameKind→List (Str×Addr)→Sem (ForInStep (List (Str×Addr)))) (hf:∀n k c,f (n,k) c=if k==.free then(do let a←cellOf env n;pure (.yield ((n,a)::c)))else pure (.yield c)):
  ∀(names:List (Str×NameKind)) (acc:List (Str×Addr)),(∀x∈names,x.2=.free→∃c,env.cells.lookup x.1=some c)→forIn names acc f=pure (fz env.cells names acc)
 |[],acc,_=>by rw[List.forIn_nil];rfl
 |(n,k)::r,acc,h=>by
  rw[List.forIn_cons,hf]
  unfold fz
  by_cases hk:(k==NameKind.free)=true
  ·rw[if_pos hk,if_pos hk]
   refine ex1 (h (n,k) (.head _) (eq_of_beq hk)) ?_;intro c hc
   unfold cellOf
   rw[hc]
   simp only[pure_bind]
   rw[l7 env f hf r _ fun x hx=>h x (.tail _ hx)]
   rfl
  ·rw[if_neg hk,if_neg hk]
   simp only[pure_bind]
   rw[l7 env f hf r _ fun x hx=>h x (.tail _ hx)]
theorem a7e{env:Env}{sc:Scope}(h:∀x∈sc.names,x.2=.free→∃c,env.cells.lookup x.1=some c):closureFor sc env=pure (fz env.cells sc.names []):=by
 unfold closureFor
 dsimp only
 rw[l7 env _ (fun n k c=>by dsimp only) sc.names [] h]
 rfl
theorem re{cells:List (Str×Addr)}:∀(names:List (Str×NameKind))(acc:List (Str×Addr))(x:Str)(c:Addr),(x,c)∈fz cells names acc→(x,c)∈acc∨((x,NameKind.free)∈names∧c=(cells.lookup x).getD 0)
 |[],acc,x,c,h=>.inl h
 |(n,k)::r,acc,x,c,h=>by
  unfold fz at h
  split at h
  ·rename_i hk
   rcases re r _ x c h with h|⟨h1,h2⟩
   ·rcases List.mem_cons.mp h with e|h
    ·cases e;rw[eq_of_beq hk];exact .inr ⟨.head _,rfl⟩
    ·exact .inl h
   ·exact .inr ⟨.tail _ h1,h2⟩
  ·rcases re r _ x c h with h|⟨h1,h2⟩
   ·exact .inl h
   ·exact .inr ⟨.tail _ h1,h2⟩
theorem ei{β:Type}{l:List (Str×β)}{x:Str}{c:β}(h:(x,c)∈l):(l.lookup x).isSome=true:=by
 induction l with
 |nil=>cases h
 |cons p l ih=>
  obtain⟨n,v⟩:=p
  rw[List.lookup_cons]
  cases hx:x==n with
  |true=>rfl
  |false=>
   rcases List.mem_cons.mp h with e|h
   ·cases e;simp at hx
   ·exact ih h
theorem qw{cells:List (Str×Addr)}:∀(names:List (Str×NameKind))(acc:List (Str×Addr))(p:Str×Addr),p∈acc→p∈fz cells names acc
 |[],acc,p,h=>h
 |(n,k)::r,acc,p,h=>by
  unfold fz
  split
  ·exact qw r _ p (.tail _ h)
  ·exact qw r _ p h
theorem qq{cells:List (Str×Addr)}:∀(names:List (Str×NameKind))(acc:List (Str×Addr))(x:Str),(x,NameKind.free)∈names→(x,(cells.lookup x).getD 0)∈fz cells names acc
 |(n,k)::r,acc,x,h=>by
  unfold fz
  rcases List.mem_cons.mp h with e|h
  ·(revert h;apply re2 e;clear e;intro h)
   rw[if_pos (by decide)]
   exact qw r _ _ (.head _)
  ·split
   ·exact qq r _ x h
   ·exact qq r _ x h
theorem dg:∀(names:List (Str×NameKind))(n:Nat)(acc:List (Str×Addr)),cellsFrom n names acc=cellsFrom n names []++acc
 |[],n,acc=>rfl
 |(x,k)::r,n,acc=>by
  unfold cellsFrom
  split
  ·rw[dg r _ ((x,n)::acc),dg r _ [(x,n)],List.append_assoc];rfl
  ·exact dg r n acc
theorem fy:∀(names:List (Str×NameKind))(n:Nat)(p:Str×Addr),p∈cellsFrom n names []→(p.1,NameKind.cell)∈names
 |[],n,p,h=>by cases h
 |(x,k)::r,n,p,h=>by
  unfold cellsFrom at h
  split at h
  ·rename_i hk
   rw [dg]at h
   rcases List.mem_append.mp h with h|h
   ·exact .tail _ (fy r _ p h)
   ·rw [List.mem_singleton.mp h,eq_of_beq hk];exact .head _
  ·exact .tail _ (fy r _ p h)
theorem fi:∀(names:List (Str×NameKind)) (n:Nat) (x:Str),(x,NameKind.cell)∈names→∃c,(x,c)∈cellsFrom n names []
 |(y,k)::r,n,x,h=>by
  unfold cellsFrom
  rcases List.mem_cons.mp h with e|h
  ·(revert h;apply re2 e;clear e;intro h)
   rw[if_pos (by decide),dg]
   exact⟨n,List.mem_append_right _ (.head _)⟩
  ·split
   ·refine ex1 (fi r (n+1) x h) ?_;intro c hc
    rw[dg]
    exact⟨c,List.mem_append_left _ hc⟩
   ·exact fi r n x h
theorem gh:∀(names:List (Str×NameKind)) (h:Heap),h.objs.size≤(pushCells h names).objs.size
 |[],h=>Nat.le_refl _
 |(x,k)::r,h=>by
  unfold pushCells
  split
  ·exact Nat.le_trans (Nat.le_of_lt (eg _ _)) (gh r _)
  ·exact gh r h
theorem jw{β:Type}:∀(l m:List (Str×β))(x:Str),(l++m).lookup x=(l.lookup x).or (m.lookup x)
 |[],m,x=>rfl
 |(n,v)::l,m,x=>by
  simp only[List.cons_append,List.lookup_cons]
  cases x==n
  ·exact jw l m x
  ·rfl
theorem ey{β:Type}{l:List (Str×β)}{x:Str}(h:∀c,(x,c) ∉ l):l.lookup x=none:=by
 cases e:l.lookup x with
 |none=>rfl
 |some c=>exact absurd (mem_of_lookup e) (h c)
theorem p7 (env:Env):∀(names:List (Str×NameKind))(x:Str),(names.map fun(n,k)=>if(k==NameKind.free&&env.scope.kind==.function&&env.kindOf n==some .cell)then(n,NameKind.cell)else(n,k)).lookup x=
  (names.lookup x).map fun k=>if(k==NameKind.free&&env.scope.kind==.function&&env.kindOf x==some .cell)then NameKind.cell else k
 |[],x=>rfl
 |(n,k)::r,x=>by
  have ih:=p7 env r x
  have hn:((if(k==NameKind.free&&env.scope.kind==.function&&env.kindOf n==some .cell)=true then(n,NameKind.cell)else(n,k)):Str×NameKind)=(n,if(k==NameKind.free&&env.scope.kind==.function&&env.kindOf n==some .cell)=true then NameKind.cell else k):=by split<;>rfl
  rw[List.map_cons]
  refine(?_:List.lookup x ((if(k==NameKind.free&&env.scope.kind==.function&&env.kindOf n==some .cell)=true then(n,NameKind.cell)else(n,k))::_)=_)
  rw[hn,List.lookup_cons,List.lookup_cons]
  cases hx:x==n with
  |true=>have:=eq_of_beq hx;(apply re1 this;clear this);rfl
  |false=>exact ih
section
variable{C:Cfg}{A:Around}{env:Env}{X:Addr→Prop}{sc csc:Scope}{E:Value→Shared→Prop}{target:Expr}
noncomputable def d4 (csc:Scope) (env:Env) (L:Addr):Env:={newEnv csc L env.globals (cellsFrom (L+1) csc.names (fz env.cells csc.names [])) env.qual none .none (some env) builtinsNs with scope:=relabel csc env}
theorem zo (h:js sc csc target=true):csc.kind=.function∧csc.names.lookup ("__debug__":Str)=none∧csc.names.lookup ("__classdict__":Str)=none∧
  (∀x k,(x,k)∈csc.names→(k=.cell→csc.names.lookup x=some .cell)∧(k=.local→csc.names.lookup x=some .local)∧(k=.free→(sc.names.lookup x=some .cell∨sc.names.lookup x=some .free)∧csc.names.lookup x=some .free))∧
  (∀y∈bz 4 target,csc.names.lookup y=some .local∨csc.names.lookup y=some .cell)∧csc.names.lookup ("sorted":Str)=none:=by
 unfold js at h
 simp only[Bool.and_eq_true,beq_iff_eq,List.all_eq_true,Bool.or_eq_true,bne_iff_ne,ne_eq,Option.isNone_iff_eq_none]at h
 refine bk h ?_;clear h;intro pq0 h6;obtain⟨⟨⟨⟨h1,h2⟩,h3⟩,h4⟩,h5⟩:=pq0
 refine⟨h1,h2,h3,fun x k hx=>?_,h5,h6⟩
 have:=h4 (x,k) hx
 simp only at this
 refine bk this ?_;clear this;intro pq0 a5;obtain⟨⟨⟨a1,a2⟩,a3⟩,a4⟩:=pq0
 refine⟨fun q=>?_,fun q=>?_,fun q=>?_⟩<;>subst q
 ·simpa using a1
 ·simpa using a2
 ·exact⟨by simpa using a3,by simpa using a4⟩
theorem adu (K:EnvOk C env sc X) (hc:js sc csc target=true) {h:Heap}(hx:∀a,X a→a<h.objs.size) {X':Addr→Prop}(hX:∀a,X a→X' a) (hN:∀a,h.objs.size≤a→a<(pushCells (h.push {cls:=.type "dict",data:=.dict #[]}) csc.names).objs.size→X' a) (hP:X C.P):
  EnvOk C (d4 csc env h.objs.size) csc X'∧a1e (d4 csc env h.objs.size) csc (pushCells (h.push {cls:=.type "dict",data:=.dict #[]}) csc.names)∧(∀a,Own (d4 csc env h.objs.size) csc a→h.objs.size≤a)∧
   (∀x,csc.names.lookup x=some .free→(d4 csc env h.objs.size).cells.lookup x=env.cells.lookup x)∧(∀x c,(d4 csc env h.objs.size).cells.lookup x=some c→h.objs.size<c∨env.cells.lookup x=some c):=by
 obtain ⟨c1,c2,c3,c4,c5,c6⟩:=zo hc
 generalize hh':pushCells (h.push {cls:=.type "dict",data:=.dict #[]}) csc.names=h' at*
 have e1:(h.push {cls:=.type "dict",data:=.dict #[]}).objs.size=h.objs.size+1:=Heap.size_push ..
 have ok:=cellsFrom_ok csc.names (h.push {cls:=.type "dict",data:=.dict #[]}) (h.objs.size+1) [] ⟨fun _ _ hm=>(nomatch hm),List.Pairwise.nil⟩ (by rw [e1];exact Nat.le_refl _)
 rw [e1,hh']at ok
 have hs:h.objs.size<h'.objs.size:=by rw [←hh'];exact Nat.lt_of_lt_of_le (eg _ _) (gh _ _)
 have hcells:(d4 csc env h.objs.size).cells=cellsFrom (h.objs.size+1) csc.names []++fz env.cells csc.names []:=dg ..
 have free_c:∀x,(x,NameKind.free)∈csc.names→∃c,env.cells.lookup x=some c:=fun x hx=>K.cells x ((c4 x _ hx).2.2 rfl).1
 have new_c:∀x c,(cellsFrom (h.objs.size+1) csc.names []).lookup x=some c→csc.names.lookup x=some .cell∧h.objs.size+1≤c∧h'.IsCell c none:=fun x c e=>
  have m:=mem_of_lookup e
  ⟨(c4 x _ (fy _ _ _ m)).1 rfl,(ok.empty x c m).2,(ok.empty x c m).1⟩
 have old_c:∀x c,(fz env.cells csc.names []).lookup x=some c→csc.names.lookup x=some .free∧env.cells.lookup x=some c:=fun x c e=>by
  rcases re _ _ _ _ (mem_of_lookup e)with m|⟨m,q⟩
  ·cases m
  ·refine ex1 (free_c x m) ?_;intro c' hc'
   rw [hc']at q
   exact ⟨((c4 x _ m).2.2 rfl).2,by rw [q];exact hc'⟩
 have split_c:∀x c,(d4 csc env h.objs.size).cells.lookup x=some c→(csc.names.lookup x=some .cell∧h.objs.size+1≤c∧h'.IsCell c none∧(cellsFrom (h.objs.size+1) csc.names []).lookup x=some c)∨(csc.names.lookup x=some .free∧env.cells.lookup x=some c):=fun x c e=>by
  rw [hcells,jw]at e
  cases e2:(cellsFrom (h.objs.size+1) csc.names []).lookup x with
  |some c'=>rw [e2]at e;cases e;have:=new_c x _ e2;exact .inl ⟨this.1,this.2.1,this.2.2,rfl⟩
  |none=>rw [e2]at e;exact .inr (old_c x c (by simpa using e))
 have lt_of_cell:∀{c:Addr}{v:Option Value},h'.IsCell c v→c<h'.objs.size:=fun x=>x.lt
 have old_lt:∀x c,env.cells.lookup x=some c→c<h.objs.size:=fun x c e=>hx c (K.xC x c e)
 have nP:∀a,h.objs.size≤a→a≠C.P:=fun a ha q=>absurd (hx _ hP) (by rw [←q];exact Nat.not_lt.mpr ha)
 have kind:∀x,(d4 csc env h.objs.size).kindOf x=(csc.names.lookup x).map fun k=>if (k==NameKind.free&&env.scope.kind==.function&&env.kindOf x==some .cell)then NameKind.cell else k:=fun x=>p7 env csc.names x
 have mem_look:∀{x:Str}{k:NameKind},csc.names.lookup x=some k→(x,k)∈csc.names:=fun e=>mem_of_lookup e
 have has_cell:∀x,csc.names.lookup x=some .cell→∃c,(d4 csc env h.objs.size).cells.lookup x=some c:=fun x e=>by
  refine ex1 (fi csc.names (h.objs.size+1) x (mem_look e)) ?_;intro c hc
  refine ex1 (Option.isSome_iff_exists.mp (ei hc)) ?_;intro c' hc'
  exact ⟨c',by rw [hcells,jw,hc'];rfl⟩
 have has_free:∀x,csc.names.lookup x=some .free→(d4 csc env h.objs.size).cells.lookup x=env.cells.lookup x:=fun x e=>by
  refine ex1 (free_c x (mem_look e)) ?_;intro c hc
  have n1:(cellsFrom (h.objs.size+1) csc.names []).lookup x=none:=ey fun c m=>by
   have:=(c4 x _ (fy _ _ _ m)).1 rfl
   rw [e]at this;cases this
  refine ex1 (Option.isSome_iff_exists.mp (ei (qq (cells:=env.cells) csc.names [] x (mem_look e)))) ?_;intro c' hc'
  rw [hcells,jw,n1,hc',Option.none_or,(old_c x c' hc').2]
 refine ⟨⟨c1,K.globals,K.builtins,fun x e=>?_,fun x e=>?_,hN _ (Nat.le_refl _) hs,fun x c e=>?_,⟨nP _ (Nat.le_refl _),fun x c e=>?_⟩,c2,?_,fun x e=>?_,fun x e=>?_,fun x e=>?_,fun x y c e1 e2=>?_,fun x c e=>?_,fun e=>by rw [c6]at e;cases e⟩,⟨⟨fun _=>none,?_⟩,fun x c e1 e2=>?_⟩,fun a o=>?_,has_free,fun x c e=>(split_c x c e).imp (fun q=>q.2.1) (fun q=>q.2)⟩
 ·rw [kind,e];rfl
 ·rcases e with e|e
  ·exact has_cell x e
  ·refine ex1 (free_c x (mem_look e)) ?_;intro c hc
   exact ⟨c,(has_free x e).trans hc⟩
 ·rcases split_c x c e with ⟨_,h2,h3,_⟩|⟨_,h2⟩
  ·exact hN c (Nat.le_of_succ_le h2) h3.lt
  ·exact hX c (K.xC x c h2)
 ·rcases split_c x c e with ⟨_,h2,_⟩|⟨_,h2⟩
  ·exact nP c (Nat.le_of_succ_le h2)
  ·exact K.nP.2 x c h2
 ·rw [kind,c3];rfl
 ·rw [kind,e];rfl
 ·rw [kind,e];rfl
 ·rw [kind,e]
  simp only [Option.map_some]
  split
  ·exact .inl rfl
  ·exact .inr rfl
 ·rcases split_c x c e1 with ⟨_,h2,_,h4⟩|⟨_,h2⟩<;>rcases split_c y c e2 with ⟨_,k2,_,k4⟩|⟨_,k2⟩
  ·exact name_of_addr ok.apart (mem_of_lookup h4) (mem_of_lookup k4)
  ·exact absurd (old_lt y c k2) (Nat.not_lt.mpr (Nat.le_of_succ_le h2))
  ·exact absurd (old_lt x c h2) (Nat.not_lt.mpr (Nat.le_of_succ_le k2))
  ·exact K.inj x y c h2 k2
 ·refine (?_:c≠h.objs.size)
  rcases split_c x c e with ⟨_,h2,_⟩|⟨_,h2⟩
  ·exact Nat.ne_of_gt h2
  ·exact Nat.ne_of_lt (old_lt x c h2)
 ·rw [←hh'];exact (Heap.Ns.new h (.type "dict")).keeps (pushCells_keeps _ _)
 ·rcases split_c x c e2 with ⟨_,_,h3,_⟩|⟨h2,_⟩
  ·exact ⟨none,h3⟩
  ·rw [e1]at h2;cases h2
 ·rcases o with rfl|⟨x,e1,e2⟩
  ·exact Nat.le_refl _
  ·rcases split_c x a e2 with ⟨_,h2,_⟩|⟨h2,_⟩
   ·exact Nat.le_of_succ_le h2
   ·rw [e1]at h2;cases h2
theorem a55 {s:Shared}{cl:List (Str×Addr)}{Q:Env→Shared→Prop}{M:Model}(h:Q (newEnv csc s.heap.objs.size env.globals (cellsFrom (s.heap.objs.size+1) csc.names cl) env.qual none .none (some env) builtinsNs) {s with heap:=pushCells (s.heap.push {cls:=.type "dict",data:=.dict #[]}) csc.names}):
  wpAny M A (newFunctionEnv csc env.globals cl [] env.qual none .none (some env)) Q E s:=by
 simp only[newFunctionEnv,Option.isSome_some,if_true]
 refine wpAny_bind (wpAny_alloc ?_)
 refine wpAny_bind (wpAny_layCells _ (fun name kind cells=>by cases hkc:kind==NameKind.cell<;>simp[hkc]) _ _ _ _ ?_)
 rw[show({s with heap:=s.heap.push {cls:=.type "dict",data:=.dict #[]}}:Shared).heap.objs.size=s.heap.objs.size+1 from Heap.size_push ..]
 exact wpAny_bind (wpAny_pure (wpAny_pure h))
end
section
variable{prog:Program}{w:World}{A:Around}{R:Result→Shared→Prop}{s:Shared}
noncomputable def xp (ifs:List Expr)(env:Env):Sem Bool:=forIn ifs true fun c r=>if r=true then do let ok←isTrue c env (eval c env);pure (ForInStep.yield ok)else pure (ForInStep.yield r)
noncomputable def agk (prog:Program) (w:World) (A:Around) (elt:Expr) (acc:Value) (env:Env) (Q:Shared→Prop) (E:Value→Shared→Prop):Bool→Shared→Prop
 |true=>fun s₃=>wpAny (model prog w) A (eval elt env) (fun x s₄=>wpAny (model prog w) A (call (.builtin "list.append") [acc,x]) (fun _=>Q) E s₄) E s₃
 |false=>Q
noncomputable def ang (prog:Program) (w:World) (A:Around) (elt target:Expr) (ifs:List Expr) (acc:Value) (env:Env) (Q:Shared→Prop) (E:Value→Shared→Prop) (v:Value) (s₁:Shared):Prop:=
 wpAny (model prog w) A (assign target env v) (fun _ s₂=>wpAny (model prog w) A (xp ifs env) (agk prog w A elt acc env Q E) E s₂) E s₁
noncomputable def afu (prog:Program) (w:World) (A:Around) (elt target:Expr) (ifs:List Expr) (it acc:Value) (env:Env) (R Q:Shared→Prop) (E:Value→Shared→Prop):Option Value→Shared→Prop
 |none=>R
 |some v=>fun s₁=>wpAny (model prog w) A (letOwnedTupleGo target it v) (fun _=>ang prog w A elt target ifs acc env Q E v) E s₁
theorem a5x{elt target iter:Expr}{ifs:List Expr}{scope:Scope}{pos:Pos}{it acc:Value}{env:Env}(I:Nat→Shared→Prop) (turn:∀n s E,I n s→wpAny (model prog w) A (pyNext it) (afu prog w A elt target ifs it acc env (R (.ok .next)) (fun s=>∃m,m<n∧I m s) E) E s)
  (n:Nat) (h:I n s):codeAny (model prog w) A (.compLoop (.ListComp elt [⟨target,iter,ifs,0⟩] scope pos) 0 it acc env) R s:=by
 refine codeAny_loop rfl I (fun n s hI=>?_) n h
 refine(?_:wpAny _ A ((compTurn (.ListComp elt [⟨target,iter,ifs,0⟩] scope pos) 0 it acc env).onRaise (fun x=>do noteFrame x env;theTreesLotGoes x)) _ _ s)
 refine wpAny_noted ?_
 rw[compTurn_list]
 refine wpAny_bind (wpAny_standAt (wpAny_bind (wpAny_mono (turn n s _ hI) (fun r s₁ h₁=>?_) fun _ _ h'=>h')))
 cases r with
 |none=>exact wpAny_pure h₁
 |some v=>
  refine wpAny_bind (wpAny_mono (show wpAny _ _ _ _ _ _ from h₁) (fun _ s₂ h₂=>?_) fun _ _ h'=>h')
  refine wpAny_bind (wpAny_mono (show wpAny _ _ _ _ _ _ from h₂) (fun _ s₂ h₂=>wpAny_bind (wpAny_mono h₂ (fun ok s₃ h₃=>?_) fun _ _ h'=>h')) fun _ _ h'=>h')
  cases ok with
  |false=>exact wpAny_pure ⟨rfl,h₃⟩
  |true=>
   exact wpAny_bind (wpAny_bind (wpAny_mono (show wpAny _ _ _ _ _ _ from h₃) (fun x s₄ h₄=>wpAny_bind (wpAny_mono h₄ (fun _ s₅ h₅=>wpAny_pure (wpAny_pure ⟨rfl,h₅⟩)) fun _ _ h'=>h')) fun _ _ h'=>h'))
end
section
variable{C:Cfg}{A:Around}{env:Env}{X X':Addr→Prop}{ρ τ:Rho}{sc:Scope}{σ σ' σ₀:Sto}{α α₀:a7}{s s₀:Shared}{E:Value→Shared→Prop}
theorem a69{ifs:List Expr}{Q:Bool→Shared→Prop}(h:Q false s):wpAny (model C.prog C.w) A (forIn ifs false fun c r=>if r=true then do let ok←isTrue c env (eval c env);pure (ForInStep.yield ok)else pure (ForInStep.yield r)) Q E s:=by
 induction ifs with
 |nil=>rw[List.forIn_nil];exact wpAny_pure h
 |cons c r ih=>rw[List.forIn_cons];exact wpAny_bind (wpAny_pure ih)
theorem a26{evt:Expr→Sto→Option (Bool×Sto)}(K:EnvOk C env sc X) (TT:∀e σ b σ',evt e σ=some (b,σ')→uj C A env X ρ e σ b σ'):∀(ifs:List Expr) (σ:Sto) (b:Bool) (σ':Sto),mo evt ifs σ=some (b,σ')→ak1 C A env X ρ (xp ifs env) σ b σ'
 |[],σ,b,σ',e=>by
  intro E Q s α r er h
  revert h;apply du e;clear e;intro h
  unfold xp
  rw[List.forIn_nil]
  exact wpAny_pure (h _ _ (Step.refl r))
 |c::rest,σ,b,σ',e=>by
  intro E Q s α r er h
  refine ag e ?_;clear e;intro b1 σ₁ e1 e
  unfold xp
  rw[List.forIn_cons]
  refine wpAny_bind (wpAny_bind (TT _ _ _ _ e1 E _ s α r er fun α₁ s₁ S=>wpAny_pure ?_))
  cases b1 with
  |true=>
   exact a26 K TT rest σ₁ b σ' e E Q s₁ α₁ S.srel (b0.step K r S er) fun α' s' S'=>h _ _ (S.trans S')
  |false=>
   revert h;apply du e;clear e;intro h
   exact a69 (h _ _ S)
theorem Blk.poke {Y:Addr→Prop}{h':Heap}(G:BlkOk C env sc X X' α₀ σ₀ s₀) (b:Blk C env sc X X' α₀ σ₀ s₀ ρ α σ s) (hY:∀a,Y a→X' a∧s₀.heap.objs.size≤a) (hE:∀a,Y a→a≠env.locals∧∀x,env.cells.lookup x≠some a)
  (hk:∀a o,¬Y a→s.heap.get? a=some o→h'.get? a=some o) (hs:s.heap.objs.size≤h'.objs.size) (t:Nat):Blk C env sc X X' α₀ σ₀ s₀ ρ α σ {s with heap:=h',toks:=t}:=by
 refine bk (Step.poke (Y:=Y) G.r₀ G.up b.step b.srel hY hk hs t) ?_;intro S r
 have kL:∀o,s.heap.get? env.locals=some o→h'.get? env.locals=some o:=fun o e=>hk _ o (fun y=>(hE _ y).1 rfl) e
 have kC:∀x c,env.cells.lookup x=some c→∀o,s.heap.get? c=some o→h'.get? c=some o:=fun x c hc o e=>hk c o (fun y=>(hE _ y).2 x hc) e
 refine⟨S,r,fun x v e=>?_,?_⟩
 ·refine ar (b.er x v e) ?_;intro u h1 h2
  exact⟨u,h1.keep kL kC,h2.mono (fun c o nb e=>hk c o (fun y=>nb (.inl (hY c y).1)) e) (fun _ _ _ n=>n) fun _ _ e=>e⟩
 ·refine bk b.at_ ?_;intro pq0 hc;obtain⟨m,hm⟩:=pq0
  refine⟨⟨m,hm.at' kL⟩,fun x c h1 h2=>?_⟩
  refine a8p (hc x c h1 h2) ?_;intro v o ho hd
  exact⟨v,o,kC x c h2 o ho,hd⟩
theorem Blk.envMono{ρ':Rho}(b:Blk C env sc X X' α₀ σ₀ s₀ ρ α σ s)(h:∀x v,Rho.get ρ' x=some v→Rho.get ρ x=some v):Blk C env sc X X' α₀ σ₀ s₀ ρ' α σ s:=⟨b.step,b.srel,fun x v e=>b.er x v (h x v e),b.at_⟩
theorem a99 (ρ τ:Rho) (x:Str):Rho.get (ρ++τ) x=match ρ.lookup x with|some u=>u|none=>Rho.get τ x:=by
 unfold Rho.get
 rw[jw]
 cases ρ.lookup x<;>rfl
theorem a3j(l:List Str)(x:Str):(l.map fun y=>(y,(none:Option V))).lookup x=none∨(l.map fun y=>(y,(none:Option V))).lookup x=some none:=by
 induction l with
 |nil=>exact .inl rfl
 |cons y l ih=>
  rw[List.map_cons,List.lookup_cons]
  cases x==y
  ·exact ih
  ·exact .inr rfl
theorem vh{l:List Str}{x:Str}(h:((l.map fun y=>(y,(none:Option V))).lookup x).isSome=true):x∈l:=by
 induction l with
 |nil=>cases h
 |cons y l ih=>
  rw[List.map_cons,List.lookup_cons]at h
  cases hx:x==y with
  |true=>rw[eq_of_beq hx];exact .head _
  |false=>rw[hx]at h;exact .tail _ (ih h)
theorem a4o{csc:Scope}{ρ:Rho}{x:Str}{v:V}(h:Rho.get (r5 csc ρ) x=some v):csc.names.lookup x=some .free∧Rho.get ρ x=some v:=by
 unfold r5 Rho.get at h
 induction ρ with
 |nil=>cases h
 |cons p ρ ih=>
  obtain⟨y,u⟩:=p
  rw[List.filter_cons]at h
  split at h
  ·rename_i hy
   rw[List.lookup_cons]at h
   cases hx:x==y with
   |true=>
    have:=eq_of_beq hx;subst this
    rw[hx]at h
    refine⟨by simpa using hy,?_⟩
    unfold Rho.get
    rw[List.lookup_cons,hx];exact h
   |false=>
    rw[hx]at h
    refine bk (ih h) ?_;intro h1 h2
    refine⟨h1,?_⟩
    unfold Rho.get
    rw[List.lookup_cons,hx];exact h2
  ·rename_i hy
   refine bk (ih h) ?_;intro h1 h2
   refine⟨h1,?_⟩
   unfold Rho.get
   rw[List.lookup_cons]
   cases hx:x==y with
   |true=>
    have:=eq_of_beq hx;subst this
    rw[h1]at hy;simp at hy
   |false=>exact h2
end
noncomputable def oj (evt:Rho→Expr→Sto→Option (Bool×Sto)) (evx:Rho→Expr→Sto→Option (V×Sto)) (target elt:Expr) (ifs:List Expr) (τ:Rho) (live:Bool) (v0:Nat) (x:D) (σ:Sto):Option (Option D×Sto):=
 (aj 4 target x ((bz 4 target).map fun y=>(y,none))).bind fun ρc=>
  (mo (evt (ρc++τ)) ifs σ).bind fun t=>if t.1 then(evx (ρc++τ) elt t.2).bind fun q=>(toD q.2 q.1).bind fun u=>if live&&u.2.ver !=v0 then none else some (some u.1,u.2)else
   if live&&t.2.ver !=v0 then none else some (none,t.2)
structure WalkOk(C:Cfg)(A:Around)(env:Env)(sc:Scope)(X X':Addr→Prop)(s₀:Shared)(target:Expr)(it:Value)(us:List Value)(es ds:List D)(fp wr:List Addr)(St:Nat→Heap→Prop):Prop where
 I:Iter C A target it us es ds fp wr St
 wr:∀b∈wr,X' b∧s₀.heap.objs.size≤b∧b≠env.locals∧(∀x,env.cells.lookup x≠some b)
 fp:∀b∈fp,¬Own env sc b
structure WalkAt (C:Cfg) (env:Env) (sc:Scope) (X X':Addr→Prop) (α₀:a7) (σ₀:Sto) (s₀:Shared) (us:List Value) (es ds:List D) (fp:List Addr) (St:Nat→Heap→Prop) (live:Bool) (v0:Nat) (ρ:Rho) (i:Nat) (α:a7) (σ:Sto) (s:Shared):Prop where
 blk:Blk C env sc X X' α₀ σ₀ s₀ ρ α σ s
 le:i≤ds.length
 st:St i s.heap
 rs:RepDs C s.heap (Bad X' σ α) us es
 fo:a4v C fp live σ α s.heap
 ver:live=true→σ.ver=v0
section
variable{C:Cfg}{A:Around}{env:Env}{X X':Addr→Prop}{ρ ρ' τ:Rho}{sc:Scope}{σ σ' σ₀:Sto}{α α' α₀:a7}{s s' s₀:Shared}{E:Value→Shared→Prop}{target:Expr}{it:Value}{us:List Value}{es ds:List D}{fp wr:List Addr}{St:Nat→Heap→Prop}{live:Bool}{v0 i:Nat}
theorem a4v.step (S:Step C X' α σ s α' σ' s') (f:a4v C fp live σ α s.heap):a4v C fp live σ' α' s'.heap:=fun b hb=>by
 refine f5 (f b hb) ?_;intro h1 h2 h3
 exact⟨Nat.lt_of_lt_of_le h1 S.grow,h2,fun hl m=>(S.muts b m).elim (h3 hl) fun q=>absurd h1 (Nat.not_lt.mpr q)⟩
theorem a4v.heap{h h':Heap}(f:a4v C fp live σ α h)(hs:h.objs.size≤h'.objs.size):a4v C fp live σ α h':=fun b hb=>⟨Nat.lt_of_lt_of_le (f b hb).1 hs,(f b hb).2⟩
theorem WalkAt.step (W:WalkOk C A env sc X X' s₀ target it us es ds fp wr St) (G:BlkOk C env sc X X' α₀ σ₀ s₀) (w:WalkAt C env sc X X' α₀ σ₀ s₀ us es ds fp St live v0 ρ i α σ s) (S:Step C X' α σ s α' σ' s') (hv:live=true→σ'.ver=v0):
  WalkAt C env sc X X' α₀ σ₀ s₀ us es ds fp St live v0 ρ i α' σ' s':=by
 refine⟨w.blk.next G S,w.le,W.I.frame i _ _ w.st fun b hb o e=>?_,S.repDs w.blk.srel w.rs,w.fo.step S,hv⟩
 refine f5 (w.fo b hb) ?_;intro h1 h2 h3
 cases live with
 |false=>exact S.keep b o (h3 rfl) h2 e
 |true=>exact(S.same ((hv rfl).trans (w.ver rfl).symm)).2.2 b o h2 e
theorem WalkAt.own {h':Heap}{t:Nat}(W:WalkOk C A env sc X X' s₀ target it us es ds fp wr St) (G:BlkOk C env sc X X' α₀ σ₀ s₀) (w:WalkAt C env sc X X' α₀ σ₀ s₀ us es ds fp St live v0 ρ i α σ s)
  (hk:∀a o,¬Own env sc a→s.heap.get? a=some o→h'.get? a=some o) (hs:s.heap.objs.size≤h'.objs.size) (b:Blk C env sc X X' α₀ σ₀ s₀ ρ' α σ {s with heap:=h',toks:=t}):
  WalkAt C env sc X X' α₀ σ₀ s₀ us es ds fp St live v0 ρ' i α σ {s with heap:=h',toks:=t}:=
 ⟨b,w.le,W.I.frame i _ _ w.st fun b hb o e=>hk b o (W.fp b hb) e,w.rs.mono (fun c o nb e=>hk c o (fun o=>nb (.inl (t6 G.K o))) e) (fun _ _ _ n=>n),w.fo.heap hs,w.ver⟩
theorem WalkAt.names{ρ':Rho}(w:WalkAt C env sc X X' α₀ σ₀ s₀ us es ds fp St live v0 ρ i α σ s)(h:∀x v,Rho.get ρ' x=some v→Rho.get ρ x=some v):WalkAt C env sc X X' α₀ σ₀ s₀ us es ds fp St live v0 ρ' i α σ s:=
 ⟨w.blk.envMono h,w.le,w.st,w.rs,w.fo,w.ver⟩
theorem a1n (W:WalkOk C A env sc X X' s₀ target it us es ds fp wr St) (G:BlkOk C env sc X X' α₀ σ₀ s₀) (w:WalkAt C env sc X X' α₀ σ₀ s₀ us es ds fp St live v0 ρ i α σ s) {d:D}(hd:ds[i]?=some d) {Q:Value→Shared→Prop}
  (h:∀v h' t,(∀b o,b ∉ wr→s.heap.get? b=some o→h'.get? b=some o)→s.heap.objs.size≤h'.objs.size→WalkAt C env sc X X' α₀ σ₀ s₀ us es ds fp St live v0 ρ (i+1) α σ {s with heap:=h',toks:=t}→RepD C h' (Bad X' σ α) v d→Q v {s with heap:=h',toks:=t}):
  wpAny (model C.prog C.w) A (pyNext it) (fun r s₁=>match r with|none=>False|some v=>wpAny (model C.prog C.w) A (letOwnedTupleGo target it v) (fun _ s₂=>Q v s₂) E s₁) E s:=by
 refine W.I.item i s d Q E hd w.st fun v h' t st' sz hk hrep=>?_
 have hk':∀a o,¬a∈wr→s.heap.get? a=some o→h'.get? a=some o:=hk
 have b':=w.blk.poke (Y:=fun a=>a∈wr) G (fun a ha=>⟨(W.wr a ha).1,(W.wr a ha).2.1⟩) (fun a ha=>(W.wr a ha).2.2) hk' sz t
 have rs':RepDs C h' (Bad X' σ α) us es:=w.rs.mono (fun c o nb e=>hk c o (fun y=>nb (.inl (W.wr c y).1)) e) fun _ _ _ n=>n
 have lt:i<ds.length:=(List.getElem?_eq_some_iff.mp hd).1
 exact h v h' t hk sz ⟨b',lt,st',rs',w.fo.heap sz,w.ver⟩ (hrep _ rs' fun a ha=>gv w.blk.srel ha)
theorem a14 (W:WalkOk C A env sc X X' s₀ target it us es ds fp wr St) (G:BlkOk C env sc X X' α₀ σ₀ s₀) (w:WalkAt C env sc X X' α₀ σ₀ s₀ us es ds fp St live v0 ρ i α σ s) (hd:ds[i]?=none) {Q:Shared→Prop}
  (h:∀h' t,(∀b o,b ∉ wr→s.heap.get? b=some o→h'.get? b=some o)→s.heap.objs.size≤h'.objs.size→Blk C env sc X X' α₀ σ₀ s₀ ρ α σ {s with heap:=h',toks:=t}→Q {s with heap:=h',toks:=t}):
  wpAny (model C.prog C.w) A (pyNext it) (fun r s₁=>match r with|none=>Q s₁|some _=>False) E s:=by
 have hi:i=ds.length:=Nat.le_antisymm w.le (List.getElem?_eq_none_iff.mp hd)
 refine W.I.done s Q E (hi▸w.st) fun h' t sz hk=>?_
 exact h h' t hk sz (w.blk.poke (Y:=fun a=>a∈wr) G (fun a ha=>⟨(W.wr a ha).1,(W.wr a ha).2.1⟩) (fun a ha=>(W.wr a ha).2.2) hk sz t)
structure AccAt (C:Cfg) (X':Addr→Prop) (D₀:Addr) (n:Nat) (acc:List D) (α:a7) (σ:Sto) (h:Heap):Prop where
 ex:∃vs,h.PlainList D₀ vs.toArray∧RepDs C h (Bad X' σ α) vs acc∧vs.length≤n
theorem AccAt.keep{D₀:Addr}{n:Nat}{acc:List D}{h h':Heap}(a:AccAt C X' D₀ n acc α σ h)(k0:∀o,h.get? D₀=some o→h'.get? D₀=some o)(hk:∀b o,¬Bad X' σ α b→h.get? b=some o→h'.get? b=some o)(hb:∀b o,h.get? b=some o→¬Bad X' σ α b→¬Bad X' σ' α' b):AccAt C X' D₀ n acc α' σ' h':=by
 refine dz a.ex ?_;intro vs pq1 h2 h3;obtain⟨m,h1⟩:=pq1
 exact⟨vs,⟨m,k0 _ h1⟩,h2.mono hk hb,h3⟩
variable{evt:Rho→Expr→Sto→Option (Bool×Sto)}{evx:Rho→Expr→Sto→Option (V×Sto)}{elt:Expr}{ifs:List Expr}
theorem a50{live:Bool}{a b:Nat}(h:¬(live&&a !=b)=true)(q:live=true):a=b:=by
 subst q
 exact Classical.byContradiction fun n=>h (bne_iff_ne.mpr n)
theorem aau {D₀:Addr} {acc:List D} (hh:A.handled=none) (W:WalkOk C A env sc X X' s₀ target it us es ds fp wr St) (G:BlkOk C env sc X X' α₀ σ₀ s₀)
  (hD:X' D₀∧s₀.heap.objs.size≤D₀∧¬Own env sc D₀∧D₀≠env.locals∧(∀x,env.cells.lookup x≠some D₀)∧D₀ ∉ fp∧D₀ ∉ wr) (hlen:ds.length≤1000000)
  (hsets:∀y∈bz 4 target,sc.names.lookup y=some .local∨sc.names.lookup y=some .cell) (hτ:∀x v,Rho.get τ x=some v→sc.names.lookup x=some .free)
  (TT:∀ρ e σ b σ',evt ρ e σ=some (b,σ')→uj C A env X' ρ e σ b σ') (T:∀ρ,bu C A env X' ρ (evx ρ))
  (w:WalkAt C env sc X X' α₀ σ₀ s₀ us es ds fp St live v0 τ i α σ s) (ac:AccAt C X' D₀ i acc α σ s.heap) {d:D} (hd:ds[i]?=some d) {out:Option D} (e:oj evt evx target elt ifs τ live v0 d σ=some (out,σ')) {Q:Shared→Prop}
  (h:∀α' s',WalkAt C env sc X X' α₀ σ₀ s₀ us es ds fp St live v0 τ (i+1) α' σ' s'→AccAt C X' D₀ (i+1) (acc++out.toList) α' σ' s'.heap→Q s'):
  wpAny (model C.prog C.w) A (pyNext it) (afu C.prog C.w A elt target ifs it (.ref D₀) env (fun _=>False) Q E) E s:=by
 refine bj e ?_;clear e;intro ρc e1 e
 refine ag e ?_;clear e;intro b σt e2 e
 have lt:i<ds.length:=(List.getElem?_eq_some_iff.mp hd).1
 have DnP:D₀≠C.P:=fun q=>absurd (G.r₀.xLt _ G.r₀.xP) (by rw[←q];exact Nat.not_lt.mpr hD.2.1)
 refine wpAny_mono (a1n W G w hd (Q:=ang C.prog C.w A elt target ifs (.ref D₀) env Q E) fun v h₁ t₁ hk₁ sz₁ w₁ rv=>?_) (fun r s z=>by cases r with|none=>exact z|some v=>exact z) fun _ _ z=>z
 have ac₁:AccAt C X' D₀ i acc α σ h₁:=ac.keep (fun o e=>hk₁ _ o hD.2.2.2.2.2.2 e) (fun c o nb e=>hk₁ c o (fun y=>nb (.inl (W.wr c y).1)) e) fun _ _ _ n=>n
 have w₁':=w₁.names (ρ':=((bz 4 target).map fun y=>(y,(none:Option V)))++τ) fun x v hx=>by
  rw[a99]at hx
  rcases a3j (bz 4 target) x with q|q
  ·rw[q]at hx;exact hx
  ·rw[q]at hx;cases hx
 have sets₀:j6 sc ((bz 4 target).map fun y=>(y,(none:Option V))):=fun x hx=>hsets x (vh hx)
 refine nj hh G 4 target d _ ρc _ v _ e1 sets₀ w₁'.blk rv fun h₂ t₂ hk₂ sz₂ b₂=>?_
 have w₂:=w₁'.own W G hk₂ sz₂ b₂
 have ac₂:AccAt C X' D₀ i acc α σ h₂:=ac₁.keep (fun o e=>hk₂ _ o hD.2.2.1 e) (fun c o nb e=>hk₂ c o (fun o=>nb (.inl (t6 G.K o))) e) fun _ _ _ n=>n
 have back:∀x v,Rho.get τ x=some v→Rho.get (ρc++τ) x=some v:=fun x v hx=>by
  rw[a99]
  cases hq:ρc.lookup x with
  |none=>exact hx
  |some u=>
   exfalso
   have h1:=(sets₀.of_keys (je 4 e1)) x (by rw[hq];rfl)
   rw[hτ x v hx]at h1
   rcases h1 with h1|h1<;>cases h1
 have kD:∀{α':a7} {σ':Sto} {s':Shared},Step C X' α σ {s with heap:=h₂,toks:=t₂} α' σ' s'→AccAt C X' D₀ i acc α' σ' s'.heap:=fun S=>
  ac₂.keep (fun o e=>S.keep D₀ o (dp w₂.blk.srel hD.1) DnP e) (S.kept w₂.blk.srel) (S.bad w₂.blk.srel)
 refine a26 G.K (TT _) ifs σ b σt e2 E _ _ α w₂.blk.srel w₂.blk.er fun α₃ s₃ S₃=>?_
 cases b with
 |false=>
  refine ai e (fun q _=>absurd q Bool.false_ne_true) ?_;clear e;intro _ e
  refine ai e (fun _ e=>no e) ?_;clear e;intro hv e
  ·revert h;apply du e;clear e;intro h
   have hv':live=true→σt.ver=v0:=a50 hv
   refine h α₃ s₃ ((w₂.step W G S₃ hv').names back) ?_
   refine dz ((kD S₃).ex) ?_;intro vs a1 a2 a3
   exact⟨vs,a1,by simpa using a2,Nat.le_succ_of_le a3⟩
 |true=>
  refine ai e ?_ (fun q _=>absurd rfl q);clear e;intro _ e
  refine ag e ?_;clear e;intro V₁ σq e3 e
  refine ag e ?_;clear e;intro u σu e4 e
  refine ai e (fun _ e=>no e) ?_;clear e;intro hv e
  ·revert h;apply du e;clear e;intro h
   have hv':live=true→σu.ver=v0:=a50 hv
   refine(?_:wpAny (model C.prog C.w) A (eval elt env) _ E s₃)
   refine(T _ _ _ _ _ e3).then G.K S₃.srel (b0.step G.K w₂.blk.srel S₃ w₂.blk.er) fun x α₄ s₄ S₄ R₄ r₄ er₄=>?_
   refine bk (kj r₄ R₄ e4) ?_;intro S₅ R₅
   have S:=(S₃.trans S₄).trans S₅
   have w₅:=w₂.step W G S hv'
   refine dz ((kD S).ex) ?_;intro vs a1 a2 a3
   refine wpAny_list_append_plain a1 (fun h₆ hp₆ sb=>?_) (by rw[List.size_toArray];unfold sizeLine;omega)
   have hk₆:∀a o,¬a=D₀→s₄.heap.get? a=some o→h₆.get? a=some o:=fun a o n e=>(sb.2 a n).trans e
   have sz₆:s₄.heap.objs.size≤h₆.objs.size:=Nat.le_of_eq sb.1.symm
   have b₆:=w₅.blk.poke (Y:=fun a=>a=D₀) G (fun a ha=>⟨ha▸hD.1,ha▸hD.2.1⟩) (fun a ha=>⟨ha▸hD.2.2.2.1,fun x=>ha▸hD.2.2.2.2.1 x⟩) hk₆ sz₆ s₄.toks
   have mono:∀b o,¬Bad X' σu α₄ b→s₄.heap.get? b=some o→h₆.get? b=some o:=fun b o nb e=>hk₆ b o (fun q=>nb (.inl (q▸hD.1))) e
   refine h α₄ _ ((⟨b₆,w₅.le,W.I.frame _ _ _ w₅.st fun b hb o e=>hk₆ b o (fun q=>hD.2.2.2.2.2.1 (q▸hb)) e,w₅.rs.mono mono fun _ _ _ n=>n,w₅.fo.heap sz₆,w₅.ver⟩:WalkAt C env sc X X' α₀ σ₀ s₀ us es ds fp St live v0 _ (i+1) α₄ σu _).names back) ?_
   refine⟨vs++[x],by rw[←List.push_toArray];exact hp₆,?_,by rw[List.length_append,List.length_singleton];exact aou a3⟩
   exact(a2.mono mono fun _ _ _ n=>n).append (.cons (R₅.mono mono fun _ _ _ n=>n) .nil)
noncomputable def a8r (C:Cfg) (A:Around) (env:Env) (sc:Scope) (X X':Addr→Prop) (α₀:a7) (σ₀:Sto) (s₀:Shared) (us:List Value) (es ds:List D) (fp:List Addr) (St:Nat→Heap→Prop) (live:Bool) (v0:Nat) (τ:Rho) (D₀:Addr) (turn:D→Sto→Option (Option D×Sto)) (out:List D) (σ':Sto) (n:Nat) (s:Shared):Prop:=
 ∀P:Prop,(∀i acc α σ rest,WalkAt C env sc X X' α₀ σ₀ s₀ us es ds fp St live v0 τ i α σ s→AccAt C X' D₀ i acc α σ s.heap→be turn (ds.drop i) σ=some (rest,σ')→out=acc++rest→n=ds.length-i→P)→P
theorem a8r.elim{P:Prop}{D₀:Addr}{turn:D→Sto→Option (Option D×Sto)}{out:List D}{n:Nat}(h:a8r C A env sc X X' α₀ σ₀ s₀ us es ds fp St live v0 τ D₀ turn out σ' n s)
  (k:∀i acc α σ rest,WalkAt C env sc X X' α₀ σ₀ s₀ us es ds fp St live v0 τ i α σ s→AccAt C X' D₀ i acc α σ s.heap→be turn (ds.drop i) σ=some (rest,σ')→out=acc++rest→n=ds.length-i→P):P:=
 h P k
theorem a9r{D₀:Addr}{iter:Expr}{pos:Pos}(hh:A.handled=none) (W:WalkOk C A env sc X X' s₀ target it us es ds fp wr St) (G:BlkOk C env sc X X' α₀ σ₀ s₀)
  (hD:X' D₀∧s₀.heap.objs.size≤D₀∧¬Own env sc D₀∧D₀≠env.locals∧(∀x,env.cells.lookup x≠some D₀)∧D₀ ∉ fp∧D₀ ∉ wr) (hlen:ds.length≤1000000)
  (hsets:∀y∈bz 4 target,sc.names.lookup y=some .local∨sc.names.lookup y=some .cell) (hτ:∀x v,Rho.get τ x=some v→sc.names.lookup x=some .free)
  (TT:∀ρ e σ b σ',evt ρ e σ=some (b,σ')→uj C A env X' ρ e σ b σ') (T:∀ρ,bu C A env X' ρ (evx ρ))
  (w:WalkAt C env sc X X' α₀ σ₀ s₀ us es ds fp St live v0 τ 0 α σ s) (ac:AccAt C X' D₀ 0 [] α σ s.heap){out:List D}(e:be (oj evt evx target elt ifs τ live v0) ds σ=some (out,σ')){R:Result→Shared→Prop}
  (h:∀α' s',Blk C env sc X X' α₀ σ₀ s₀ τ α' σ' s'→AccAt C X' D₀ 1000001 out α' σ' s'.heap→R (.ok .next) s'):
  codeAny (model C.prog C.w) A (.compLoop (.ListComp elt [⟨target,iter,ifs,0⟩] sc pos) 0 it (.ref D₀) env) R s:=by
 refine a5x (a8r C A env sc X X' α₀ σ₀ s₀ us es ds fp St live v0 τ D₀ (oj evt evx target elt ifs τ live v0) out σ') ?_ (ds.length-0) fun _ k=>k 0 [] α σ out w ac e rfl rfl
 clear e w ac
 intro n s E hI
 refine hI.elim ?_;clear hI;intro i acc α σ rest w ac er hout hn
 cases hd:ds[i]? with
 |none=>
  rw[List.drop_of_length_le (List.getElem?_eq_none_iff.mp hd)] at er
  refine wpAny_mono (a14 W G w hd (Q:=R (.ok .next)) fun h' t hk sz b=>?_) (fun r s' z=>?_) fun _ _ z=>z
  ·revert h hout
   apply du er
   intro h hout
   refine h α _ b ?_
   refine dz ((ac.keep (h':=h') (fun o e=>hk _ o hD.2.2.2.2.2.2 e) (fun c o nb e=>hk c o (fun y=>nb (.inl (W.wr c y).1)) e) fun _ _ _ n=>n).ex) fun vs a1 a2 a3=>?_
   exact⟨vs,a1,by rw[hout,List.append_nil];exact a2,Nat.le_trans a3 (Nat.le_trans w.le (Nat.le_succ_of_le hlen))⟩
  ·cases r with
   |none=>exact z
   |some v=>exact z.elim
 |some d=>
  have lt:i<ds.length:=(List.getElem?_eq_some_iff.mp hd).1
  have hdrop:ds.drop i=d::ds.drop (i+1):=by
   rw[List.drop_eq_getElem_cons lt,(List.getElem?_eq_some_iff.mp hd).2]
  rw[hdrop] at er
  refine ag er ?_;clear er;intro o σ₁ e1 er
  refine nt er ?_;clear er;intro rest' σ₂ e2 er
  refine wpAny_mono (aau (E:=E) hh W G hD hlen hsets hτ TT T w ac hd e1 (Q:=fun s=>∃m,m<n∧a8r C A env sc X X' α₀ σ₀ s₀ us es ds fp St live v0 τ D₀ (oj evt evx target elt ifs τ live v0) out σ' m s) fun α' s' w' ac'=>?_) (fun r s' z=>?_) fun _ _ z=>z
  ·replace e2:be (oj evt evx target elt ifs τ live v0) (List.drop (i+1) ds) σ₁=some (rest',σ'):=by
    have q:σ₂=σ':=(Prod.mk.inj er).2
    exact q▸e2
   refine⟨ds.length-(i+1),by clear hd hdrop e1 e2 er;exact anf hn lt,fun _ k=>k (i+1) _ α' σ₁ rest' w' ac' e2 ?_ rfl⟩
   rw[hout,←(Prod.mk.inj er).1,List.append_assoc]
   cases o<;>rfl
  ·cases r with
   |none=>exact z.elim
   |some v=>exact z
end
section
variable{C:Cfg}{A:Around}{env:Env}{X:Addr→Prop}{ρ:Rho}{sc csc:Scope}{σ σ' σ₁:Sto}{target elt iter:Expr}{ifs:List Expr}{ds out:List D}{live:Bool}
 {evt:Rho→Expr→Sto→Option (Bool×Sto)}{evx:Rho→Expr→Sto→Option (V×Sto)}
theorem a1a{e:Expr}(h:∀xs k p,e≠.Set xs k p)(env:Env)(x:Value):foldedSetIterable e env x=pure x:=by
 unfold foldedSetIterable
 cases e<;>first|rfl|exact absurd rfl (h _ _ _)
theorem a1d {pos p:Pos} (hh:A.handled=none) (K:EnvOk C env sc X) (hc:js sc csc target=true) (hset:∀xs k p,iter≠.Set xs k p) (Sr:kz C A env X ρ target iter σ ds live σ₁) (hlen:fe ds.length=true)
  (TT:∀env' X',EnvOk C env' csc X'→∀ρ e σ b σ',evt ρ e σ=some (b,σ')→uj C A env' X' ρ e σ b σ') (T:∀env' X',EnvOk C env' csc X'→∀ρ,bu C A env' X' ρ (evx ρ))
  (e:be (oj evt evx target elt ifs (r5 csc ρ) live σ₁.ver) ds σ₁=some (out,σ')) {use:Option (Value→Sem Unit)} {E:Value→Shared→Prop} {Q:Value→Shared→Prop} {s:Shared} {α:a7} (r:SRel C X α σ s.heap) (er:b0 C env ρ X α σ s.heap)
  (h:∀D₀ L α' s' X',(∀a,X a→X' a)→X' L→X' D₀→s.heap.objs.size≤D₀→s.heap.objs.size≤L→D₀≠L→Step C X α σ s α' σ' s'→SRel C X' α' σ' s'.heap→(∃m,s'.heap.Ns L m)→AccAt C X' D₀ 1000001 out α' σ' s'.heap→
   compPost (model C.prog C.w) A E use Q (.ref D₀) L (.ok .next) s'):
  wpAny (model C.prog C.w) A (comprehension (.ListComp elt [⟨target,iter,ifs,0⟩] csc pos) csc env p (newList []) false (eval iter env) use) Q E s:=by
 obtain ⟨c1,c2,c3,c4,c5,_⟩:=zo hc
 refine wpAny_comprehension_free (g:=⟨target,iter,ifs,0⟩) (gs:=[]) (cl:=fz env.cells csc.names []) rfl (a1a hset env) (a7e fun x hx hk=>?_) c1 (fun x hx hk=>(c4 x.1 x.2 hx).2.1 hk) ?_
 ·exact K.cells x.1 ((c4 x.1 x.2 hx).2.2 hk).1
 refine Sr E _ s α r er fun it α₁ s₁ us es fp wr St S₁ I st rwr fo hw0=>?_
 refine bk rwr ?_;clear rwr;intro rw_ rus
 have hw:=hw0.1
 refine wpAny_newObj_type (a55 ?_) (by refine (?_:([]:List Value).toArray.size≤sizeLine);simp)
 dsimp only
 generalize hh2:s₁.heap.push {cls:=.type "list",dict:=none,data:=.seq ([]:List Value).toArray,slots:=#[]}=h₂
 have e2:h₂.objs.size=s₁.heap.objs.size+1:=by rw [←hh2];exact Heap.size_push ..
 have lt2:s₁.heap.objs.size<h₂.objs.size:=by rw [e2];exact Nat.lt_succ_self _
 have k2:∀a o,s₁.heap.get? a=some o→h₂.get? a=some o:=fun a o e=>by rw [←hh2];exact Heap.get?_push_of_some _ e
 generalize hh3:pushCells (h₂.push {cls:=.type "dict",data:=.dict #[]}) csc.names=h₃
 have k3:∀a o,h₂.get? a=some o→h₃.get? a=some o:=fun a o e=>by rw [←hh3];exact pushCells_keeps _ _ _ _ (Heap.get?_push_of_some _ e)
 have s3:h₂.objs.size<h₃.objs.size:=by rw [←hh3];exact Nat.lt_of_lt_of_le (eg _ _) (gh _ _)
 have k13:∀a o,s₁.heap.get? a=some o→h₃.get? a=some o:=fun a o e=>k3 a o (k2 a o e)
 have s13:s₁.heap.objs.size≤h₃.objs.size:=Nat.le_of_lt (Nat.lt_trans lt2 s3)
 have hX1:∀a,X a→a<s.heap.objs.size:=r.xLt
 have hlt:∀a,X a→a<s₁.heap.objs.size:=fun a x=>Nat.lt_of_lt_of_le (hX1 a x) S₁.grow
 let X':Addr→Prop:=fun a=>(X a∨a∈wr)∨(s₁.heap.objs.size≤a∧a<h₃.objs.size)
 have up:∀a,X a→X' a:=fun a x=>.inl (.inl x)
 obtain ⟨K',at',own',free',cells'⟩:=adu (csc:=csc) (target:=target) K hc (h:=h₂) (X':=X') (fun a x=>Nat.lt_trans (hlt a x) lt2) up (fun a h1 h2=>.inr ⟨Nat.le_of_lt (Nat.lt_of_lt_of_le lt2 h1),by rw [←hh3];exact h2⟩) r.xP
 rw [hh3] at at'
 have r₃:SRel C X' α₁ σ₁ h₃:=rw_.widen k13 s13 (fun _=>.inl) fun a x=>x
 have S₃:Step C X α σ s α₁ σ₁ {s₁ with heap:=h₃}:=S₁.trans (Step.keepAll S₁.srel k13 s13 s₁.toks)
 have G:BlkOk C (d4 csc env h₂.objs.size) csc X X' α σ s:=⟨r,K',up,fun a o=>Nat.le_trans S₁.grow (Nat.le_trans (Nat.le_of_lt lt2) (own' a o))⟩
 have b₃:Blk C (d4 csc env h₂.objs.size) csc X X' α σ s (r5 csc ρ) α₁ σ₁ {s₁ with heap:=h₃}:=by
  refine ⟨S₃,r₃,fun x v hx=>?_,at'⟩
  refine bk (a4o hx) ?_;intro hf hg
  refine ar (er x v hg) ?_;intro u h1 h2
  have hsc:=((c4 x _ (mem_of_lookup hf)).2.2 rfl).1
  have hk:env.kindOf x=some .cell∨env.kindOf x=some .free:=hsc.elim (fun q=>.inl (K.cel x q)) (K.fre x)
  refine ⟨u,?_,?_⟩
  ·rcases h1 with ⟨q,_⟩|⟨_,c,h3,o,ho,hd⟩
   ·rw [q] at hk;rcases hk with hk|hk<;>cases hk
   ·refine .inr ⟨K'.fre x hf,c,(free' x hf).trans h3,o,k13 c o (S₁.keep c o (dp r (K.xC x c h3)) (K.nP.2 x c h3) ho),hd⟩
  ·refine h2.mono (fun b o nb e=>k13 b o (S₁.kept r b o nb e)) (fun b o e nb m=>?_) S₁.alpha
   have hb:=Heap.lt_size e
   rcases m with ((m|m)|m)|m
   ·exact nb (.inl m)
   ·exact absurd hb (Nat.not_lt.mpr (hw b m).1)
   ·exact absurd (Nat.lt_of_lt_of_le hb S₁.grow) (Nat.not_lt.mpr m.1)
   ·exact (S₁.muts b m).elim (fun m=>nb (.inr m)) fun q=>absurd hb (Nat.not_lt.mpr q)
 have fpl:∀b∈fp,b<s₁.heap.objs.size:=fun b hb=>(fo b hb).1
 have W:WalkOk C A (d4 csc env h₂.objs.size) csc X X' s target it us es ds fp wr St:=by
  refine ⟨I,fun b hb=>⟨.inl (.inr hb),(hw b hb).1,Nat.ne_of_lt (Nat.lt_trans (fpl b (hw b hb).2) lt2),fun x q=>?_⟩,fun b hb o=>?_⟩
  ·rcases cells' x b q with q|q
   ·exact absurd (Nat.lt_trans (fpl b (hw b hb).2) lt2) (Nat.not_lt.mpr (Nat.le_of_lt q))
   ·exact absurd (hX1 b (K.xC x b q)) (Nat.not_lt.mpr (hw b hb).1)
  ·exact absurd (Nat.lt_trans (fpl b hb) lt2) (Nat.not_lt.mpr (own' b o))
 have w₃:WalkAt C (d4 csc env h₂.objs.size) csc X X' α σ s us es ds fp St live σ₁.ver (r5 csc ρ) 0 α₁ σ₁ {s₁ with heap:=h₃}:=
  ⟨b₃,Nat.zero_le _,I.frame 0 _ _ st fun b hb o e=>k13 b o e,rus.mono (fun b o _ e=>k13 b o e) (fun b o e nb m=>nb (by
   rcases m with (m|m)|m
   ·exact .inl m
   ·exact absurd (Heap.lt_size e) (Nat.not_lt.mpr m.1)
   ·exact .inr m)),fo.heap s13,fun _=>rfl⟩
 have hDp:h₃.PlainList s₁.heap.objs.size ([]:List Value).toArray:=⟨0,k3 _ _ (by rw [←hh2];exact Heap.get?_push_size _ rfl)⟩
 have ac₃:AccAt C X' s₁.heap.objs.size 0 [] α₁ σ₁ h₃:=⟨[],hDp,.nil,Nat.le_refl _⟩
 have hD:X' s₁.heap.objs.size∧s.heap.objs.size≤s₁.heap.objs.size∧¬Own (d4 csc env h₂.objs.size) csc s₁.heap.objs.size∧s₁.heap.objs.size≠(d4 csc env h₂.objs.size).locals∧(∀x,(d4 csc env h₂.objs.size).cells.lookup x≠some s₁.heap.objs.size)∧s₁.heap.objs.size ∉ fp∧s₁.heap.objs.size ∉ wr:=by
  refine ⟨.inr ⟨Nat.le_refl _,Nat.lt_trans lt2 s3⟩,S₁.grow,fun o=>absurd lt2 (Nat.not_lt.mpr (own' _ o)),Nat.ne_of_lt lt2,fun x q=>?_,fun q=>absurd (fpl _ q) (Nat.lt_irrefl _),fun q=>absurd (fpl _ (hw _ q).2) (Nat.lt_irrefl _)⟩
  rcases cells' x _ q with q|q
  ·exact absurd lt2 (Nat.not_lt.mpr (Nat.le_of_lt q))
  ·exact absurd (hlt _ (K.xC x _ q)) (Nat.lt_irrefl _)
 have LX:X' h₂.objs.size:=.inr ⟨Nat.le_of_lt lt2,s3⟩
 have loop:∀s₄:Shared,s₄={s₁ with heap:=h₃}→codeAny (model C.prog C.w) A (.compLoop (.ListComp elt [⟨target,iter,ifs,0⟩] csc pos) 0 it (.ref s₁.heap.objs.size) (d4 csc env h₂.objs.size)) (compPost (model C.prog C.w) A E use Q (.ref s₁.heap.objs.size) h₂.objs.size) s₄:=by
  rintro s₄ rfl
  refine a9r (τ:=r5 csc ρ) hh W G hD (pn hlen) c5 (fun x v hx=>(a4o hx).1) (TT _ _ K') (T _ _ K') w₃ ac₃ e fun α' s' b ac=>?_
  exact h s₁.heap.objs.size h₂.objs.size α' s' X' up LX hD.1 hD.2.1 (Nat.le_trans S₁.grow (Nat.le_of_lt lt2)) (Nat.ne_of_lt lt2) b.step b.srel b.at_.1 ac
 exact codeAny_compStart_list (loop _ rfl) (I.self 0 {s₁ with heap:=h₃} _ _ w₃.st (loop _ rfl))
theorem a31{pos:Pos}(hh:A.handled=none) (K:EnvOk C env sc X) (hc:js sc csc target=true) (hset:∀xs k p,iter≠.Set xs k p) (Sr:kz C A env X ρ target iter σ ds live σ₁) (hlen:fe ds.length=true)
  (TT:∀env' X',EnvOk C env' csc X'→∀ρ e σ b σ',evt ρ e σ=some (b,σ')→uj C A env' X' ρ e σ b σ') (T:∀env' X',EnvOk C env' csc X'→∀ρ,bu C A env' X' ρ (evx ρ))
  (e:be (oj evt evx target elt ifs (r5 csc ρ) live σ₁.ver) ds σ₁=some (out,σ')):Snd C A env X ρ (.ListComp elt [⟨target,iter,ifs,0⟩] csc pos) σ (.d (.list out)) σ':=by
 intro E Q s α r er h
 refine (?_:wpAny _ A (comprehension (.ListComp elt [⟨target,iter,ifs,0⟩] csc pos) csc env (firstIterPos [⟨target,iter,ifs,0⟩] pos) (newList []) false (eval iter env)) Q E s)
 refine a1d hh K hc hset Sr hlen TT T e r er fun D₀ L α' s' X' up xL xD nD nL ne S r' nsL ac=>?_
 refine ex1 nsL ?_;clear nsL;intro m hm
 refine⟨m,hm,fun h' sb=>?_⟩
 refine bk (Step.poke (Y:=fun a=>a=L) r up S r' (fun a ha=>⟨ha▸xL,ha▸nL⟩) (fun a o n e=>(sb.2 a n).trans e) (Nat.le_of_eq sb.1.symm) s'.toks) ?_;intro S' r''
 refine dz ac.ex ?_;intro vs pq1 a2 a3;obtain⟨k,a1⟩:=pq1
 have a1':h'.PlainList D₀ vs.toArray:=⟨k,(sb.2 D₀ ne).trans a1⟩
 have a2':RepDs C h' (Bad X' σ' α') vs out:=a2.mono (fun b o nb e=>(sb.2 b fun q=>nb (.inl (q▸xL))).trans e) fun _ _ _ n=>n
 have nbD:¬Bad X σ' α' D₀:=fun q=>q.elim (fun q=>absurd (r.xLt _ q) (Nat.not_lt.mpr nD)) (dp (s:={s' with heap:=h'}) r'' xD)
 refine h _ α' _ S' (.d (.list a1' nbD a3 (a2'.mono (fun _ _ _ e=>e) fun b o _ nb m=>nb (m.imp (up b) id)))) fun _ xs q=>?_
 cases q
 refine⟨D₀,vs,rfl,nD,a1',a3,a2'.mono (fun _ _ _ e=>e) fun b o _ nb m=>nb ?_,r''.narrow (fun a x=>x.elim (up a) fun q=>q▸xD) (.inl r.xP)⟩
 rcases m with (m|m)|m
 ·exact .inl (up b m)
 ·exact .inr m
 ·exact .inl (m▸xD)
end
structure RunOk (C:Cfg) (A:Around) (Φ:Fx):Prop where
 O:Ok C
 hh:A.handled=none
 hu:A.units+64<cLine
 hfree:∀f,e7.contains f=true→C.mg f=none
 F:FxOk C A Φ
 hbig:sysModules<C.base.objs.size
 sorted:∀(env:Env) (sc:Scope) (X:Addr→Prop) (ρ:Rho) (ev:Expr→Sto→Option (V×Sto)) (fp:Pos) (args:List Expr) (kw:Keyword) (p:Pos) (target:Expr) (σ σ':Sto),EnvOk C env sc X→bu C A env X ρ ev→di ev→sc.names.lookup ("sorted":Str)=some .globalImplicit→a98 kw=true→
  fj ev args σ=some ([.d (.list [])],σ')→kz C A env X ρ target (.Call (.Name "sorted" fp) args [kw] p) σ [] false σ'
section
variable{C:Cfg}{A:Around}{Φ:Fx}
theorem abu (n:Nat)(sc:Scope)(ρ:Rho):di (evE Φ n sc ρ):=by
 refine⟨fun x p σ=>?_,fun xs k p σ=>?_,fun l u t p σ=>?_⟩<;>cases n<;>rfl
theorem a2i{f:Str}(h:bw.contains f=true):e7.contains f=true:=by
 simp only[bw,o7,List.map_cons,List.map_nil,List.contains_cons,List.contains_nil,Bool.or_false,Bool.or_eq_true,beq_iff_eq]at h
 rcases h with rfl|rfl|rfl|rfl|rfl|rfl|rfl|rfl<;>decide+kernel
noncomputable def a59 (C:Cfg)(A:Around)(Φ:Fx)(n:Nat):Prop:=∀(env:Env)(sc:Scope)(X:Addr→Prop)(ρ:Rho)(target e:Expr)(σ:Sto)(ds:List D)(live:Bool)(σ':Sto),EnvOk C env sc X→n7 target e=true→gf Φ n sc ρ e σ=some ((ds,live),σ')→kz C A env X ρ target e σ ds live σ'
structure AllOk (C:Cfg) (A:Around) (Φ:Fx) (n:Nat):Prop where
 e:∀(env:Env) (sc:Scope) (X:Addr→Prop) (ρ:Rho),EnvOk C env sc X→bu C A env X ρ (evE Φ n sc ρ)
 b:∀(env:Env) (sc:Scope) (X:Addr→Prop) (ρ:Rho),EnvOk C env sc X→yr C A env X ρ (evE Φ n sc ρ)
 t:∀(env:Env) (sc:Scope) (X:Addr→Prop) (ρ:Rho),EnvOk C env sc X→∀e σ b σ',evT Φ n sc ρ e σ=some (b,σ')→uj C A env X ρ e σ b σ'
 m:∀(env:Env) (sc:Scope) (X:Addr→Prop) (ρ:Rho),EnvOk C env sc X→∀e σ V σ',evM Φ n sc ρ e σ=some (V,σ')→x7 C A env X ρ false (eval e env) σ V σ'
 s:a59 C A Φ n
theorem aiv{β:Type}{P:Prop}{x:Option NameKind}{a:Option β}{r:β}(e:(match x with|some .globalImplicit=>a|_=>none)=some r)(k:x=some .globalImplicit→a=some r→P):P:=by
 cases x with
 |none=>exact no e
 |some x=>cases x with
  |globalImplicit=>exact k rfl e
  |_=>exact no e
theorem a4b{ρ:Rho}{sc:Scope}{σ σ':Sto}{P:Prop}{n:Nat}{elt:Expr}{gens:List Comprehension}{csc:Scope}{p:Pos}{W:V}(e:evE Φ n sc ρ (.ListComp elt gens csc p) σ=some (W,σ'))
  (k:∀m target iter ifs ds live σ₁ out,n=m+1→gens=[⟨target,iter,ifs,0⟩]→js sc csc target=true→n7 target iter=true→
  gf Φ m sc ρ iter σ=some ((ds,live),σ₁)→fe ds.length=true→be (oj (fun ρ=>evT Φ m csc ρ) (fun ρ=>evE Φ m csc ρ) target elt ifs (r5 csc ρ) live σ₁.ver) ds σ₁=some (out,σ')→W=.d (.list out)→P):P:=by
 cases n with
 |zero=>exact no e
 |succ n=>
  rcases gens with _|⟨⟨target,iter,ifs,i⟩,_|⟨g2,gs⟩⟩
  ·exact no e
  ·by_cases hk:i=0
   ·subst hk
    refine ai e (fun _ e=>no e) fun hc e=>?_
    have hc':=nn2 hc
    refine ag7 e fun ds live σ₁ e1 e=>ai e (fun _ e=>no e) fun hr e=>nt e fun out σ₂ e2 e=>?_
    cases e
    exact k n target iter ifs ds live σ₁ out rfl rfl hc'.1 hc'.2 e1 (nn hr) e2 rfl
   ·rcases i with(_|i)|i
    ·exact absurd rfl hk
    ·exact no e
    ·exact no e
  ·rcases i with(_|i)|i<;>exact no e
theorem afw (R:RunOk C A Φ) (n:Nat) (ih:AllOk C A Φ n) (env:Env) (sc:Scope) (X:Addr→Prop) (ρ:Rho) (K:EnvOk C env sc X):bu C A env X ρ (evE Φ (n+1) sc ρ):=by
 intro x σ W σ' e
 have T:=ih.e env sc X ρ K
 have N:=abu (Φ:=Φ) n sc ρ
 cases x with
 |Constant c k p=>exact a3k e
 |Name y p=>exact adg R.O K e
 |Attribute o a p=>exact ai e (fun _ e=>no e) fun hb e=>a0g R.O K T (nn hb) e
 |BinOp l op r p=>exact aat K T e
 |UnaryOp op y p=>
  cases op with
  |Not=>exact afg K T e
  |USub=>exact af4 K T e
  |_=>exact no e
 |BoolOp op vs p=>exact zt K T vs σ W σ' e
 |Compare l ops rs p=>exact a45 R.hu K T e
 |IfExp t b o p=>exact aap K T (ih.t env sc X ρ K) e
 |Tuple es k p=>exact a9e K T N e
 |List es p=>exact aci K T N e
 |Dict ks vs p=>exact adv R.O K R.hbig (fun X' up=>ih.e env sc X' ρ (K.widen up)) (fun X' up=>ih.m env sc X' ρ (K.widen up)) e
 |Subscript o i p=>
  by_cases hs:∃l u st q,i=.Slice l u st q
  ·obtain⟨l,u,st,q,rfl⟩:=hs
   exact aa7 K T e
  ·have e':((evE Φ n sc ρ o σ).bind fun p=>(evE Φ n sc ρ i p.2).bind fun q=>(bx q.2 p.1 q.1).map fun v=>(v,q.2))=some (W,σ'):=by
    cases i<;>first|exact e|exact absurd ⟨_,_,_,_,rfl⟩ hs
   have hf:gx (.Subscript o i p)=false:=by cases i<;>first|rfl|exact absurd ⟨_,_,_,_,rfl⟩ hs
   unfold Snd
   rw[hf]
   exact a0n R.hu K T N e'
 |ListComp elt gens csc p=>
  refine a4b e fun m target iter ifs ds live σ₁ out hn hg hc ht e1 hr e2 hW=>?_
  cases hn
  subst hg;subst hW
  exact a31 (evt:=fun ρ=>evT Φ n csc ρ) (evx:=fun ρ=>evE Φ n csc ρ) R.hh K hc (fun xs k q h=>by rw[h]at ht;cases ht) (ih.s env sc X ρ target iter σ ds live σ₁ K ht e1) hr
      (fun env' X' K' ρ'=>ih.t env' csc X' ρ' K') (fun env' X' K' ρ'=>ih.e env' csc X' ρ' K') e2
 |Call f args kws p=>
  cases f with
  |Name g fp=>
   refine aiv e fun hg e=>?_
   cases kws with
   |cons _ _=>exact no e
   |nil=>
    refine ai e (fun _ e=>a3r R.O K R.F T N hg e) fun _ e=>?_
    refine ai e (fun _ e=>a5r R.O K R.F T N hg e) fun _ e=>?_
    exact ai e (fun hb e=>wy R.O R.hh (fun f h=>R.hfree f (a2i h)) K T N hg hb e) fun _ e=>no e
  |Attribute o m ap=>
   cases kws with
   |cons _ _=>exact no e
   |nil=>
    refine ai e (fun _ e=>no e) fun hb e=>?_
    have hb':=tt (nn hb)
    have hb2:=tt hb'.1
    have hb3:=of_decide_eq_true hb'.2
    refine ag e fun V₁ σ₁ e1 e=>ag e fun Vs σ₂ e2 e=>?_
    cases hi:m8 σ₁ m V₁ with
    |some c=>
     rw[hi]at e
     exact ai e (fun he e=>a4j R.O K R.F T N hb2.1 hb2.2 hb3 e1 e2 hi e) fun he e=>a3p R.O K R.F T N hb2.1 hb2.2 hb3 e1 e2 hi e
    |none=>
     rw[hi]at e
     exact ai e (fun ht e=>a40 K T N hb2.1 hb2.2 hb3 e1 e2 (eq_of_beq ht) e) fun _ e=>no e
  |_=>exact no e
 |_=>exact no e
theorem anz (R:RunOk C A Φ) (n:Nat) (ih:AllOk C A Φ n) (env:Env) (sc:Scope) (X:Addr→Prop) (ρ:Rho) (K:EnvOk C env sc X):yr C A env X ρ (evE Φ (n+1) sc ρ):=by
 intro x σ c σ' e
 have full:=afw R n ih env sc X ρ K x σ _ σ' e
 have T:=ih.e env sc X ρ K
 have TT:=ih.b env sc X ρ K
 cases x with
 |UnaryOp op y p=>
  cases op with
  |Not=>exact acu TT e
  |_=>exact zz K full rfl
 |BoolOp op vs p=>exact vy K TT vs σ c σ' e
 |Compare l ops rs p=>exact a3t R.hu K T e
 |IfExp t b o p=>exact a7o K TT (ih.t env sc X ρ K) e
 |_=>exact zz K full rfl
theorem ahc{β:Type}{P:Prop}{x:List V}{a:Option β}{r:β}(e:(match x with|[.d (.list [])]=>a|_=>none)=some r)(k:x=[.d (.list [])]→a=some r→P):P:=by
 cases x with
 |nil=>exact no e
 |cons v t=>cases v with
  |m=>exact no e
  |d x=>cases x with
   |list l=>cases l with
    |nil=>cases t with
     |nil=>exact k rfl e
     |cons=>exact no e
    |cons=>exact no e
   |_=>exact no e
theorem an8 (R:RunOk C A Φ) (n:Nat) (ih:AllOk C A Φ n):a59 C A Φ (n+1):=by
 intro env sc X ρ target x σ ds live σ' K ht e
 have T:=ih.e env sc X ρ K
 have N:=abu (Φ:=Φ) n sc ρ
 have other:((evE Φ n sc ρ x σ).bind fun p=>a04 p.2 p.1)=some ((ds,live),σ')→kz C A env X ρ target x σ ds live σ':=fun e=>a7k R.hh K T e
 cases x with
 |Call f args kws p=>
  cases f with
  |Name g fp=>
   rcases kws with _|⟨kw,_|⟨kw2,kws⟩⟩
   ·refine ai e (fun hg e=>?_) fun _ e=>ai e (fun hg e=>?_) fun _ e=>ai e (fun hg e=>?_) fun _ e=>ai e (fun _ e=>no e) fun _ e=>other e
    ·refine ai e (fun hs e'=>?_) fun _ e=>no e
     cases eq_of_beq hg
     exact a3a R.O R.hh R.hfree K T N (eq_of_beq hs) e'
    ·refine ai e (fun hs e'=>?_) fun _ e=>no e
     cases eq_of_beq hg
     cases target<;>first|exact a4i R.O R.hh R.hfree K T N (eq_of_beq hs) e'|exact absurd ht Bool.false_ne_true
    ·refine ai e (fun hs e'=>?_) fun _ e=>no e
     cases eq_of_beq hg
     cases target<;>first|exact a7i R.O R.hh R.hfree K T N (eq_of_beq hs) e'|exact absurd ht Bool.false_ne_true
   ·refine ai e (fun hg e'=>?_) fun _ e=>no e
    have h2:=tt hg
    have h3:=tt h2.1
    cases eq_of_beq h3.1
    refine ag e' fun Vs σ₁ e1 e3=>?_
    refine ahc e3 fun e2 e4=>?_
    cases e2
    (apply a61 e4;clear e4)
    exact R.sorted env sc X ρ _ fp args kw p target σ σ₁ K T N (eq_of_beq h3.2) h2.2 e1
   ·exact other e
  |_=>exact other e
 |_=>exact other e
theorem gl (R:RunOk C A Φ):∀n,AllOk C A Φ n
 |0=>by
  constructor
  ·intro env sc X ρ K x σ W σ' e;exact no e
  ·intro env sc X ρ K x σ W σ' e;exact no e
  ·intro env sc X ρ K x σ W σ' e;exact no e
  ·intro env sc X ρ K x σ W σ' e;exact no e
  ·intro env sc X ρ t x σ ds live σ' K ht e;exact no e
 |n+1=>by
  have ih:=gl R n
  constructor
  ·exact afw R n ih
  ·exact anz R n ih
  ·intro env sc X ρ K x σ c σ' e
   refine ag e ?_;clear e;intro V₁ σ₁ e1 e
   refine vbE e fun b hb e=>?_
   subst hb;cases e;exact ih.b env sc X ρ K x σ c _ e1
  ·intro env sc X ρ K x σ W σ' e
   exact ani (ih.e env sc X ρ K) e
  ·exact an8 R n ih
end
noncomputable def u6(C:Cfg)(B:Addr→Prop)(α:a7)(h:Heap):Flow→Fl→Prop
 |.next,.next=>True
 |.brk,.brk=>True
 |.cont,.cont=>True
 |.ret u,.ret v=>RepV C h B α u v
 |_,_=>False
theorem flE{C:Cfg}{B:Addr→Prop}{α:a7}{h:Heap}{P:Flow→Fl→Prop}{f:Flow}{x:Fl}(r:u6 C B α h f x) (k1:P .next .next) (k2:P .brk .brk) (k3:P .cont .cont) (k4:∀u v,RepV C h B α u v→P (.ret u) (.ret v)):P f x:=by
 cases f with
 |next=>cases x with
  |next=>exact k1
  |_=>exact r.elim
 |brk=>cases x with
  |brk=>exact k2
  |_=>exact r.elim
 |cont=>cases x with
  |cont=>exact k3
  |_=>exact r.elim
 |ret u=>cases x with
  |ret v=>exact k4 u v r
  |_=>exact r.elim
structure BStep(C:Cfg)(env:Env)(sc:Scope)(α:a7)(σ:Sto)(s:Shared)(α':a7)(σ':Sto)(s':Shared):Prop where
 keep:∀a o,¬Mut σ α a→a≠C.P→¬Own env sc a→s.heap.get? a=some o→s'.heap.get? a=some o
 muts:∀a,Mut σ' α' a→Mut σ α a∨s.heap.objs.size≤a
 grow:s.heap.objs.size≤s'.heap.objs.size
 ext:∃β,α'=α++β
section
variable{C:Cfg}{A:Around}{Φ:Fx}{env:Env}{X X':Addr→Prop}{sc:Scope}{ρ ρ':Rho}{σ σ' σ'' σ₀:Sto}{α α' α'' α₀:a7}{s s' s'' s₀:Shared}
theorem BStep.refl:BStep C env sc α σ s α σ s:=⟨fun _ _ _ _ _ e=>e,fun _=>.inl,Nat.le_refl _,⟨[],by simp⟩⟩
theorem BStep.of(S:Step C X' α σ s α' σ' s'):BStep C env sc α σ s α' σ' s':=⟨fun a o h1 h2 _ e=>S.keep a o h1 h2 e,S.muts,S.grow,S.ext⟩
theorem BStep.own {h':Heap}{t:Nat}(hk:∀a o,¬Own env sc a→s.heap.get? a=some o→h'.get? a=some o)(hs:s.heap.objs.size≤h'.objs.size):BStep C env sc α σ s α σ {s with heap:=h',toks:=t}:=
 ⟨fun a o _ _ n e=>hk a o n e,fun _=>.inl,hs,⟨[],by simp⟩⟩
theorem BStep.trans (a:BStep C env sc α σ s α' σ' s') (b:BStep C env sc α' σ' s' α'' σ'' s''):BStep C env sc α σ s α'' σ'' s'':=by
 refine ex1 a.ext ?_;intro β rf1;subst rf1
 refine ex1 b.ext ?_;intro γ rf1;subst rf1
 refine⟨fun x o nm np no e=>b.keep x o (fun m=>?_) np no (a.keep x o nm np no e),fun x m=>?_,Nat.le_trans a.grow b.grow,⟨β++γ,List.append_assoc ..⟩⟩
 ·rcases a.muts x m with m|m
  ·exact nm m
  ·exact absurd (Heap.lt_size e) (Nat.not_lt.mpr m)
 ·rcases b.muts x m with m|m
  ·exact a.muts x m
  ·exact .inr (Nat.le_trans a.grow m)
theorem BStep.repDs (G:BlkOk C env sc X X' α₀ σ₀ s₀) (b:BStep C env sc α σ s α' σ' s'){vs:List Value}{ds:List D}(r:RepDs C s.heap (Bad X' σ α) vs ds) (hP:X' C.P):RepDs C s'.heap (Bad X' σ' α') vs ds:=
 r.mono (fun c o nb e=>b.keep c o (fun m=>nb (.inr m)) (fun q=>nb (.inl (q▸hP))) (fun o=>nb (.inl (t6 G.K o))) e) fun c o e nb m=>m.elim (fun m=>nb (.inl m)) fun m=>(b.muts c m).elim (fun m=>nb (.inr m)) fun q=>absurd (Heap.lt_size e) (Nat.not_lt.mpr q)
theorem BStep.repV (G:BlkOk C env sc X X' α₀ σ₀ s₀) (b:BStep C env sc α σ s α' σ' s'){u:Value}{v:V}(r:RepV C s.heap (Bad X' σ α) α u v) (hP:X' C.P):RepV C s'.heap (Bad X' σ' α') α' u v:=
 r.mono (fun c o nb e=>b.keep c o (fun m=>nb (.inr m)) (fun q=>nb (.inl (q▸hP))) (fun o=>nb (.inl (t6 G.K o))) e) (fun c o e nb m=>m.elim (fun m=>nb (.inl m)) fun m=>(b.muts c m).elim (fun m=>nb (.inr m)) fun q=>absurd (Heap.lt_size e) (Nat.not_lt.mpr q))
  fun i p e=>by(refine ex1 b.ext ?_;intro β rf1;subst rf1);rw[List.getElem?_append_left (List.getElem?_eq_some_iff.mp e).1];exact e
section
variable(C:Cfg)(A:Around)(env:Env)(sc:Scope)(X:Addr→Prop)(α₀:a7)(σ₀:Sto)(s₀:Shared)
noncomputable def o6 (m:Sem Flow) (t:St) (fl:Fl) (t':St):Prop:=∀(X':Addr→Prop) (α:a7) (s:Shared) (E:Value→Shared→Prop) (Q:Flow→Shared→Prop),BlkOk C env sc X X' α₀ σ₀ s₀→Blk C env sc X X' α₀ σ₀ s₀ t.ρ α t.σ s→j6 sc t.ρ→
 (∀α' f s',Blk C env sc X X' α₀ σ₀ s₀ t'.ρ α' t'.σ s'→BStep C env sc α t.σ s α' t'.σ s'→j6 sc t'.ρ→u6 C (Bad X' t'.σ α') α' s'.heap f fl→Q f s')→wpAny (model C.prog C.w) A m Q E s
end
theorem a3m{f:Stmt→St→Option (Fl×St)}(hf:∀st t fl t',f st t=some (fl,t')→o6 C A env sc X α₀ σ₀ s₀ (exec st env) t fl t'):∀(b:List Stmt) (t:St) (fl:Fl) (t':St),cc f b t=some (fl,t')→o6 C A env sc X α₀ σ₀ s₀ (execs b env) t fl t'
 |[],t,fl,t',e=>by
  apply du e
  exact fun X' α s E Q G b hs h=>wpAny_pure (h α .next s b .refl hs trivial)
 |st::rest,t,fl,t',e=>by
  intro X' α s E Q G b hs h
  refine ag e ?_;clear e;intro x t₁ e1 e
  refine wpAny_bind (hf st t x t₁ e1 X' α s E _ G b hs fun α₁ f s₁ b₁ B₁ hs₁ hfl=>?_)
  have out:∀f x,u6 C (Bad X' t₁.σ α₁) α₁ s₁.heap f x→some (x,t₁)=some (fl,t')→wpAny (model C.prog C.w) A (pure f) Q E s₁:=fun f x hf e=>by
   revert h
   apply du e
   exact fun h=>wpAny_pure (h α₁ _ s₁ b₁ B₁ hs₁ hf)
  revert e
  apply flE hfl
  ·exact fun e=>a3m hf rest t₁ fl t' e X' α₁ s₁ E Q G b₁ hs₁ fun α₂ f s₂ b₂ B₂ hs₂ hfl₂=>h α₂ f s₂ b₂ (B₁.trans B₂) hs₂ hfl₂
  ·exact out .brk .brk trivial
  ·exact out .cont .cont trivial
  ·exact fun u v r=>out (.ret u) (.ret v) r
theorem agx (R:RunOk C A Φ){k:Nat}{body orelse:List Stmt}{test:Expr}{p:Pos}{t t':St}{fl:Fl}{fb fo:St→Option (Fl×St)}(hb:∀t fl t',fb t=some (fl,t')→o6 C A env sc X α₀ σ₀ s₀ (execs body env) t fl t') (ho:∀t fl t',fo t=some (fl,t')→o6 C A env sc X α₀ σ₀ s₀ (execs orelse env) t fl t')
  (e:((evT Φ k sc t.ρ test t.σ).bind fun p=>if p.1 then fb ⟨t.ρ,p.2⟩else fo ⟨t.ρ,p.2⟩)=some (fl,t')):o6 C A env sc X α₀ σ₀ s₀ (exec (.If test body orelse p) env) t fl t':=by
 intro X' α s E Q G b hs h
 refine ag e ?_;clear e;intro c σ₁ e1 e
 refine wpAny_If ((gl R k).t env sc X' t.ρ G.K test t.σ c σ₁ e1 E _ s α b.srel b.er fun α₁ s₁ S=>?_)
 have b₁:=b.next G S
 cases c with
 |true=>exact hb _ _ _ e X' α₁ s₁ E Q G b₁ hs fun α₂ f s₂ b₂ B₂ hs₂ hfl₂=>h α₂ f s₂ b₂ ((BStep.of S).trans B₂) hs₂ hfl₂
 |false=>exact ho _ _ _ e X' α₁ s₁ E Q G b₁ hs fun α₂ f s₂ b₂ B₂ hs₂ hfl₂=>h α₂ f s₂ b₂ ((BStep.of S).trans B₂) hs₂ hfl₂
noncomputable def WhI (C:Cfg)(env:Env)(sc:Scope)(X X':Addr→Prop)(α₀:a7)(σ₀:Sto)(s₀:Shared)(α:a7)(t:St)(s:Shared)(T:St→Option (Bool×St))(fb:St→Option (Fl×St))(r:Fl×St)(m:Nat)(s₁:Shared):Prop:=
 ∀P:Prop,(∀α₁ t₁,Blk C env sc X X' α₀ σ₀ s₀ t₁.ρ α₁ t₁.σ s₁→BStep C env sc α t.σ s α₁ t₁.σ s₁→j6 sc t₁.ρ→b7 T fb m t₁=some r→P)→P
theorem WhI.elim{P:Prop}{t:St}{T:St→Option (Bool×St)}{fb:St→Option (Fl×St)}{r:Fl×St}{m:Nat}{s₁:Shared}(h:WhI C env sc X X' α₀ σ₀ s₀ α t s T fb r m s₁)
  (k:∀α₁ t₁,Blk C env sc X X' α₀ σ₀ s₀ t₁.ρ α₁ t₁.σ s₁→BStep C env sc α t.σ s α₁ t₁.σ s₁→j6 sc t₁.ρ→b7 T fb m t₁=some r→P):P:=
 h P k
theorem a9t (R:RunOk C A Φ){k:Nat}{body:List Stmt}{test:Expr}{p:Pos}{fb:St→Option (Fl×St)}(hb:∀t fl t',fb t=some (fl,t')→o6 C A env sc X α₀ σ₀ s₀ (execs body env) t fl t'){n:Nat}{t t':St}{fl:Fl}
  (e:b7 (fun s=>(evT Φ k sc s.ρ test s.σ).map fun p=>(p.1,⟨s.ρ,p.2⟩)) fb n t=some (fl,t')):o6 C A env sc X α₀ σ₀ s₀ (exec (.While test body [] p) env) t fl t':=by
 intro X' α s E Q G b hs h
 refine wpAny_While (codeAny_whileLoop (WhI C env sc X X' α₀ σ₀ s₀ α t s (fun s=>(evT Φ k sc s.ρ test s.σ).map fun p=>(p.1,⟨s.ρ,p.2⟩)) fb (fl,t')) ?_ n fun _ k=>k α t b .refl hs e)
 clear e
 intro m s₁ hI
 refine hI.elim ?_;clear hI;intro α₁ t₁ b₁ B₁ hs₁ e
 cases m with
 |zero=>exact no e
 |succ m=>
  refine ag e ?_;clear e;intro c t₂ e1 e
  refine nt e1 ?_;clear e1;intro c' σ₂ e2 e1
  revert e
  apply re2 e1
  intro e
  refine(gl R k).t env sc X' t₁.ρ G.K test t₁.σ c' σ₂ e2 _ _ s₁ α₁ b₁.srel b₁.er fun α₂ s₂ S=>?_
  have b₂:=b₁.next G S
  have B₂:=B₁.trans (BStep.of S)
  clear e1 e2 b b₁ B₁
  have fin:∀α₂ s₂ (t₂:St) f fl₂,Blk C env sc X X' α₀ σ₀ s₀ t₂.ρ α₂ t₂.σ s₂→BStep C env sc α t.σ s α₂ t₂.σ s₂→j6 sc t₂.ρ→u6 C (Bad X' t₂.σ α₂) α₂ s₂.heap f fl₂→some (fl₂,t₂)=some (fl,t')→Q f s₂:=by
   intro α₂ s₂ t₂ f fl₂ b₂ B₂ hs₂ hf e
   clear S
   revert h
   apply du e
   exact fun h=>h α₂ f s₂ b₂ B₂ hs₂ hf
  clear h
  cases c' with
  |false=>exact wpAny_pure (fin α₂ s₂ ⟨t₁.ρ,σ₂⟩ .next .next b₂ B₂ hs₁ trivial e)
  |true=>
   refine ag e ?_;clear e;intro x t₃ e3 e
   refine hb _ _ _ e3 X' α₂ s₂ _ _ G b₂ hs₁ fun α₃ f s₃ b₃ B₃ hs₃ hfl=>?_
   have B:=B₂.trans B₃
   have nx:b7 (fun s=>(evT Φ k sc s.ρ test s.σ).map fun p=>(p.1,⟨s.ρ,p.2⟩)) fb m t₃=some (fl,t')→∃m',m'<m+1∧WhI C env sc X X' α₀ σ₀ s₀ α t s (fun s=>(evT Φ k sc s.ρ test s.σ).map fun p=>(p.1,⟨s.ρ,p.2⟩)) fb (fl,t') m' s₃:=fun e=>⟨m,Nat.lt_succ_self _,fun _ k=>k α₃ t₃ b₃ B hs₃ e⟩
   revert e
   apply flE hfl
   ·exact nx
   ·exact fin α₃ s₃ t₃ .next .next b₃ B hs₃ trivial
   ·exact nx
   ·exact fun u v r=>fin α₃ s₃ t₃ (.ret u) (.ret v) b₃ B hs₃ r
theorem a7d (R:RunOk C A Φ){k:Nat}{x:Expr}{p:Pos}{t t':St}{fl:Fl}(e:((evE Φ k sc t.ρ x t.σ).map fun p=>(Fl.ret p.1,(⟨t.ρ,p.2⟩:St)))=some (fl,t')):o6 C A env sc X α₀ σ₀ s₀ (exec (.Return (some x) p) env) t fl t':=by
 refine nt e ?_;clear e;intro V₁ σ₁ e1 e
 (apply re2 e;clear e)
 intro X' α s E Q G b hs h
 exact wpAny_Return_some (((gl R k).e env sc X' t.ρ G.K) x t.σ V₁ σ₁ e1 E _ s α b.srel b.er fun v α₁ s₁ S Rv _=>h α₁ _ s₁ (b.next G S) (BStep.of S) hs Rv)
end
section
variable{prog:Program}{w:World}{A:Around}{R:Result→Shared→Prop}{s:Shared}
noncomputable def ai1 (R:Result→Shared→Prop)(I:Nat→Shared→Prop)(n:Nat):Flow→Shared→Prop
 |.next|.cont=>fun s₃=>∃m,m<n∧I m s₃
 |.brk=>R (.ok .next)
 |.ret v=>R (.ok (.ret v))
noncomputable def ah3 (prog:Program) (w:World) (A:Around) (target:Expr) (body:List Stmt) (env:Env) (R:Result→Shared→Prop) (I:Nat→Shared→Prop) (n:Nat) (E:Value→Shared→Prop) (v:Value) (s₁:Shared):Prop:=
 wpAny (model prog w) A (assign target env v) (fun _ s₂=>wpAny (model prog w) A (execs body env) (ai1 R I n) E s₂) E s₁
noncomputable def ag6 (prog:Program) (w:World) (A:Around) (it:Value) (target:Expr) (body:List Stmt) (env:Env) (R:Result→Shared→Prop) (I:Nat→Shared→Prop) (n:Nat) (E:Value→Shared→Prop):Option Value→Shared→Prop
 |none=>R (.ok .next)
 |some v=>fun s₁=>wpAny (model prog w) A (letOwnedTupleGo target it v) (fun _=>ah3 prog w A target body env R I n E v) E s₁
theorem a7l{target:Expr}{it:Value}{body:List Stmt}{env:Env}(I:Nat→Shared→Prop) (turn:∀n s E,I n s→wpAny (model prog w) A (pyNext it) (ag6 prog w A it target body env R I n E) E s)
  (n:Nat) (h:I n s):codeAny (model prog w) A (.forLoop target it body [] env) R s:=by
 refine codeAny_loop' rfl I (fun n s hI=>?_) n h
 refine(?_:wpAny _ _ ((forTurn target it body [] env).onRaise (fun x=>do noteFrame x env;theTreesLotGoes x)) _ _ s)
 refine wpAny_noted ?_
 refine wpAny_bind (wpAny_standAt (wpAny_bind (wpAny_onRaise (wpAny_mono (turn n s _ hI) (fun r s₁ h₁=>?_) fun _ _ h'=>wpAny_standAt h'))))
 cases r with
 |none=>exact wpAny_pure (.inr ⟨rfl,codeAny_block (wpAny_execs_nil h₁)⟩)
 |some v=>
  refine wpAny_bind (wpAny_mono h₁ (fun _ s₂ h₂=>?_) fun _ _ h'=>h')
  refine wpAny_bind (wpAny_mono h₂ (fun _ s₂ h₂=>wpAny_bind (wpAny_mono h₂ (fun f s₃ h₃=>?_) fun _ _ h'=>h')) fun _ _ h'=>h')
  cases f with
  |next=>exact wpAny_pure (.inl ⟨rfl,h₃⟩)
  |cont=>exact wpAny_pure (.inl ⟨rfl,h₃⟩)
  |brk=>exact wpAny_pure h₃
  |ret v=>exact wpAny_pure h₃
end
section
variable{C:Cfg}{A:Around}{Φ:Fx}{env:Env}{X X' X'':Addr→Prop}{sc:Scope}{ρ ρ':Rho}{σ σ' σ'' σ₀:Sto}{α α' α'' α₀:a7}{s s' s'' s₀:Shared}
 {target:Expr}{it:Value}{us:List Value}{es ds:List D}{fp wr:List Addr}{Sp:Nat→Heap→Prop}{i v0:Nat}
theorem BStep.poke {Y:Addr→Prop}{h':Heap}{t:Nat}(B:BStep C env sc α σ s α' σ' s') (hY:∀a,Y a→s.heap.objs.size≤a) (hk:∀a o,¬Y a→s'.heap.get? a=some o→h'.get? a=some o) (hs:s'.heap.objs.size≤h'.objs.size):BStep C env sc α σ s α' σ' {s' with heap:=h',toks:=t}:=
 ⟨fun a o h1 h2 h3 e=>hk a o (fun y=>absurd (Heap.lt_size e) (Nat.not_lt.mpr (hY a y))) (B.keep a o h1 h2 h3 e),B.muts,Nat.le_trans B.grow hs,B.ext⟩
theorem WalkAt.bstep (W:WalkOk C A env sc X X' s₀ target it us es ds fp wr Sp) (G:BlkOk C env sc X X' α₀ σ₀ s₀) (w:WalkAt C env sc X X' α₀ σ₀ s₀ us es ds fp Sp false v0 ρ i α σ s) (B:BStep C env sc α σ s α' σ' s') (b:Blk C env sc X X' α₀ σ₀ s₀ ρ' α' σ' s'):
  WalkAt C env sc X X' α₀ σ₀ s₀ us es ds fp Sp false v0 ρ' i α' σ' s':=by
 refine⟨b,w.le,W.I.frame i _ _ w.st fun b hb o e=>?_,B.repDs G w.rs w.blk.srel.xP,fun b hb=>?_,fun q=>by cases q⟩
 ·refine f5 (w.fo b hb) ?_;intro h1 h2 h3
  exact B.keep b o (h3 rfl) h2 (W.fp b hb) e
 ·refine f5 (w.fo b hb) ?_;intro h1 h2 h3
  exact⟨Nat.lt_of_lt_of_le h1 B.grow,h2,fun q m=>(B.muts b m).elim (h3 q) fun q=>absurd h1 (Nat.not_lt.mpr q)⟩
theorem Blk.narrow (b:Blk C env sc X X'' α₀ σ₀ s₀ ρ α σ s) (hX:∀a,X' a→X'' a) (xP:X' C.P):Blk C env sc X X' α₀ σ₀ s₀ ρ α σ s:=
 ⟨b.step,b.srel.narrow hX xP,fun x v e=>by(refine ar (b.er x v e) ?_;intro u h1 h2);exact⟨u,h1,h2.narrow hX⟩,b.at_⟩
theorem aad {body:List Stmt}{R:Result→Shared→Prop}{I:Nat→Shared→Prop}{n:Nat}{E:Value→Shared→Prop}{live:Bool}(W:WalkOk C A env sc X X' s₀ target it us es ds fp wr Sp) (G:BlkOk C env sc X X' α₀ σ₀ s₀) (w:WalkAt C env sc X X' α₀ σ₀ s₀ us es ds fp Sp live v0 ρ i α σ s) {d:D}(hd:ds[i]?=some d)
  (h:∀v h' t,(∀b o,b ∉ wr→s.heap.get? b=some o→h'.get? b=some o)→s.heap.objs.size≤h'.objs.size→WalkAt C env sc X X' α₀ σ₀ s₀ us es ds fp Sp live v0 ρ (i+1) α σ {s with heap:=h',toks:=t}→RepD C h' (Bad X' σ α) v d→ah3 C.prog C.w A target body env R I n E v {s with heap:=h',toks:=t}):
  wpAny (model C.prog C.w) A (pyNext it) (ag6 C.prog C.w A it target body env R I n E) E s:=
 wpAny_mono (a1n W G w hd (Q:=ah3 C.prog C.w A target body env R I n E) h) (fun r s' z=>by cases r with|none=>exact z.elim|some v=>exact z) fun _ _ z=>z
noncomputable def aea (C:Cfg) (A:Around) (env:Env) (sc:Scope) (X X'':Addr→Prop) (α₀:a7) (σ₀:Sto) (s₀:Shared) (us:List Value) (es ds:List D) (fp:List Addr) (Sp:Nat→Heap→Prop) (v0:Nat) (α:a7) (t:St) (s:Shared) (turn:D→St→Option (Fl×St)) (r:Fl×St) (n:Nat) (s₂:Shared):Prop:=
 ∀P:Prop,(∀i α₂ t₂,WalkAt C env sc X X'' α₀ σ₀ s₀ us es ds fp Sp false v0 t₂.ρ i α₂ t₂.σ s₂→BStep C env sc α t.σ s α₂ t₂.σ s₂→j6 sc t₂.ρ→iu turn (ds.drop i) t₂=some r→n=ds.length-i→P)→P
theorem aea.elim{P:Prop}{t:St}{turn:D→St→Option (Fl×St)}{r:Fl×St}{n:Nat}{s₂:Shared}(h:aea C A env sc X X'' α₀ σ₀ s₀ us es ds fp Sp v0 α t s turn r n s₂)
  (k:∀i α₂ t₂,WalkAt C env sc X X'' α₀ σ₀ s₀ us es ds fp Sp false v0 t₂.ρ i α₂ t₂.σ s₂→BStep C env sc α t.σ s α₂ t₂.σ s₂→j6 sc t₂.ρ→iu turn (ds.drop i) t₂=some r→n=ds.length-i→P):P:=
 h P k
theorem u6.narrow{C:Cfg}{X X':Addr→Prop}{σ:Sto}{α:a7}{h:Heap}{f:Flow}{x:Fl}(hf:u6 C (Bad X σ α) α h f x) (up:∀a,X' a→X a):u6 C (Bad X' σ α) α h f x:=
 flE (P:=fun f x=>u6 C (Bad X' σ α) α h f x) hf trivial trivial trivial fun _ _ r=>r.narrow up
theorem afe (R:RunOk C A Φ){k:Nat}{body:List Stmt}{iter:Expr}{p:Pos}{fb:St→Option (Fl×St)}(hb:∀t fl t',fb t=some (fl,t')→o6 C A env sc X α₀ σ₀ s₀ (execs body env) t fl t'){t t':St}{fl:Fl}
  (e:(if !n7 target iter then none else(gf Φ k sc t.ρ iter t.σ).bind fun p=>if p.1.2 then none else iu (fun x s=>(aj 4 target x s.ρ).bind fun ρ=>fb ⟨ρ,s.σ⟩) p.1.1 ⟨t.ρ,p.2⟩)=some (fl,t')):o6 C A env sc X α₀ σ₀ s₀ (exec (.For target iter body [] p) env) t fl t':=by
 intro X' α s E Q G b hs h
 (refine ai e ?_ ?_<;>clear e<;>intro _ e)
 ·exact no e
 rename_i htg
 have htg':=nn htg
 refine ag7 e ?_;clear e;intro ds live σ₁ e1 e
 (refine ai e ?_ ?_<;>clear e<;>intro _ e)
 ·exact no e
 rename_i hlive
 have hl:live=false:=Bool.eq_false_iff.mpr hlive
 subst hl
 refine wpAny_For ?_ (a1a (fun xs k q h=>by rw[h] at htg';cases htg') env)
 refine(gl R k).s env sc X' t.ρ target iter t.σ ds false σ₁ G.K htg' e1 E _ s α b.srel b.er fun it α₁ s₁ us es fp wr Sp S₁ I st rwr fo hw=>?_
 clear p
 obtain⟨rw_,rus⟩:=rwr
 let X'':Addr→Prop:=fun a=>X' a∨a∈wr
 have up:∀a,X' a→X'' a:=fun a=>.inl
 have G'':BlkOk C env sc X X'' α₀ σ₀ s₀:=⟨G.r₀,G.K.widen up,fun a x=>up a (G.up a x),G.own⟩
 have b₁:=b.next G S₁
 have b₁'':Blk C env sc X X'' α₀ σ₀ s₀ t.ρ α₁ σ₁ s₁:=by
  refine⟨b₁.step,rw_,fun x v hx=>?_,b₁.at_⟩
  clear R hb
  refine ar (b.er x v hx) ?_;intro u h1 h2
  refine⟨u,h1.keep (fun o e=>S₁.keep _ o (dp b.srel G.K.xL) G.K.nP.1 e) (fun x c hc o e=>S₁.keep c o (dp b.srel (G.K.xC x c hc)) (G.K.nP.2 x c hc) e),?_⟩
  refine h2.mono (fun c o nb e=>S₁.kept b.srel c o nb e) (fun c o e nb m=>?_) S₁.alpha
  rcases m with(m|m)|m
  ·exact nb (.inl m)
  ·exact absurd (Heap.lt_size e) (Nat.not_lt.mpr (hw.1 c m).1)
  ·exact(S₁.muts c m).elim (fun m=>nb (.inr m)) fun q=>absurd (Heap.lt_size e) (Nat.not_lt.mpr q)
 have W:WalkOk C A env sc X X'' s₀ target it us es ds fp wr Sp:=by
  refine⟨I,fun c hc=>⟨.inr hc,Nat.le_trans b.step.grow (hw.1 c hc).1,fun q=>?_,fun x q=>?_⟩,fun c hc o=>hw.2 c hc (t6 G.K o)⟩
  ·exact hw.2 c (hw.1 c hc).2 (q▸G.K.xL)
  ·exact hw.2 c (hw.1 c hc).2 (G.K.xC x c q)
 have w₁:WalkAt C env sc X X'' α₀ σ₀ s₀ us es ds fp Sp false σ₁.ver t.ρ 0 α₁ σ₁ s₁:=⟨b₁'',Nat.zero_le _,st,rus,fo,fun _=>rfl⟩
 have fin:∀α₂ s₂ (t₂:St) f fl₂,Blk C env sc X X'' α₀ σ₀ s₀ t₂.ρ α₂ t₂.σ s₂→BStep C env sc α t.σ s α₂ t₂.σ s₂→j6 sc t₂.ρ→u6 C (Bad X'' t₂.σ α₂) α₂ s₂.heap f fl₂→some (fl₂,t₂)=some (fl,t')→Q f s₂:=by
  clear e
  intro α₂ s₂ t₂ f fl₂ b₂ B₂ hs₂ hf e
  revert h
  apply du e
  exact fun h=>h α₂ f s₂ (b₂.narrow up b.srel.xP) B₂ hs₂ (hf.narrow up)
 refine a7l (aea C A env sc X X'' α₀ σ₀ s₀ us es ds fp Sp σ₁.ver α t s (fun x s=>(aj 4 target x s.ρ).bind fun ρ=>fb ⟨ρ,s.σ⟩) (fl,t')) ?_ (ds.length-0) fun _ k=>k 0 α₁ ⟨t.ρ,σ₁⟩ w₁ (BStep.of S₁) hs e rfl
 clear e h
 intro n s₂ E' hI
 refine hI.elim ?_;clear hI;intro i α₂ t₂ w B hs₂ er hn
 have pk:=fun(h':Heap) (tk:Nat) hk hs=>B.poke (h':=h') (t:=tk) (Y:=fun a=>a∈wr) (fun a ha=>(hw.1 a ha).1) hk hs
 cases hd:ds[i]? with
 |none=>
  rw[List.drop_of_length_le (List.getElem?_eq_none_iff.mp hd)] at er
  refine wpAny_mono (a14 W G'' w hd (Q:=fun s'=>Q .next s') fun h' t'' hk sz b'=>fin α₂ _ t₂ .next .next b' (pk h' t'' hk sz) hs₂ trivial er) (fun r s' z=>?_) fun _ _ z=>z
  cases r with
  |none=>exact z
  |some v=>exact z.elim
 |some d=>
  have lt:i<ds.length:=(List.getElem?_eq_some_iff.mp hd).1
  have hdrop:ds.drop i=d::ds.drop (i+1):=by
   rw[List.drop_eq_getElem_cons lt,(List.getElem?_eq_some_iff.mp hd).2]
  rw[hdrop] at er
  refine ag er ?_;clear er;intro x t₃ e2 er
  refine bj e2 ?_;clear e2;intro ρ₁ e3 e2
  refine aad W G'' w hd fun v h₁ tk₁ hk₁ sz₁ w₂ rv=>?_
  ·have w₂':=w₂.names (ρ':=t₂.ρ++[]) fun x v hx=>by rw[List.append_nil] at hx;exact hx
   refine nj (τ:=[]) R.hh G'' 4 target d t₂.ρ ρ₁ _ v _ e3 hs₂ w₂'.blk rv fun h₂ tk₂ hk₂ sz₂ b₂=>?_
   have w₃:=(w₂'.own W G'' hk₂ sz₂ b₂).names (ρ':=ρ₁) fun x v hx=>by rw[List.append_nil];exact hx
   refine hb ⟨ρ₁,t₂.σ⟩ x t₃ e2 X'' α₂ _ E' _ G'' w₃.blk (hs₂.of_keys (je 4 e3)) fun α₃ f s₃ b₃ B₃ hs₃ hf=>?_
   have w₄:=w₃.bstep W G'' B₃ b₃
   have B₄:=((pk h₁ tk₁ hk₁ sz₁).trans (BStep.own (t:=tk₂) hk₂ sz₂)).trans B₃
   have nx:iu (fun x s=>(aj 4 target x s.ρ).bind fun ρ=>fb ⟨ρ,s.σ⟩) (ds.drop (i+1)) t₃=some (fl,t')→∃m,m<n∧aea C A env sc X X'' α₀ σ₀ s₀ us es ds fp Sp σ₁.ver α t s (fun x s=>(aj 4 target x s.ρ).bind fun ρ=>fb ⟨ρ,s.σ⟩) (fl,t') m s₃:=
    fun er=>⟨ds.length-(i+1),by exact anf hn lt,fun _ k=>k (i+1) α₃ t₃ w₄ B₄ hs₃ er rfl⟩
   clear w₄ hn w W w₂ w₂' w₃
   revert er
   apply flE hf
   ·exact nx
   ·exact fin α₃ s₃ t₃ .next .next b₃ B₄ hs₃ trivial
   ·exact nx
   ·exact fun u v rv=>fin α₃ s₃ t₃ (.ret u) (.ret v) b₃ B₄ hs₃ rv
end
section
variable{C:Cfg}{A:Around}{Φ:Fx}{env:Env}{X:Addr→Prop}{sc:Scope}{σ σ':Sto}{α:a7}{s:Shared}{E:Value→Shared→Prop}
theorem ae9 {K:Frag}{prog:Program}{w:World}{x c dx:Addr}{es:List DictEntry}{n:Nat}{name:Str}{v:Value}{Q:Unit→Shared→Prop}(X:K.In s.heap) (hx:s.heap.get? x=some (instObj c dx)) (hdx:s.heap.get? dx=some (dictOf es n)) (hp:plainOver K c=true) (hs:findIn K (.ref c) "__setattr__"=some (some (.builtin "object.__setattr__")))
  (ht:takerIn K c name=some none) (hh:hasDictIn K c=true) (hl:(getL name es).isSome=true) (hz:∀hsh key,(putL name hsh key v es).length≤1000)
  (h:∀h' hsh key n' t,key.isStr name=true→h'.get? dx=some (dictOf (putL name hsh key v es) n')→Heap.SameBut dx s.heap h'→Q () {s with heap:=h',toks:=t}):
  wpAny (model prog w) A (setAttr (.ref x) name v) Q E s:=by
 have I:PySem.W.InstAt s.heap x (instObj c dx) c (some (dictOf es n)):=⟨hx,rfl,rfl,hdx⟩
 refine set_plain X I hs (osa_open (s:={s with toks:=s.toks+1}) X I hp ht fun b=>?_)
 refine ar (any_some hh) ?_;intro cd hc hd'
 refine wpAny_bind (wpAny_pure (wpAny_bind (wpAny_bind (wpAny_loadPart (s:={s with toks:=s.toks+1}) hx (wpAny_bind (Looks.here (s:={s with toks:=s.toks+1}) (looks_clsIn X hc) ?_))))))
 rw[hd']
 refine wpAny_pure (a:=some dx) (wpAny_bind (wpAny_pure (wpAny_bind ?_)))
 unfold nsSet
 refine wpAny_bind (wpAny_bind (wpAny_askSetting (wpAny_pure (wpAny_bind (wpAny_mkText (wpAny_bind (wpAny_loadPart (s:={s with toks:=s.toks+1+1}) hdx ?_)))))))
 have e':=putName_dict name (PyData.keyHash w.params name) (.str name (s.toks+1)) v es n
 have D':(s.heap.update dx (Obj.putName name (PyData.keyHash w.params name) (.str name (s.toks+1)) v)).get? dx=some (dictOf (putL name (PyData.keyHash w.params name) (.str name (s.toks+1)) v es) (putN name es n)):=by
  rw[Heap.get?_update_self _ hdx (by rw[e'];rfl),e']
 have cn:(!es.toArray.any (·.key.isStr name)&&es.toArray.any (·.refKey))=false:=by
  rw[←Array.any_toList,←Array.any_toList]
  unfold getL at hl
  split at hl
  ·rename_i en he
   rw[List.any_eq_true.mpr ⟨en,List.mem_of_find?_eq_some he,List.find?_some he⟩];rfl
  ·split at hl
   ·cases hl
   ·rename_i z;rw[Bool.not_eq_true]at z;rw[z,Bool.and_false]
 refine(?_:wpAny _ _ _ _ _ _)
 dsimp only[dictOf]
 rw[aRefKeyMayBeTheName_at,cn]
 refine wpAny_updatePart (s:={s with toks:=s.toks+1+1}) hdx ?_
 refine wpAny_bind (wpAny_lookBehind D' (pastItsLine_dict (by rw[List.size_toArray,sizeLine_eq];have:=hz (PyData.keyHash w.params name) (.str name (s.toks+1));exact aj8 this)) ?_)
 exact wpAny_pure (h _ _ _ _ _ (by simp[Value.isStr]) D' (Heap.SameBut.update ..))
theorem qg{β:Type}(name:Str)(v:β)(set:List (Str×β)→List (Str×β))(hs0:set []=[(name,v)])(hs:∀b u r,set ((b,u)::r)=if b==name then(b,v)::r else(b,u)::set r)(a:Str):∀l:List (Str×β),(set l).lookup a=if a=name then some v else l.lookup a
 |[]=>by
  rw[hs0]
  simp only[List.lookup_cons,List.lookup_nil]
  by_cases h:a=name
  ·subst h;simp
  ·have:(a==name)=false:=by simpa using h
   rw[this,if_neg h]
 |(b,u)::r=>by
  rw[hs]
  by_cases hb:b=name
  ·subst hb
   simp only[beq_self_eq_true,if_true,List.lookup_cons]
   by_cases h:a=b
   ·subst h;simp
   ·have:(a==b)=false:=by simpa using h
    rw[this,if_neg h]
  ·have e:(b==name)=false:=by simpa using hb
   simp only[e,Bool.false_eq_true,if_false,List.lookup_cons]
   have ih:=qg name v set hs0 hs a r
   by_cases h:a=b
   ·subst h;simp[hb]
   ·have:(a==b)=false:=by simpa using h
    rw[this]
    exact ih
noncomputable def su (a:Str)(v:Value):List (Str×Value)→List (Str×Value)
 |[]=>[(a,v)]
 |(b,u)::r=>if b==a then(b,v)::r else(b,u)::su a v r
theorem a58{k:Value}{a b:Str}(h:k.isStr b=true)(n:a≠b):k.isStr a=false:=by
 cases k<;>simp[Value.isStr]at h ⊢
 rw[h];exact fun q=>n q.symm
theorem a23{name a:Str}{hsh:Int}{key v:Value}(hk:key.isStr name=true)(n:a≠name):∀es:List DictEntry,(putL name hsh key v es).find? (·.key.isStr a)=es.find? (·.key.isStr a)
 |[]=>by simp[putL,a58 hk n]
 |e::r=>by
  unfold putL
  split
  ·rename_i q
   simp only[List.find?_cons,a58 q n]
  ·simp only[List.find?_cons]
   rw[a23 hk n r]
theorem o4{name:Str}{hsh:Int}{key v:Value}(hk:key.isStr name=true):∀es:List DictEntry,∃e,(putL name hsh key v es).find? (·.key.isStr name)=some e∧e.val=v
 |[]=>⟨⟨hsh,key,v⟩,by simp[putL,hk],rfl⟩
 |e::r=>by
  unfold putL
  split
  ·rename_i q
   exact⟨⟨e.hash,e.key,v⟩,by simp[q],rfl⟩
  ·rename_i q
   refine ar (o4 (v:=v) (hsh:=hsh) hk r) ?_;intro e' h1 h2
   exact⟨e',by simp only[List.find?_cons,Bool.eq_false_iff.mpr q];exact h1,h2⟩
theorem a4n{name:Str}{hsh:Int}{key v:Value}(hk:key.isStr name=true):∀es:List DictEntry,(putL name hsh key v es).any (·.refKey)=es.any (·.refKey)
 |[]=>by cases key<;>simp[Value.isStr]at hk;rfl
 |e::r=>by
  unfold putL
  split
  ·simp only[List.any_cons];rfl
  ·simp only[List.any_cons,a4n hk r]
theorem ow{name:Str}{hsh:Int}{key v:Value}:∀es:List DictEntry,(putL name hsh key v es).length=if es.any (·.key.isStr name)then es.length else es.length+1
 |[]=>rfl
 |e::r=>by
  unfold putL
  split
  ·rename_i q
   simp[q]
  ·rename_i q
   simp only[List.length_cons,List.any_cons,Bool.eq_false_iff.mpr q,Bool.false_or,ow r]
   split<;>rfl
theorem acw{name:Str}{hsh:Int}{key v:Value}{es:List DictEntry}{l:List (Str×Value)}(hk:key.isStr name=true) (f:oo es l):oo (putL name hsh key v es) (su name v l):=by
 have look:∀a,(su name v l).lookup a=if a=name then some v else l.lookup a:=fun a=>qg name v (su name v) rfl (fun b u r=>rfl) a l
 refine ⟨fun a=>?_,?_⟩
 ·rw[look]
  by_cases h:a=name
  ·subst h
   refine ar (o4 (v:=v) (hsh:=hsh) hk es) ?_;intro e h1 h2
   rw[if_pos rfl]
   unfold getL
   rw[h1]
   simp[h2]
  ·rw[if_neg h,←f.1 a]
   unfold getL
   rw[a23 hk h,a4n hk]
 ·have ln:∀l:List (Str×Value),(su name v l).length=if (l.lookup name).isSome then l.length else l.length+1:=by
   intro l
   induction l with
   |nil=>rfl
   |cons p r ih=>
    obtain ⟨b,u⟩:=p
    simp only[su,List.lookup_cons]
    by_cases h:b=name
    ·subst h;simp
    ·have e1:(b==name)=false:=by simpa using h
     have e2:(name==b)=false:=by simpa using fun q=>h q.symm
     simp only[e1,e2,Bool.false_eq_true,if_false,List.length_cons,ih]
     split<;>rfl
  rw[ln,ow]
  have h1:=f.1 name
  have h2:=f.2
  unfold getL at h1
  split at h1
  ·rename_i e he
   have q:es.any (·.key.isStr name)=true:=List.any_eq_true.mpr ⟨e,List.mem_of_find?_eq_some he,by have z:=List.find?_some he;exact z⟩
   simp only[Option.some.injEq]at h1
   rw[q,←h1]
   simpa using h2
  ·split
   ·split<;>omega
   ·rename_i q1 q2
    split at h1
    ·cases h1
    ·simp only[Option.some.injEq]at h1
     rw[←h1]
     simp only[Option.isSome_none,Bool.false_eq_true,if_false]
     exact aou h2
theorem RepKVs.length{h:Heap}{B:Addr→Prop}{κ:Type}{l:List (κ×Value)}{ds:List (κ×V)}(r:RepKVs C h B α l ds):l.length=ds.length:=by
 induction r with
 |nil=>rfl
 |cons _ _ ih=>simp only[List.length_cons,ih]
theorem RepKVs.setFld{h:Heap}{B:Addr→Prop}{k:Str}{v:Value}{x:V}(a:RepV C h B α v x){l:List (Str×Value)}{ds:List (Str×V)}(r:RepKVs C h B α l ds):RepKVs C h B α (su k v l) (Mini.Internal.setFld k x ds):=by
 induction r with
 |nil=>exact .cons a .nil
 |cons b r ih=>
  rename_i k' _ _ _ _
  simp only[Mini.Internal.setFld,su]
  split
  ·exact .cons a r
  ·exact .cons b ih
end
section
variable{C:Cfg}{A:Around}{Φ:Fx}{env:Env}{X:Addr→Prop}{sc:Scope}{σ σ':Sto}{α:a7}{s:Shared}{E:Value→Shared→Prop}
theorem a36 (O:Ok C) {u w:Value}{x:V}{i:Nat}{a:Str}{Q:Unit→Shared→Prop}(r:SRel C X α σ s.heap) (ru:RepV C s.heap (Bad X σ α) α u (.m i)) (rv:RepV C s.heap (Bad X σ α) α w x) (e:Mini.Internal.setField i a x σ=some σ')
  (h:∀h' t,Step C X α σ s α σ' {s with heap:=h',toks:=t}→Q () {s with heap:=h',toks:=t}):wpAny (model C.prog C.w) A (setAttr u a w) Q E s:=by
 refine ai e (fun _ e=>no e) ?_;clear e;intro hf e
 refine ade e ?_;clear e;intro c fs ho e
 refine ai e ?_ fun _ e=>no e;clear e;intro hl e
 revert h;apply j8 e;clear e;intro h
 refine vm ru ?_;clear ru;intro p hp hu
 obtain ⟨c',es,n,l,h1,h2,h3,h4,rk⟩:=r.obj i p _ hp ho
 subst hu
 have ok:=tt (O.cls c c' h3)
 have st:=tt (O.set c c' h3)
 have ha:findIn C.K (.ref c') a=some none:=beq_iff_eq.mp (List.all_eq_true.mp ok.2 _ (List.contains_iff_mem.mp (nn hf)))
 have len:l.length=fs.length:=rk.length
 refine ae9 (ml O r) h1 h2 st.1 (beq_iff_eq.mp st.2) (by unfold takerIn;rw[ha];rfl) (tt ok.1).2 (by rw[h4.1];rfl) (fun hsh key=>?_) fun h' hsh key n' t hk hg sb=>?_
 ·rw[ow]
  have:=h4.2
  split<;>lia
 have kp:∀b o,¬Bad X σ α b→s.heap.get? b=some o→h'.get? b=some o:=fun b o nb e=>(sb.2 b fun q=>nb (.inr ⟨i,p,_,hp,ho,rfl,.inr q⟩)).trans e
 have hne:p.1≠p.2:=fun q=>by rw[q,h2]at h1;cases h1
 refine h h' t (Step.put (o':=.inst c (Mini.Internal.setFld a x fs)) r hp ho rfl (fun b o n1 n2 e=>(sb.2 b n2).trans e) (Nat.le_of_eq sb.1.symm) ?_ t)
 refine ⟨c',_,n',su a w l,(sb.2 p.1 hne).trans h1,hg,h3,acw hk h4,?_⟩
 exact (rk.setFld rv).mono kp (fun b o _ nb m=>nb (m.elim .inl fun m=>.inr (Mut.put_sub hp ho rfl b m))) fun _ _ e=>e
theorem a0j {prog:Program}{w:World}{l:Addr}{items:Array Value}{k:Int}{t:Tok}{v:Value}{Q:Unit→Shared→Prop}(hp:s.heap.PlainList l items) (h0:0≤k) (hfit:k<2 ^ 63) (hn:k<items.size)
  (hQ:∀h',h'.PlainList l (items.setIfInBounds k.toNat v)→Heap.SameBut l s.heap h'→Q () {s with heap:=h'}):wpAny (model prog w) A (setItem (.ref l) (.int k t) v) Q E s:=by
 have hl:=PlainList.isList hp
 obtain⟨nn,ho⟩:=hp
 have hd:(Obj.mk (.type "list") none (.seq items nn) #[]).data=.seq items nn:=rfl
 unfold setItem
 try with_reducible refine wpAny_holding ?_
 first|refine wpAny_bind (wpAny_pure ?_)|skip
 refine wpAny_bind (wpAny_sequenceKey hl.typeIs (by decide) ?_)
 refine wpAny_bind (wpAny_callSpecial?_slot (name:=Str.ofString "__setitem__") hl.typeIs slot_list_setitem
  (wpAny_call_entry slot_list_setitem hl.typeIs entry_list_setitem ?_ (args_list_setitem _ _ _)))
 refine(?_:wpAny _ _ (Builtin.List.listSubscript? (.int k t) >>=_) _ _ s)
 refine wpAny_bind (wpAny_listSubscript_int (fitsIndex_of h0 hfit) ?_)
 clear hfit
 obtain⟨j,rfl⟩:=Int.eq_ofNat_of_zero_le h0
 have hj:j<items.size:=by exact ajd hn
 have hx':items[j]?=some items[j]:=Array.getElem?_eq_getElem hj
 refine(?_:wpAny _ _ ((seqItemAt l j >>=fun r=>pure (r.map (j,·))) >>=_) _ _ s)
 refine wpAny_bind (wpAny_bind (wpAny_seqItemAt ho hd (wpAny_pure ?_)))
 rw[hx']
 refine(?_:wpAny _ _ (setSeqItemAt l j v >>=_) _ _ s)
 have hfin:(s.heap.update l (Obj.mapSeq (·.setIfInBounds j v))).PlainList l (items.setIfInBounds j v):=j9 _ ho rfl
 refine wpAny_bind (wpAny_setSeqItemAt ho hd ?_)
 first
  |exact wpAny_bind (wpAny_pure (wpAny_pure ⟨.none,rfl,wpAny_pure (hQ _ hfin (Heap.SameBut.update ..))⟩))
  |exact wpAny_pure ⟨.none,rfl,wpAny_pure (hQ _ hfin (Heap.SameBut.update ..))⟩
theorem a5k (hu:A.units+1<cLine) {u kv w:Value}{o i x:V}{Q:Unit→Shared→Prop}(r:SRel C X α σ s.heap) (ru:RepV C s.heap (Bad X σ α) α u o) (rk:RepV C s.heap (Bad X σ α) α kv i) (rv:RepV C s.heap (Bad X σ α) α w x) (e:i6 σ o i x=some σ')
  (h:∀h' t,Step C X α σ s α σ' {s with heap:=h',toks:=t}→Q () {s with heap:=h',toks:=t}):wpAny (model C.prog C.w) A (setItem u kv w) Q E s:=by
 cases o with
 |d _=>exact no e
 |m j=>cases i with
  |m _=>exact no e
  |d k=>
   refine vm ru ?_;clear ru;intro p hp hu
   subst hu
   have rkd:=vd rk
   clear rk
   refine a2q e (fun xs ho e'=>afz e' fun z hk e2=>?_) fun kd kvs ho e=>ai e (fun hr e=>?_) fun _ e=>no e
   ·clear e e'
    subst hk
    refine ag e2 fun d σ₁ e1 e=>isList e fun ys ho' e=>ai e (fun hz e=>?_) fun _ e=>no e
    revert h;apply j8 e;intro h
    refine bk (kj r rv e1) fun S Rd=>uk S.srel hp ho' fun vs n he hl hn lv rs=>gd rkd fun t ht=>?_
    subst ht
    have hl:s.heap.PlainList p.1 vs.toArray:=⟨n,hl⟩
    have big:(2:Int) ^ 63=9223372036854775808:=by decide
    refine a0j hl hz.1 (by clear e h;exact aj5 hz hn lv big) (by rw[List.size_toArray];clear e h;exact al6 hz lv) fun h' hq sb=>?_
    have hq':h'.PlainList p.1 (vs.set z.toNat w).toArray:=by
     rw[←List.setIfInBounds_toArray];exact hq
    exact h h' s.toks (S.trans (p8 S.srel hp ho' rfl he hq' (by rw[List.length_set];exact hn) (RepDs.set Rd rs _) sb s.toks))
   ·refine de e fun kd' e1 e=>?_
    revert h;apply re1 e;intro h
    obtain ⟨he,l,hd,hk⟩:=r.obj j p _ hp ho
    have mutp:Mut σ α p.1:=⟨j,p,_,hp,ho,rfl,.inl rfl⟩
    have sub:∀b,¬Bad X σ α b→¬Bad X (σ.put j (.dict kd' (Mini.Internal.setKey k x kvs))) α b:=fun b nb m=>nb (m.elim .inl fun m=>.inr (Mut.put_sub hp ho rfl b m))
    refine a2d hu hd rkd (.inr mutp) (by rw[hk.length];exact pn hr) e1 fun h' t sb hd'=>?_
    refine h h' t (Step.put (o':=.dict kd' (Mini.Internal.setKey k x kvs)) r hp ho rfl (fun b o n1 _ e=>(sb.2 b n1).trans e) (Nat.le_of_eq sb.1.symm) ⟨he,Mini.Internal.setKey k w l,hd'.mono (fun _ e=>e) (fun _ _ _ e=>e) fun b _ _ nb=>sub b nb,?_⟩ t)
    exact (hk.setKey rv).mono (fun b o nb e=>(sb.2 b fun q=>nb (.inr (q▸mutp))).trans e) (fun b o _ nb=>sub b nb) fun _ _ e=>e
end
section
variable{C:Cfg}{A:Around}{Φ:Fx}{env:Env}{X X':Addr→Prop}{sc:Scope}{ρ ρ':Rho}{σ σ' σ₀:Sto}{α α' α₀:a7}{s s' s₀:Shared}{E:Value→Shared→Prop}
theorem SRel.adopt{p:Addr×Addr}{o:MO}{h:Heap}(r:SRel C X' α σ h) (hX:∀a,X' a ↔ X a∨a=p.1∨a=p.2) (n1:¬X p.1) (n2:¬X p.2) (xP:X C.P) (hn:o5 C h (Bad X (σ.alloc o).2 (α++[p])) (α++[p]) p o):SRel C X (α++[p]) (σ.alloc o).2 h:=by
 have x1:X' p.1:=(hX _).mpr (.inr (.inl rfl))
 have x2:X' p.2:=(hX _).mpr (.inr (.inr rfl))
 exact r.snoc (fun a x=>(hX a).mpr (.inl x)) xP (Nat.le_refl _) (fun _ _ _ _ e=>e) (fun i q e=>bk (r.notX i q e) fun a1 a2=>⟨fun z=>a1 (z▸x1),fun z=>a1 (z▸x2),fun z=>a2 (z▸x1),fun z=>a2 (z▸x2)⟩) ⟨n1,n2⟩ ⟨r.xBase _ x1,r.xBase _ x2⟩ ⟨r.xLt _ x1,r.xLt _ x2⟩ (fun a q _ _=>.inl ((hX a).mpr (.inr q))) hn
theorem q9 (o i:Expr) (p:Pos) (env:Env) (w:Value):assign (.Subscript o i p) env w=(do
 let ov←holding [w] (eval o env)
 let iv←holding [w,ov] (eval i env)
 standAt p
 holding [w,ov,iv] (setItem ov iv w)
 release (match i with|.Slice _ _ none _=>[iv,w,ov]|_=>[w,ov,iv]) []):=rfl
theorem w6 (R:RunOk C A Φ) (G:BlkOk C env sc X X' α₀ σ₀ s₀){n:Nat}{t:Expr}{v:V}{st st':St}{w:Value}{Q:Unit→Shared→Prop}(e:ch Φ n sc t v st=some st') (b:Blk C env sc X X' α₀ σ₀ s₀ st.ρ α st.σ s) (hs:j6 sc st.ρ) (rv:RepV C s.heap (Bad X' st.σ α) α w v)
  (h:∀α' s',Blk C env sc X X' α₀ σ₀ s₀ st'.ρ α' st'.σ s'→BStep C env sc α st.σ s α' st'.σ s'→j6 sc st'.ρ→Q () s'):wpAny (model C.prog C.w) A (assign t env w) Q E s:=by
 cases t with
 |Name x p=>
  refine de e ?_;clear e;intro ρ₁ e1 e
  subst e
  have b':Blk C env sc X X' α₀ σ₀ s₀ (st.ρ++[]) α st.σ s:=by rw[List.append_nil];exact b
  refine ny (τ:=[]) G b' (hs x (Rho.set_in e1)) e1 rv fun h' t' hk sz b₁=>?_
  rw[List.append_nil]at b₁
  exact h α _ b₁ (BStep.own hk sz) (hs.of_keys (Rho.set_get (τ:=[]) e1).2)
 |Attribute o a p=>
  refine ag e ?_;clear e;intro V₁ σ₁ e1 e
  cases V₁ with
  |m i=>
   refine de e ?_;clear e;intro σ₂ e2 e
   subst e
   show wpAny _ A (do
    let ov←holding [w] (eval o env)
    standAt p.atName
    holding [w,ov] (setAttr ov a w)
    release [w,ov] []) Q E s
   refine wpAny_bind (wpAny_holding (((gl R n).e env sc X' st.ρ G.K o _ _ _ e1).then G.K b.srel b.er fun ov α₁ s₁ S R₁ r₁ er₁=>wpAny_bind (wpAny_standAt (wpAny_bind (wpAny_holding ?_)))))
   have b₁:=b.next G S
   refine a36 R.O r₁ R₁ (S.repV b.srel rv) e2 fun h' t' S'=>wpAny_release' ?_
   exact h α₁ _ (b₁.next G S') ((BStep.of S).trans (BStep.of S')) hs
  |d _=>exact no e
 |Subscript o i p=>
  refine ag e ?_;clear e;intro V₁ σ₁ e1 e
  refine ag e ?_;clear e;intro V₂ σ₂ e2 e
  refine de e ?_;clear e;intro σ₃ e3 e
  subst e
  rw[q9]
  refine wpAny_bind (wpAny_holding (((gl R n).e env sc X' st.ρ G.K o _ _ _ e1).then G.K b.srel b.er fun ov α₁ s₁ S R₁ r₁ er₁=>wpAny_bind (wpAny_holding (((gl R n).e env sc X' st.ρ G.K i _ _ _ e2).then G.K r₁ er₁ fun iv α₂ s₂ S₂ R₂ r₂ er₂=>wpAny_bind (wpAny_standAt (wpAny_bind (wpAny_holding ?_)))))))
  have b₂:=(b.next G S).next G S₂
  have hu:=R.hu
  refine a5k (by exact am7 hu) r₂ (S₂.repV r₁ R₁) R₂ (S₂.repV r₁ (S.repV b.srel rv)) e3 fun h' t' S'=>wpAny_release' ?_
  exact h α₂ _ (b₂.next G S') (((BStep.of S).trans (BStep.of S₂)).trans (BStep.of S')) hs
 |_=>exact no e
theorem z7 (R:RunOk C A Φ) (G:BlkOk C env sc X X' α₀ σ₀ s₀) {n:Nat}{elt:Expr}{gens:List Comprehension}{csc:Scope}{p pos:Pos}{x:Str}{mk:Bool}{W:V}{st:St}{σ₁:Sto}{ρ₁:Rho}{Q:Value→Shared→Prop}
  (e:((evE Φ n sc st.ρ (.ListComp elt gens csc pos) st.σ).bind fun q=>some (if mk then a6k q.2 q.1 else q))=some (W,σ₁)) (e1:Rho.set x W st.ρ=some ρ₁) {tp:Pos}(b:Blk C env sc X X' α₀ σ₀ s₀ st.ρ α st.σ s) (hs:j6 sc st.ρ)
  (h:∀α' s',Blk C env sc X X' α₀ σ₀ s₀ ρ₁ α' σ₁ s'→BStep C env sc α st.σ s α' σ₁ s'→j6 sc ρ₁→Q .none s'):
  wpAny (model C.prog C.w) A (comprehension (.ListComp elt gens csc pos) csc env p (newList []) (firstAsync gens) (firstIter gens env) (some fun v=>assign (.Name x tp) env v)) Q E s:=by
 refine ag e ?_;clear e;intro W₀ σ₂ e2 e
 refine a4b e2 fun m target iter ifs ds live σs out hn hg hc ht e3 hr e4 hW=>?_
 subst hn;subst hg;subst hW
 have ih:=gl R m
 refine (?_:wpAny _ A (comprehension (.ListComp elt [⟨target,iter,ifs,0⟩] csc pos) csc env p (newList []) false (eval iter env) _) Q E s)
 refine a1d (evt:=fun ρ=>evT Φ m csc ρ) (evx:=fun ρ=>evE Φ m csc ρ) R.hh G.K hc (fun xs k q h=>by rw [h] at ht;cases ht) (ih.s env sc X' st.ρ target iter st.σ ds live σs G.K ht e3) hr
  (fun env' X' K' ρ'=>ih.t env' csc X' ρ' K') (fun env' X' K' ρ'=>ih.e env' csc X' ρ' K') e4 b.srel b.er fun D₀ L α' s' Xc up xL xD nD nL ne S r' nsL ac=>?_
 let Xl:Addr→Prop:=fun a=>X' a∨a=L
 have upl:∀a,X' a→Xl a:=fun a=>.inl
 have lc:∀a,Xl a→Xc a:=fun a x=>x.elim (up a) fun q=>q▸xL
 have Gl:BlkOk C env sc X Xl α₀ σ₀ s₀:=⟨G.r₀,G.K.widen upl,fun a x=>upl a (G.up a x),G.own⟩
 have bs:=b.next G S
 have nX:∀a,s.heap.objs.size≤a→¬X' a:=fun a ha x=>absurd (b.srel.xLt a x) (Nat.not_lt.mpr ha)
 have erl:b0 C env st.ρ Xl α' σ₂ s'.heap:=fun y v hy=>by
  refine ar (b.er y v hy) ?_;intro u h1 h2
  refine ⟨u,h1.keep (fun o e=>S.keep _ o (dp b.srel G.K.xL) G.K.nP.1 e) (fun z c hz o e=>S.keep c o (dp b.srel (G.K.xC z c hz)) (G.K.nP.2 z c hz) e),?_⟩
  refine h2.mono (fun c o nb e=>S.kept b.srel c o nb e) (fun c o e nb m=>?_) S.alpha
  rcases m with (m|m)|m
  ·exact nb (.inl m)
  ·exact absurd (Heap.lt_size e) (by rw [m];exact Nat.not_lt.mpr nL)
  ·exact (S.muts c m).elim (fun m=>nb (.inr m)) fun q=>absurd (Heap.lt_size e) (Nat.not_lt.mpr q)
 refine dz ac.ex ?_;intro vs a1 a2 a3
 have nmD:¬Mut σ₂ α' D₀:=dp r' xD
 have fin:∀α'' (ρ'':Rho) s'',Blk C env sc X Xl α₀ σ₀ s₀ ρ'' α'' σ₁ s''→BStep C env sc α st.σ s α'' σ₁ s''→j6 sc ρ''→ρ''=ρ₁→∀h',Heap.SameBut L s''.heap h'→Q .none {s'' with heap:=h'}:=by
  rintro α'' ρ'' s'' b'' B'' hs'' rfl h' sb
  have nL':s₀.heap.objs.size≤L:=Nat.le_trans b.step.grow nL
  have b3:=b''.poke (Y:=fun a=>a=L) Gl (fun a ha=>⟨.inr ha,ha▸nL'⟩) (fun a ha=>⟨fun q=>nX L nL (by rw [←ha,q];exact G.K.xL),fun y q=>nX L nL (by rw [←ha];exact G.K.xC y a q)⟩) (fun a o n e=>(sb.2 a n).trans e) (Nat.le_of_eq sb.1.symm) s''.toks
  exact h α'' _ (b3.narrow upl b.srel.xP) (B''.poke (Y:=fun a=>a=L) (fun a ha=>ha▸nL) (fun a o n e=>(sb.2 a n).trans e) (Nat.le_of_eq sb.1.symm)) hs''
 have go:∀α'',Blk C env sc X Xl α₀ σ₀ s₀ st.ρ α'' σ₁ s'→BStep C env sc α st.σ s α'' σ₁ s'→RepV C s'.heap (Bad Xl σ₁ α'') α'' (.ref D₀) W→
   wpAny (model C.prog C.w) A (assign (.Name x tp) env (.ref D₀)) (fun _ s''=>∃m,s''.heap.Ns L m∧∀h',Heap.SameBut L s''.heap h'→Q .none {s'' with heap:=h'}) E s':=by
  intro α'' bl Bl rw_
  have bl':Blk C env sc X Xl α₀ σ₀ s₀ (st.ρ++[]) α'' σ₁ s':=by rw [List.append_nil];exact bl
  refine ny (τ:=[]) Gl bl' (hs x (Rho.set_in e1)) e1 rw_ fun h' t' hk sz b₁=>?_
  rw [List.append_nil] at b₁
  refine ex1 nsL ?_;clear nsL;intro m hm
  refine ⟨m,hm.at' fun o e=>hk L o (fun o=>nX L nL (t6 G.K o)) e,fin α'' ρ₁ _ b₁ (Bl.trans (BStep.own hk sz)) (hs.of_keys (Rho.set_get (τ:=[]) e1).2) rfl⟩
 cases mk with
 |false=>
  cases e
  refine go α' ⟨bs.step,r'.narrow lc (upl _ b.srel.xP),erl,bs.at_⟩ (BStep.of S) (.d (.list a1 (fun q=>?_) a3 (a2.mono (fun _ _ _ e=>e) fun c o _ nb m=>nb (m.imp (lc c) id))))
  rcases q with (q|q)|q
  ·exact nX D₀ nD q
  ·exact ne q
  ·exact nmD q
 |true=>
  have hL:pc C X' α' σ₂ s s' (.ref D₀) out:=by
   refine ⟨D₀,vs,rfl,nD,a1,a3,a2.mono (fun _ _ _ e=>e) fun c o _ nb m=>nb ?_,r'.narrow (fun a x=>x.elim (up a) fun q=>q▸xD) (.inl b.srel.xP)⟩
   rcases m with (m|m)|m
   ·exact .inl (up c m)
   ·exact .inr m
   ·exact .inl (m▸xD)
  have len:=r'.len
  have eW:W=(σ₂.alloc (.list out)).1∧σ₁=(σ₂.alloc (.list out)).2:=by cases e;exact ⟨rfl,rfl⟩
  have S2:Step C X' α st.σ s (α'++[(D₀,D₀)]) (σ₂.alloc (.list out)).2 s':=by
   obtain ⟨a,vs',ha,h1,h2,h3,h4,h5⟩:=hL
   cases ha
   refine Step.adopt (p:=(D₀,D₀)) (h':=s'.heap) b.srel S h5 (fun b=>by simp) h1 h1 (fun _ _ _ _ e=>e) (Nat.le_refl _) ?_ s'.toks
   refine ⟨rfl,vs',h2,h3,h4.mono (fun _ _ _ e=>e) fun b o _ nb m=>nb ?_⟩
   rcases m with m|m
   ·exact .inl (.inl m)
   ·rcases Mut.alloc_sub len b m with m|m|m
    ·exact .inl (.inr m)
    ·exact .inr m
    ·exact .inr m
  have rl:SRel C Xl (α'++[(D₀,D₀)]) (σ₂.alloc (.list out)).2 s'.heap:=by
   refine SRel.adopt (X':=fun a=>Xl a∨a=D₀) (p:=(D₀,D₀)) (r'.narrow (fun a x=>x.elim (lc a) fun q=>q▸xD) (.inl (upl _ b.srel.xP))) (fun a=>by simp) (fun q=>q.elim (nX D₀ nD) fun q=>ne q) (fun q=>q.elim (nX D₀ nD) fun q=>ne q) (upl _ b.srel.xP) ?_
   refine ⟨rfl,vs,a1,a3,a2.mono (fun _ _ _ e=>e) fun c o _ nb m=>nb ?_⟩
   rcases m with m|m
   ·exact .inl (lc c m)
   ·rcases Mut.alloc_sub len c m with m|m|m
    ·exact .inr m
    ·exact .inl (m▸xD)
    ·exact .inl (m▸xD)
  refine bk eW ?_;clear eW;intro rf0 rf1;subst rf0;subst rf1
  have b2:=b.next G S2
  have er2:b0 C env st.ρ Xl (α'++[(D₀,D₀)]) (σ₂.alloc (.list out)).2 s'.heap:=fun y v hy=>by
   refine ar (b.er y v hy) ?_;intro u h1 h2
   refine ⟨u,h1.keep (fun o e=>S.keep _ o (dp b.srel G.K.xL) G.K.nP.1 e) (fun z c hz o e=>S.keep c o (dp b.srel (G.K.xC z c hz)) (G.K.nP.2 z c hz) e),?_⟩
   refine h2.mono (fun c o nb e=>S.kept b.srel c o nb e) (fun c o e nb m=>?_) S2.alpha
   rcases m with (m|m)|m
   ·exact nb (.inl m)
   ·exact absurd (Heap.lt_size e) (by rw [m];exact Nat.not_lt.mpr nL)
   ·exact (S2.muts c m).elim (fun m=>nb (.inr m)) fun q=>absurd (Heap.lt_size e) (Nat.not_lt.mpr q)
  exact go _ ⟨b2.step,rl,er2,b2.at_⟩ (BStep.of S2) (.m (p:=(D₀,D₀)) (xj len))
end
noncomputable def ag0 (value t:Expr) (line:Nat) (env:Env):Prop:=∃b,swapsWith value (some t) line env=pure b∧(b=true→(∃x p,t=.Name x p)∧((∃elt gens csc p,value=.ListComp elt gens csc p)∨(∃elt gens csc p,value=.SetComp elt gens csc p)∨∃k v gens csc p,value=.DictComp k v gens csc p))
theorem xb{value t:Expr}{line:Nat}{env:Env}(e:swapsWith value (some t) line env=pure false):ag0 value t line env:=⟨false,e,fun q=>by cases q⟩
theorem zv (value t:Expr)(line:Nat)(env:Env):ag0 value t line env:=by
 cases value
 case ListComp elt gens csc p=>cases t<;>first|exact xb rfl|exact⟨_,rfl,fun _=>⟨⟨_,_,rfl⟩,.inl ⟨_,_,_,_,rfl⟩⟩⟩
 case SetComp elt gens csc p=>cases t<;>first|exact xb rfl|exact⟨_,rfl,fun _=>⟨⟨_,_,rfl⟩,.inr (.inl ⟨_,_,_,_,rfl⟩)⟩⟩
 case DictComp k v gens csc p=>cases t<;>first|exact xb rfl|exact⟨_,rfl,fun _=>⟨⟨_,_,rfl⟩,.inr (.inr ⟨_,_,_,_,_,rfl⟩)⟩⟩
 all_goals exact xb rfl
section
variable{C:Cfg}{A:Around}{Φ:Fx}{env:Env}{X X':Addr→Prop}{sc:Scope}{ρ ρ':Rho}{σ σ' σ₀:Sto}{α α' α₀:a7}{s s' s₀:Shared}{E:Value→Shared→Prop}{muts:List Str}
theorem a93 (R:RunOk C A Φ) (K:EnvOk C env sc X){n:Nat}{t x:Expr}{V:V}(e:evR Φ n muts sc ρ t x σ=some (V,σ')):x7 C A env X ρ false (eval x env) σ V σ':=by
 have he:evE Φ n sc ρ x σ=some (V,σ')→x7 C A env X ρ false (eval x env) σ V σ':=fun e E Q s α r er h=>(gl R n).e env sc X ρ K x σ V σ' e E Q s α r er fun v α' s' S Rv _=>h v α' s' S Rv fun q=>by cases q
 have hm:evM Φ n sc ρ x σ=some (V,σ')→x7 C A env X ρ false (eval x env) σ V σ':=fun e=>(gl R n).m env sc X ρ K x σ V σ' e
 cases t with
 |Name y p=>exact ai e (fun _ e=>hm e) fun _ e=>he e
 |_=>exact hm e
theorem a0d (R:RunOk C A Φ){x tgt:Expr}{p:Pos}{t t':St}{fl:Fl}(e:((evR Φ ak muts sc t.ρ tgt x t.σ).bind fun p=>(ch Φ ak sc tgt p.1 ⟨t.ρ,p.2⟩).map fun s=>(Fl.next,s))=some (fl,t')):
  o6 C A env sc X α₀ σ₀ s₀ (exec (.Assign [tgt] x p) env) t fl t':=by
 intro X' α s E Q G b hs h
 refine ag e ?_;clear e;intro V₁ σ₁ e1 e
 refine de e ?_;clear e;intro t₁ e2 e
 cases e
 have star:∀y q,tgt≠.Starred y q:=fun y q z=>by rw[z] at e2;exact no e2
 have each:(assignEach [tgt] env).map (·.2)=[assign tgt env]:=by rw[cy (by intro t ht;rw[List.mem_singleton.mp ht];exact star)];rfl
 have nosw:swappedStores [tgt] x env=pure none:=by
  cases tgt<;>first|exact no e2|rfl|(cases x<;>rfl)
 rw[exec_Assign,each,nosw]
 refine wpAny_bind (wpAny_standAt ?_)
 refine ar (zv x tgt p.line env) ?_;intro sw hsw hsw'
 show wpAny _ A (swapsWith x (some tgt) p.line env >>=_) Q E s
 rw[hsw]
 refine wpAny_bind (wpAny_pure ?_)
 cases sw with
 |false=>
  rw[if_neg (by decide)]
  refine wpAny_bind ((a93 R G.K e1).then G.K b.srel b.er fun v α₁ s₁ S Rv r₁ er₁=>?_)
  refine wpAny_bind (wpAny_pure ?_)
  show wpAny _ A (do assign tgt env v;pure .next) Q E s₁
  refine wpAny_bind (w6 R G (st:=⟨t.ρ,σ₁⟩) e2 (b.next G S) hs Rv fun α₂ s₂ b₂ B₂ hs₂=>wpAny_pure ?_)
  exact h α₂ .next s₂ b₂ ((BStep.of S).trans B₂) hs₂ trivial
 |true=>
  rw[if_pos rfl]
  refine bk (hsw' rfl) ?_;intro pq0 hv;obtain⟨y,tp,rfl⟩:=pq0
  have bad:∀{n:Nat},((∃elt gens csc p,x=.SetComp elt gens csc p)∨∃k v gens csc p,x=.DictComp k v gens csc p)→evE Φ n sc t.ρ x t.σ=none:=by
   rintro n (⟨_,_,_,_,rfl⟩|⟨_,_,_,_,_,rfl⟩)<;>cases n<;>rfl
  refine de (show(Rho.set y V₁ t.ρ).map (fun ρ=>(⟨ρ,σ₁⟩:St))=some t' from e2) ?_;intro ρ₁ e3 e4
  subst e4
  rcases hv with⟨elt,gens,csc,q,rfl⟩|hv
  ·show wpAny _ A (do(do let _←comprehension (.ListComp elt gens csc q) csc env (firstIterPos gens q) (newList []) (firstAsync gens) (firstIter gens env) (some fun v=>assign (.Name y tp) env v));pure Flow.next) Q E s
   refine wpAny_bind (wpAny_bind ?_)
   refine ai e1 (fun _ e1=>?_) fun _ e1=>?_
   ·refine z7 R G (mk:=true) (n:=39) (W:=V₁) (σ₁:=σ₁) (st:=t) ?_ e3 b hs fun α₂ s₂ b₂ B₂ hs₂=>wpAny_pure (wpAny_pure (h α₂ .next s₂ b₂ B₂ hs₂ trivial))
    exact e1
   ·refine z7 R G (mk:=false) (n:=40) (W:=V₁) (σ₁:=σ₁) (st:=t) ?_ e3 b hs fun α₂ s₂ b₂ B₂ hs₂=>wpAny_pure (wpAny_pure (h α₂ .next s₂ b₂ B₂ hs₂ trivial))
    have e1':evE Φ 40 sc t.ρ (.ListComp elt gens csc q) t.σ=some (V₁,σ₁):=e1
    rw[e1']
    rfl
  ·exfalso
   refine ai e1 (fun _ e1=>?_) fun _ e1=>?_
   ·have:((evE Φ 39 sc t.ρ x t.σ).bind fun p=>some (if gx x then a6k p.2 p.1 else p))=some (V₁,σ₁):=e1
    rw[bad hv] at this
    cases this
   ·rw[bad hv] at e1;cases e1
theorem ad1 (R:RunOk C A Φ){x:Expr}{p:Pos}{t t':St}{fl:Fl}(e:(if gx x then none else(evE Φ ak sc t.ρ x t.σ).map fun p=>(Fl.next,(⟨t.ρ,p.2⟩:St)))=some (fl,t')):o6 C A env sc X α₀ σ₀ s₀ (exec (.Expr x p) env) t fl t':=by
 intro X' α s E Q G b hs h
 refine ai e (fun _ e=>no e) fun hf e=>?_
 refine nt e ?_;clear e;intro V₁ σ₁ e1 e
 (revert h;apply re2 e;clear e;intro h)
 have hi:interactive env=false:=by unfold interactive;rw[G.K.kind];rfl
 have hs':swapsWith x none p.line env=pure false:=by
  clear R e
  cases x<;>first|rfl|exact absurd rfl hf|exact no e1
 rw[exec_Expr env x p hi hs']
 refine wpAny_bind (wpAny_standAt (wpAny_bind (((gl R ak).e env sc X' t.ρ G.K x _ _ _ e1).then G.K b.srel b.er fun v α₁ s₁ S Rv r₁ er₁=>wpAny_dropValue ?_)))
 exact h α₁ .next s₁ (b.next G S) (BStep.of S) hs trivial
theorem a0i (R:RunOk C A Φ){x:Expr}{ts:List Expr}{k:_}{q p:Pos}{t t':St}{fl:Fl}(hx:∀es k p,x≠.Tuple es k p) (e:((evE Φ ak sc t.ρ x t.σ).bind fun p=>match p.1 with
   |.d x=>(aj 4 (.Tuple ts k q) x t.ρ).map fun ρ=>(Fl.next,(⟨ρ,p.2⟩:St))
   |_=>none)=some (fl,t')):o6 C A env sc X α₀ σ₀ s₀ (exec (.Assign [.Tuple ts k q] x p) env) t fl t':=by
 intro X' α s E Q G b hs h
 refine ag e ?_;clear e;intro V₁ σ₁ e1 e
 cases V₁ with
 |d d=>
  refine de e ?_;clear e;intro ρ₁ e2 e
  (revert h;apply re2 e;clear e;intro h)
  refine ar (zv x (.Tuple ts k q) p.line env) fun sw hsw hsw'=>?_
  have hsw0:swapsWithSole [.Tuple ts k q] x p.line env=pure false:=by
   clear R hx
   cases sw with
   |false=>exact hsw
   |true=>obtain⟨⟨y,z,hyz⟩,_⟩:=hsw' rfl;cases hyz
  have nosw:swappedStores [.Tuple ts k q] x env=pure none:=by cases x<;>first|rfl|exact absurd rfl (hx _ _ _)
  refine Assign_Tuple (((gl R ak).e env sc X' t.ρ G.K x _ _ _ e1).then G.K b.srel b.er fun v α₁ s₁ S Rv r₁ er₁=>?_) hsw0 nosw
  have b₁:Blk C env sc X X' α₀ σ₀ s₀ (t.ρ++[]) α₁ σ₁ s₁:=by rw [List.append_nil];exact b.next G S
  refine nj (τ:=[]) R.hh G 4 _ d t.ρ ρ₁ s₁ v _ e2 hs b₁ Rv.data fun h' tk hk sz b₂=>?_
  rw [List.append_nil] at b₂
  exact h α₁ .next _ b₂ ((BStep.of S).trans (BStep.own hk sz)) (hs.of_keys (je 4 e2)) trivial
 |m _=>exact no e
theorem afi (R:RunOk C A Φ) {x:Expr}{y:Str}{q p:Pos}{op:Operator}{t t':St}{fl:Fl}(e:(if !oy op then none else(t.ρ.get y).bind fun v=>match v with
   |.d a=>(evE Φ ak sc t.ρ x t.σ).bind fun p=>match p.1 with
    |.d (.int b)=>(match a with|.int _=>(f9 op a (.int b)).bind fun r=>(t.ρ.set y (.d r)).map fun ρ=>(Fl.next,(⟨ρ,p.2⟩:St))|_=>none)
    |_=>none
   |_=>none)=some (fl,t')):o6 C A env sc X α₀ σ₀ s₀ (exec (.AugAssign (.Name y q) op x p) env) t fl t':=by
 intro X' α s E Q G b hs h
 refine ai e (fun _ e=>no e) fun hop e=>?_
 refine bj e ?_;clear e;intro v e1 e
 cases v with
 |d a=>
  refine ag e ?_;clear e;intro V₁ σ₁ e2 e
  rcases V₁ with(_|_|z|_|_|_|_|_)|_<;>try exact no e
  ·cases a with
   |int z₀=>
    refine bj e ?_;clear e;intro r e3 e
    refine de e ?_;clear e;intro ρ₁ e4 e
    (revert h;apply re2 e;clear e;intro h)
    refine ar (b.er y _ e1) ?_;intro u hu ru
    have ld:∀{Q:Value→Shared→Prop},Q u s→wpAny (model C.prog C.w) A (loadName env y) Q E s:=fun hq=>by
     clear R e
     rcases hu with⟨h1,m,hm,hmu⟩|⟨h1|h1,c,hc,hcu⟩
     ·exact wpAny_loadName_local G.K.kind h1 hm hmu hq
     ·exact wpAny_loadName_cell G.K.kind h1 hc hcu hq
     ·refine wpAny_loadName_free G.K.kind h1 hc hcu hq ?_
      rw[beq_eq_false_iff_ne]
      intro q
      rw[q,G.K.cdict]at h1
      cases h1
    refine wpAny_AugAssign_Name (ld (((gl R ak).e env sc X' t.ρ G.K x _ _ _ e2).then G.K b.srel b.er fun v₁ α₁ s₁ S Rv r₁ er₁=>?_))
    have ru':=S.repV b.srel ru
    have b₁:=b.next G S
    have store:∀(tk:Nat) (w:Value),RepD C s₁.heap (Bad X' σ₁ α₁) w r→wpAny (model C.prog C.w) A (storeName env y w) (fun _=>Q .next) E {s₁ with toks:=tk}:=fun tk w rw_=>by
     have S₂:=Step.tok r₁ (C:=C) (X:=X') (α:=α₁) (σ:=σ₁) (s:=s₁) tk
     have b₂:Blk C env sc X X' α₀ σ₀ s₀ (t.ρ++[]) α₁ σ₁ {s₁ with toks:=tk}:=by rw[List.append_nil];exact b₁.next G S₂
     refine qr (τ:=[]) G b₂ (hs y (Rho.set_in e4)) e4 (.d rw_) fun h' tk' hk sz b₃=>?_
     rw[List.append_nil]at b₃
     exact h α₁ .next _ b₃ (((BStep.of S).trans (BStep.of S₂)).trans (BStep.own hk sz)) (hs.of_keys (Rho.set_get (τ:=[]) e4).2) trivial
    clear R e
    (refine gd Rv.data ?_;intro _ hq;subst hq)
    (refine gd ru'.data ?_;intro _ hq;subst hq)
    cases op<;>first|exact absurd rfl hop|skip
    ·cases(show some (D.int (z₀+z))=some r from e3)
     exact PySem.P.iadd_int (store _ _ (.int _ _))
    ·cases(show some (D.int (z₀-z))=some r from e3)
     exact PySem.P.isub_int (store _ _ (.int _ _))
   |_=>exact no e
 |m _=>exact no e
end
noncomputable def jp:List (Str×V)→Rho→Option Rho
 |[],ρ=>some ρ
 |(x,v)::r,ρ=>(Rho.set x v ρ).bind (jp r)
theorem a90:∀{ρ:Rho}{x:Str}{v:V},(ρ.lookup x).isSome=true→∃ρ',Rho.set x v ρ=some ρ'
 |[],x,v,h=>by cases h
 |(y,u)::r,x,v,h=>by
  show∃ρ',(if(y==x)=true then some ((y,some v)::r)else(Rho.set x v r).map ((y,u)::·))=some ρ'
  by_cases q:(y==x)=true
  ·rw[if_pos q];exact⟨_,rfl⟩
  ·rw[if_neg q]
   rw[List.lookup_cons]at h
   have e:(x==y)=false:=by
    have:y≠x:=by simpa using q
    simpa using fun z=>this z.symm
   rw[e]at h
   obtain⟨ρ',e'⟩:=a90 (v:=v) h
   exact⟨(y,u)::ρ',by rw[e'];rfl⟩
theorem vt:∀(l:List (Str×V)) (ρ ρ':Rho),jp l ρ=some ρ'→∀y,(ρ'.lookup y).isSome=(ρ.lookup y).isSome
 |[],ρ,ρ',e,y=>by(apply j8 e;clear e);rfl
 |(x,v)::r,ρ,ρ',e,y=>by
  refine bj e ?_;clear e;intro ρ₁ e1 e2
  rw[vt r ρ₁ ρ' e2 y,(Rho.set_get (τ:=[]) e1).2 y]
theorem yx:∀(l:List (Str×V)) (ρ:Rho),(∀p∈l,(ρ.lookup p.1).isSome=true)→∃ρ',jp l ρ=some ρ'
 |[],ρ,_=>⟨ρ,rfl⟩
 |(x,v)::r,ρ,h=>by
  obtain⟨ρ₁,e1⟩:=a90 (v:=v) (h (x,v) (.head _))
  obtain⟨ρ',e2⟩:=yx r ρ₁ fun p hp=>by rw[(Rho.set_get (τ:=[]) e1).2];exact h p (.tail _ hp)
  exact⟨ρ',(congrArg (Option.bind · (jp r)) e1).trans e2⟩
theorem a1g:∀(l:List (Str×V)) (ρ ρ':Rho),jp l ρ=some ρ'→∀p∈l,(ρ.lookup p.1).isSome=true
 |[],ρ,ρ',e,p,h=>by cases h
 |(x,v)::r,ρ,ρ',e,p,h=>by
  refine bj e ?_;clear e;intro ρ₁ e1 e2
  rcases List.mem_cons.mp h with rfl|h
  ·exact Rho.set_in e1
  ·rw[←(Rho.set_get (τ:=[]) e1).2];exact a1g r ρ₁ ρ' e2 p h
theorem qo:∀(l:List (Str×V)) (ρ ρ':Rho),(l.map (·.1)).Nodup→jp l ρ=some ρ'→∀y,Rho.get ρ' y=match l.lookup y with|some v=>some v|none=>Rho.get ρ y
 |[],ρ,ρ',_,e,y=>by cases e;rfl
 |(x,v)::r,ρ,ρ',hn,e,y=>by
  refine bj e ?_;clear e;intro ρ₁ e1 e2
  rw[List.map_cons,List.nodup_cons]at hn
  rw[qo r ρ₁ ρ' hn.2 e2 y,List.lookup_cons]
  have g:=(Rho.set_get (τ:=[]) e1).1 y
  rw[List.append_nil,List.append_nil]at g
  by_cases h:y=x
  ·subst h
   have nr:r.lookup y=none:=ey fun c m=>hn.1 (List.mem_map_of_mem (f:=(·.1)) m)
   rw[nr]
   simp only[beq_self_eq_true]
   rw[g,if_pos rfl]
  ·have e:(y==x)=false:=by simpa using h
   rw[e]
   rw[if_neg h]at g
   cases r.lookup y with
   |none=>exact g
   |some w=>rfl
theorem l9{l:List (Str×V)}(hn:(l.map (·.1)).Nodup){x:Str}{v:V}(h:(x,v)∈l):l.lookup x=some v:=by
 induction l with
 |nil=>cases h
 |cons p r ih=>
  obtain⟨y,u⟩:=p
  rw[List.map_cons,List.nodup_cons]at hn
  rw[List.lookup_cons]
  rcases List.mem_cons.mp h with e|h
  ·(revert h;apply re2 e;clear e;intro h);simp
  ·have:x≠y:=fun q=>hn.1 (q▸List.mem_map_of_mem (f:=(·.1)) h)
   have e:(x==y)=false:=by simpa using this
   rw[e];exact ih hn.2 h
theorem a7m{l:List (Str×V)}(hn:(l.map (·.1)).Nodup) (y:Str):l.reverse.lookup y=l.lookup y:=by
 have hn':(l.reverse.map (·.1)).Nodup:=by rw[List.map_reverse];exact List.pairwise_reverse.mpr (List.Pairwise.imp (fun h q=>h q.symm) hn)
 cases e:l.lookup y with
 |some v=>exact l9 hn' (List.mem_reverse.mpr (mem_of_lookup e))
 |none=>exact ey fun c m=>by rw[l9 hn (List.mem_reverse.mp m)]at e;cases e
theorem a4s{kind:Str→Option NameKind}{line:Nat}:∀{ts:List Expr}{names:List Str},ts.filterMap (a1s kind line)=names→names.length=ts.length→∃ps:List Pos,ps.length=names.length∧ts=(names.zip ps).map fun p=>Expr.Name p.1 p.2
 |[],names,e,h=>by (revert h;apply re1 e;clear e;intro h);exact⟨[],rfl,rfl⟩
 |t::ts,names,e,h=>by
  have bad:ts.filterMap (a1s kind line)=names→∃ps:List Pos,ps.length=names.length∧t::ts=(names.zip ps).map fun p=>Expr.Name p.1 p.2:=fun e=>
   absurd (Nat.le_trans (Nat.le_of_eq (h.symm.trans (congrArg _ e.symm))) (List.length_filterMap_le (a1s kind line) ts)) (Nat.not_succ_le_self _)
  cases t with
  |Name id pos=>
   by_cases q:(kind id==some .local&&pos.line==line)=true
   ·have hf:a1s kind line (.Name id pos)=some id:=if_pos q
    rw[List.filterMap_cons_some hf]at e
    clear bad
    subst e
    refine ar (a4s (kind:=kind) (line:=line) (ts:=ts) rfl (Nat.succ.inj h)) ?_;intro ps h1 h2
    exact⟨pos::ps,congrArg Nat.succ h1,congrArg (_::·) h2⟩
   ·have hf:a1s kind line (.Name id pos)=none:=if_neg q
    rw[List.filterMap_cons_none hf]at e
    exact bad e
  |_=>exact bad e
section
variable{C:Cfg}{A:Around}{Φ:Fx}{env:Env}{X X':Addr→Prop}{sc:Scope}{ρ ρ':Rho}{σ σ' σ₀:Sto}{α α' α₀:a7}{s s' s₀:Shared}{E:Value→Shared→Prop}{muts:List Str}
theorem sw5{β γ:Type}{c1 c2 c3 c4 c5:Prop}[Decidable c1][Decidable c2][Decidable c3][Decidable c4][Decidable c5]{f:Option β→γ}{a:β}{u:γ}{r:Option β}(e:(if c1 then some none else if c2 then some none else if c3 then some none else if c4 then some none else if c5 then none else some (some a))=some r):
  (if c1 then f none else if c2 then f none else if c3 then f none else if c4 then f none else if c5 then u else f (some a))=f r:=by
 refine ai e (fun h e=>?_) fun h e=>?_
 ·rw[if_pos h];cases e;rfl
 rw[if_neg h];clear h
 refine ai e (fun h e=>?_) fun h e=>?_
 ·rw[if_pos h];cases e;rfl
 rw[if_neg h];clear h
 refine ai e (fun h e=>?_) fun h e=>?_
 ·rw[if_pos h];cases e;rfl
 rw[if_neg h];clear h
 refine ai e (fun h e=>?_) fun h e=>?_
 ·rw[if_pos h];cases e;rfl
 rw[if_neg h];clear h
 refine ai e (fun h e=>?_) fun h e=>?_
 ·exact no e
 rw[if_neg h];cases e;rfl
theorem zm{ts vs:List Expr}{k k2:_}{q p:Pos}{r:Option (List Str)}(hk:env.scope.kind=.function) (e:a3s env.kindOf ts vs=some r):swappedStores [.Tuple ts k q] (.Tuple vs k2 p) env=pure r:=by
 have hb:env.blockKind=.function:=by unfold Env.blockKind;rw[hk];rfl
 unfold swappedStores
 rw[hb]
 dsimp only
 rw[show(ScopeKind.function !=ScopeKind.function)=false from rfl,Bool.or_false]
 exact sw5 (f:=pure) e
theorem adc{n:Nat}{y:Expr}{q:Pos}{r:V×Sto}(t:Expr):¬evR Φ n muts sc ρ t (.Starred y q) σ=some r:=by
 have h1:∀m,evE Φ m sc ρ (.Starred y q) σ=none:=fun m=>by cases m<;>rfl
 have h2:∀m,evM Φ m sc ρ (.Starred y q) σ=none:=fun m=>by
  cases m with
  |zero=>rfl
  |succ m=>exact congrArg (fun o=>Option.bind o _) (h1 m)
 intro e
 have hm:evM Φ n sc ρ (.Starred y q) σ=some r→False:=fun e=>by rw[h2]at e;exact no e
 have he:evE Φ n sc ρ (.Starred y q) σ=some r→False:=fun e=>by rw[h1]at e;exact no e
 cases t with
 |Name x p=>exact ai e (fun _ e=>hm e) fun _ e=>he e
 |_=>exact hm e
theorem acy (R:RunOk C A Φ) (K:EnvOk C env sc X){n:Nat}{p:Pos}:∀(ts es:List Expr) (σ:Sto) (Ws:List V) (σ':Sto),aan Φ n muts sc ρ ts es σ=some (Ws,σ')→
  ts.length=es.length∧∀(E:Value→Shared→Prop) (Q:List Value→Shared→Prop) (s:Shared) (α:a7),SRel C X α σ s.heap→b0 C env ρ X α σ s.heap→
   (∀vs α' s',Step C X α σ s α' σ' s'→RepVs C s'.heap (Bad X σ' α') α' vs Ws→vs.length=es.length→Q vs s')→wpAny (model C.prog C.w) A (spliced (backTo p (starEach es env))) Q E s
 |[],[],σ,Ws,σ',e=>by
  refine⟨rfl,fun E Q s α r er h=>?_⟩
  revert h;apply du e;clear e;intro h
  exact args_nil (h _ _ _ (Step.refl r) .nil rfl)
 |t::ts,x::rest,σ,Ws,σ',e=>by
  refine ag e ?_;clear e;intro V₁ σ₁ e1 e
  refine nt e ?_;clear e;intro Vs σ₂ e2 e
  (apply re2 e;clear e)
  refine bk (acy R K (p:=p) ts rest σ₁ Vs _ e2) ?_;intro hl ih
  refine⟨by simp[hl],fun E Q s α r er h=>?_⟩
  have ns:∀y q,x≠.Starred y q:=fun y q z=>by
   exact absurd (z▸e1) (adc t)
  refine args_cons ((a93 R K e1).then K r er fun v α₁ s₁ S Rv r₁ er₁=>?_) (um ns)
  exact ih E _ s₁ α₁ r₁ er₁ fun vs α₂ s₂ S' Rs hv=>h _ _ _ (S.trans S') (.cons (S'.repV r₁ Rv) Rs) (by simp[hv])
 |[],_::_,σ,Ws,σ',e=>no e
 |_::_,[],σ,Ws,σ',e=>no e
end
section
variable{C:Cfg}{A:Around}{Φ:Fx}{env:Env}{X X':Addr→Prop}{sc:Scope}{ρ ρ':Rho}{σ σ' σ₀:Sto}{α α' α₀:a7}{s s' s₀:Shared}{E:Value→Shared→Prop}{muts:List Str}
theorem BStep.repVs (G:BlkOk C env sc X X' α₀ σ₀ s₀) (b:BStep C env sc α σ s α' σ' s') (hP:X' C.P){us:List Value}{vs:List V}(r:RepVs C s.heap (Bad X' σ α) α us vs):RepVs C s'.heap (Bad X' σ' α') α' us vs:=by
 induction r with
 |nil=>exact .nil
 |cons a _ ih=>exact .cons (b.repV G a hP) ih
theorem RepVs.append{h:Heap}{B:Addr→Prop}{us ws:List Value}{vs xs:List V}(r:RepVs C h B α us vs) (q:RepVs C h B α ws xs):RepVs C h B α (us++ws) (vs++xs):=by
 induction r with
 |nil=>exact q
 |cons a _ ih=>exact .cons a ih
theorem RepVs.reverse{h:Heap}{B:Addr→Prop}{us:List Value}{vs:List V}(r:RepVs C h B α us vs):RepVs C h B α us.reverse vs.reverse:=by
 induction r with
 |nil=>exact .nil
 |cons a _ ih=>rw[List.reverse_cons,List.reverse_cons];exact ih.append (.cons a .nil)
theorem RepVs.length{h:Heap}{B:Addr→Prop}{us:List Value}{vs:List V}(r:RepVs C h B α us vs):us.length=vs.length:=by
 induction r with
 |nil=>rfl
 |cons _ _ ih=>simp only[List.length_cons,ih]
theorem ot:∀(ts:List Expr)(Vs:List V)(n:Nat)(st st':St),ig Φ n sc ts Vs st=some st'→(∀t∈ts,∀y q,t≠.Starred y q)∧ts.length=Vs.length
 |[],[],n,st,st',e=>⟨fun t h=>(by cases h),rfl⟩
 |t::ts,v::vs,n,st,st',e=>by
  refine bj e ?_;clear e;intro st₁ e1 e2
  have:=ot ts vs n st₁ st' e2
  refine⟨fun t' ht y q z=>?_,by simp[this.2]⟩
  rcases List.mem_cons.mp ht with rfl|ht
  ·rw[z]at e1;exact no e1
  ·exact this.1 t' ht y q z
 |[],_::_,n,st,st',e=>no e
 |_::_,[],n,st,st',e=>no e
theorem tz (R:RunOk C A Φ) (G:BlkOk C env sc X X' α₀ σ₀ s₀){n:Nat}:∀(ts:List Expr) (Vs:List V) (ws:List Value) (st st':St) (α:a7) (s:Shared) (Q:Unit→Shared→Prop),ig Φ n sc ts Vs st=some st'→Blk C env sc X X' α₀ σ₀ s₀ st.ρ α st.σ s→j6 sc st.ρ→RepVs C s.heap (Bad X' st.σ α) α ws Vs→
  (∀α' s',Blk C env sc X X' α₀ σ₀ s₀ st'.ρ α' st'.σ s'→BStep C env sc α st.σ s α' st'.σ s'→j6 sc st'.ρ→Q () s')→wpAny (model C.prog C.w) A (assignInOrder (ts.map fun t=>assign t env) ws) Q E s
 |[],[],ws,st,st',α,s,Q,e,b,hs,rv,h=>by
  cases e
  cases rv
  exact wpAny_pure (h α s b .refl hs)
 |t::ts,v::vs,ws,st,st',α,s,Q,e,b,hs,rv,h=>by
  refine bj e ?_;clear e;intro st₁ e1 e2
  cases rv with
  |cons a rv=>
   show wpAny _ A (do holding _ (assign t env _);assignInOrder (ts.map fun t=>assign t env) _) Q E s
   refine wpAny_bind (wpAny_holding (w6 R G e1 b hs a fun α₁ s₁ b₁ B₁ hs₁=>?_))
   exact tz R G ts vs _ st₁ st' α₁ s₁ Q e2 b₁ hs₁ (B₁.repVs G b.srel.xP rv) fun α₂ s₂ b₂ B₂ hs₂=>h α₂ s₂ b₂ (B₁.trans B₂) hs₂
 |[],_::_,ws,st,st',α,s,Q,e,_,_,_,_=>no e
 |_::_,[],ws,st,st',α,s,Q,e,_,_,_,_=>no e
theorem a25 (G:BlkOk C env sc X X' α₀ σ₀ s₀):∀(l:List (Str×V)) (ws:List Value) (ρ ρ':Rho) (α:a7) (s:Shared) (Q:Unit→Shared→Prop),jp l ρ=some ρ'→Blk C env sc X X' α₀ σ₀ s₀ ρ α σ s→j6 sc ρ→RepVs C s.heap (Bad X' σ α) α ws (l.map (·.2))→
  (∀s',Blk C env sc X X' α₀ σ₀ s₀ ρ' α σ s'→BStep C env sc α σ s α σ s'→j6 sc ρ'→Q () s')→wpAny (model C.prog C.w) A (assignInOrder (l.map fun p=>bindName env p.1) ws) Q E s
 |[],ws,ρ,ρ',α,s,Q,e,b,hs,rv,h=>by
  simp only[jp,Option.some.injEq]at e
  subst e
  cases rv
  exact wpAny_pure (h s b .refl hs)
 |(x,v)::r,ws,ρ,ρ',α,s,Q,e,b,hs,rv,h=>by
  simp only[jp]at e
  refine bj e ?_;clear e;intro ρ₁ e1 e2
  rw[List.map_cons]at rv
  cases rv with
  |cons a rv=>
   show wpAny _ A (do holding _ (bindName env x _);assignInOrder (r.map fun p=>bindName env p.1) _) Q E s
   have b':Blk C env sc X X' α₀ σ₀ s₀ (ρ++[]) α σ s:=by rw[List.append_nil];exact b
   refine wpAny_bind (wpAny_holding (wpAny_bindName (qr (τ:=[]) G b' (hs x (Rho.set_in e1)) e1 a fun h' t' hk sz b₁=>?_)))
   rw[List.append_nil]at b₁
   have B₁:BStep C env sc α σ s α σ {s with heap:=h',toks:=t'}:=BStep.own hk sz
   exact a25 G r _ ρ₁ ρ' α _ Q e2 b₁ (hs.of_keys (Rho.set_get (τ:=[]) e1).2) (B₁.repVs G b.srel.xP rv) fun s₂ b₂ B₂ hs₂=>h s₂ b₂ (B₁.trans B₂) hs₂
theorem o9{n:Nat}:∀(names:List Str) (ps:List Pos) (Vs:List V) (st st':St),ps.length=names.length→ig Φ n sc ((names.zip ps).map fun p=>Expr.Name p.1 p.2) Vs st=some st'→st'.σ=st.σ∧jp (names.zip Vs) st.ρ=some st'.ρ∧Vs.length=names.length
 |[],[],[],st,st',_,e=>by cases e;exact⟨rfl,rfl,rfl⟩
 |x::names,p::ps,v::vs,st,st',h,e=>by
  refine bj e ?_;clear e;intro st₁ e1 e2
  refine de e1 ?_;clear e1;intro ρ₁ e3 e4
  subst e4
  refine f5 (o9 names ps vs _ st' (by simpa using h) e2) ?_;intro h1 h2 h3
  refine⟨h1,?_,by simp[h3]⟩
  simp only[List.zip_cons_cons,jp,e3,Option.bind_some]
  exact h2
 |[],[],_::_,st,st',_,e=>no e
 |_::_,_::_,[],st,st',_,e=>no e
 |[],_::_,_,st,st',h,e=>by simp at h
 |_::_,[],_,st,st',h,e=>by simp at h
theorem a2c (R:RunOk C A Φ) (hk:∀x,env.kindOf x=sc.names.lookup x) {ts es:List Expr} {k k2:_} {q q2 p:Pos} {t t':St} {fl:Fl} (e:(if 1000<es.length||!vj sc ts es then none else(aan Φ ak muts sc t.ρ ts es t.σ).bind fun p=>(ig Φ ak sc ts p.1 ⟨t.ρ,p.2⟩).map fun s=>(Fl.next,s))=some (fl,t')):
  o6 C A env sc X α₀ σ₀ s₀ (exec (.Assign [.Tuple ts k q] (.Tuple es k2 q2) p) env) t fl t':=by
 intro X' α s E Q G b hs h
 refine ai e (fun _ e=>no e) fun hc e=>?_
 have hc':es.length≤1000∧vj sc ts es=true:=by
  simp only[Bool.or_eq_true,decide_eq_true_eq,Bool.not_eq_true',not_or,Bool.not_eq_false] at hc
  exact⟨by exact aok hc,hc.2⟩
 refine ag e ?_;clear e;intro Vs σ₁ e1 e
 refine de e ?_;clear e;intro t₁ e2 e
 cases e
 refine bk (acy R G.K (p:=q2) ts es t.σ Vs σ₁ e1) ?_;intro hlen hRs
 refine bk (ot ts Vs _ _ _ e2) ?_;intro hstar hlv
 have hkf:(fun x=>sc.names.lookup x)=env.kindOf:=funext fun x=>(hk x).symm
 have sole:swapsWithSole [.Tuple ts k q] (.Tuple es k2 q2) p.line env=pure false:=rfl
 have mkT:∀{Q':Value→Shared→Prop},(∀vs α₁ s₁,Step C X' α t.σ s α₁ σ₁ s₁→RepVs C s₁.heap (Bad X' σ₁ α₁) α₁ vs Vs→vs.length=es.length→Q' (.ref s₁.heap.objs.size) {s₁ with heap:=s₁.heap.push {cls:=.type "tuple",data:=.seq vs.toArray}})→
   wpAny (model C.prog C.w) A (eval (.Tuple es k2 q2) env) Q' E s:=fun h'=>by
  refine Tuple_ (hRs E _ s α b.srel b.er fun vs α₁ s₁ S Rv hl=>?_)
  exact wpAny_newObj_type (h' vs α₁ s₁ S Rv hl) (by refine(?_:vs.toArray.size≤sizeLine);rw[List.size_toArray,hl];unfold sizeLine;omega)
 have drawn:∀(vs:List Value) (α₁:a7) (s₁:Shared) (Q':List Value→Shared→Prop),Step C X' α t.σ s α₁ σ₁ s₁→RepVs C s₁.heap (Bad X' σ₁ α₁) α₁ vs Vs→vs.length=es.length→
   (∀s₂,Step C X' α t.σ s α₁ σ₁ s₂→RepVs C s₂.heap (Bad X' σ₁ α₁) α₁ vs Vs→Q' vs s₂)→∀m,m=vs.length→wpAny (model C.prog C.w) A (unpackItems (.ref s₁.heap.objs.size) m none) Q' E {s₁ with heap:=s₁.heap.push {cls:=.type "tuple",data:=.seq vs.toArray}}:=by
  intro vs α₁ s₁ Q' S Rv hl h' m hm
  subst hm
  have S₂:=Step.push S.srel {cls:=.type "tuple",data:=.seq vs.toArray} s₁.toks
  have hT:(s₁.heap.push {cls:=.type "tuple",data:=.seq vs.toArray}).IsTuple s₁.heap.objs.size vs.toArray:=⟨_,Heap.get?_push_size _ rfl,rfl,0,rfl⟩
  have:=av (wpAny_unpackItems_tuple (prog:=C.prog) (w:=C.w) (s:={s₁ with heap:=s₁.heap.push {cls:=.type "tuple",data:=.seq vs.toArray}}) (E:=E) (Q:=fun l s₂=>_→Q' l s₂) R.hh hT fun h₃ hx sz=>by
   have kp:∀a o,(s₁.heap.push {cls:=.type "tuple",data:=.seq vs.toArray}).get? a=some o→h₃.get? a=some o:=fun a o e=>hx a o (fun q=>absurd (Heap.lt_size e) (by rw[q];exact Nat.lt_irrefl _)) e
   have S₃:=Step.keepAll S₂.srel kp sz s₁.toks
   exact h' _ ((S.trans S₂).trans S₃) (S₃.repVs S₂.srel (S₂.repVs S.srel Rv)))
  simpa using this
 have so:=hc'.2
 have so:(match a3s env.kindOf ts es with|none=>false|some none=>true|some (some names)=>decide names.Nodup)=true:=hkf▸so
 cases hsw:a3s env.kindOf ts es with
 |none=>rw[hsw] at so;cases so
 |some r=>
 rw[hsw] at so
 cases r with
 |none=>
  clear so
  refine Assign_Tuple (mkT fun vs α₁ s₁ S Rv hl=>?_) sole (zm G.K.kind hsw)
  have hn':(assignEach ts env).length=vs.length:=by rw[cy hstar,List.length_map];exact am8 hlen hl
  have hst:(assignEach ts env).findIdx? (·.1)=none:=by rw[cy hstar];simp[List.findIdx?_eq_none_iff]
  rw[assign_Tuple]
  refine wpAny_bind (wpAny_standAt ?_)
  unfold unpack
  rw[hst]
  refine wpAny_bind (wpAny_holding (drawn vs α₁ s₁ _ S Rv hl (fun s₂ S₂ Rv₂=>?_) _ hn'))
  have em:(assignEach ts env).map (·.2)=ts.map fun t=>assign t env:=by rw[cy hstar,List.map_map];rfl
  rw[em]
  exact tz R G ts Vs vs ⟨t.ρ,σ₁⟩ t' α₁ s₂ _ e2 (b.next G S₂) hs Rv₂ fun α₃ s₃ b₃ B₃ hs₃=>h α₃ .next s₃ b₃ ((BStep.of S₂).trans B₃) hs₃ trivial
 |some names=>
  have hnd:names.Nodup:=of_decide_eq_true so
  clear so
  have hnames:∃ps:List Pos,ps.length=names.length∧ts=(names.zip ps).map fun p=>Expr.Name p.1 p.2:=by
   have bad:∀{P:Prop},some (none:Option (List Str))=some (some names)→P:=fun e=>nomatch Option.some.inj e
   refine ai hsw (fun _ e=>bad e) fun _ e=>ai e (fun _ e=>bad e) fun _ e=>ai e (fun _ e=>bad e) fun h3 e=>ai e (fun _ e=>bad e) fun _ e=>ai e (fun _ e=>no e) fun _ e=>?_
   have e:=Option.some.inj (Option.some.inj e)
   simp only[Bool.or_eq_true,bne_iff_ne,ne_eq,not_or,Decidable.not_not] at h3
   exact a4s (kind:=env.kindOf) (line:=(ts.head?.map (·.pos.line)).getD 0) e (by rw[←e];exact h3.1)
  refine ar hnames ?_;clear hnames;intro ps hps hts
  rw[hts] at e2
  refine f5 (o9 names ps Vs _ _ hps e2) ?_;intro hσ hset hVl
  refine Assign_Tuple_swapped (names:=names) (mkT fun vs α₁ s₁ S Rv hl=>?_) sole (zm G.K.kind hsw)
  have hvl:=Rv.length
  refine drawn vs α₁ s₁ _ S Rv hl (fun s₂ S₂ Rv₂=>?_) _ (by exact aoh hVl hvl)
  have fsts:(names.zip Vs).map (·.1)=names:=by rw[List.map_fst_zip (by exact anc hVl)]
  have snds:(names.zip Vs).map (·.2)=Vs:=by rw[List.map_snd_zip (by exact ano hVl)]
  have nd:((names.zip Vs).map (·.1)).Nodup:=by rw[fsts];exact hnd
  refine ex1 (yx (names.zip Vs).reverse t.ρ fun p hp=>a1g _ _ _ hset p (List.mem_reverse.mp hp)) ?_;intro ρr hr
  have emap:(names.reverse.map fun n=>bindName env n)=((names.zip Vs).reverse.map fun p=>bindName env p.1):=by
   rw[←fsts,←List.map_reverse,List.map_map,fsts];rfl
  rw[emap]
  refine a25 G (names.zip Vs).reverse vs.reverse t.ρ ρr α₁ s₂ _ hr (b.next G S₂) hs (by rw[List.map_reverse,snds];exact Rv₂.reverse) fun s₃ b₃ B₃ hs₃=>?_
  have nd':((names.zip Vs).reverse.map (·.1)).Nodup:=by rw[List.map_reverse];exact List.pairwise_reverse.mpr (List.Pairwise.imp (fun h q=>h.symm q) nd)
  have same:∀y,Rho.get t'.ρ y=Rho.get ρr y:=fun y=>by
   rw[qo _ _ _ nd hset y,qo _ _ _ nd' hr y,a7m nd y]
  have b₃':Blk C env sc X X' α₀ σ₀ s₀ t'.ρ α₁ t'.σ s₃:=by rw[hσ];exact b₃.envMono fun x v hx=>by rw[←same];exact hx
  have B₃':BStep C env sc α₁ σ₁ s₂ α₁ t'.σ s₃:=by rw[hσ];exact B₃
  exact h α₁ .next s₃ b₃' ((BStep.of S₂).trans B₃') (hs.of_keys fun y=>vt _ _ _ hset y) trivial
end
section
variable{C:Cfg}{A:Around}{Φ:Fx}{env:Env}{X:Addr→Prop}{sc:Scope}{σ₀:Sto}{α₀:a7}{s₀:Shared}{muts:List Str}
theorem abz (R:RunOk C A Φ) (hk:∀x,env.kindOf x=sc.names.lookup x):∀(n:Nat) (st:Stmt) (t:St) (fl:Fl) (t':St),evS Φ muts sc n st t=some (fl,t')→o6 C A env sc X α₀ σ₀ s₀ (exec st env) t fl t'
 |0,st,t,fl,t',e=>by exact no e
 |n+1,st,t,fl,t',e=>by
  have ih:=abz R hk n
  have seq:=a3m (C:=C) (A:=A) (env:=env) (X:=X) (sc:=sc) (σ₀:=σ₀) (α₀:=α₀) (s₀:=s₀) (f:=evS Φ muts sc n) ih
  cases st with
  |Expr x p=>exact ad1 R e
  |Pass p=>
   (apply du e;clear e)
   intro X' α s E Q G b hs h
   exact wpAny_Pass (h α .next s b .refl hs trivial)
  |Break p=>
   (apply du e;clear e)
   intro X' α s E Q G b hs h
   show wpAny _ A (do standAt p;pure Flow.brk) Q E s
   exact wpAny_bind (wpAny_standAt (wpAny_pure (h α .brk s b .refl hs trivial)))
  |Continue p=>
   (apply du e;clear e)
   intro X' α s E Q G b hs h
   show wpAny _ A (do standAt p;pure Flow.cont) Q E s
   exact wpAny_bind (wpAny_standAt (wpAny_pure (h α .cont s b .refl hs trivial)))
  |Return v p=>
   cases v with
   |none=>
    (apply du e;clear e)
    intro X' α s E Q G b hs h
    exact wpAny_Return_none (h α _ s b .refl hs (.d .none))
   |some x=>exact a7d R e
  |Assign targets x p=>
   rcases targets with _|⟨tgt,_|⟨t2,ts⟩⟩
   ·first|exact no e|(cases x<;>exact no e)
   ·by_cases ht:∃ts k q,tgt=.Tuple ts k q
    ·refine aft ht ?_;clear ht;intro ts k q rf3;subst rf3
     by_cases hx:∃es k2 q2,x=.Tuple es k2 q2
     ·refine aft hx ?_;clear hx;intro es k2 q2 rf3;subst rf3
      exact a2c R hk e
     ·have hx':∀es k p,x≠.Tuple es k p:=fun es k p z=>hx ⟨es,k,p,z⟩
      refine a0i R hx' ?_
      cases x<;>first|exact e|exact absurd rfl (hx' _ _ _)
    ·refine a0d (muts:=muts) R ?_
     cases tgt<;>first|exact e|exact absurd ⟨_,_,_,rfl⟩ ht|(cases x<;>exact e)
   ·first|exact no e|(cases tgt<;>first|exact no e|(cases x<;>exact no e))
  |AugAssign tgt op x p=>
   cases tgt with
   |Name y q=>exact afi R e
   |_=>exact no e
  |If test body orelse p=>exact agx R (fun t fl t'=>seq body t fl t') (fun t fl t'=>seq orelse t fl t') e
  |While test body orelse p=>
   cases orelse with
   |nil=>exact a9t R (fun t fl t'=>seq body t fl t') e
   |cons _ _=>exact no e
  |For target iter body orelse p=>
   cases orelse with
   |nil=>exact afe R (fun t fl t'=>seq body t fl t') e
   |cons _ _=>exact no e
  |_=>exact no e
theorem af0 (R:RunOk C A Φ) (hk:∀x,env.kindOf x=sc.names.lookup x){n:Nat}{b:List Stmt}{t:St}{fl:Fl}{t':St}(e:cc (evS Φ muts sc n) b t=some (fl,t')):o6 C A env sc X α₀ σ₀ s₀ (execs b env) t fl t':=
 a3m (fun st t fl t'=>abz R hk n st t fl t') b t fl t' e
end
noncomputable def ah4 (F:Fn):Bool:=F.scope.kind==.function&&!F.scope.isCoroutine&&!F.scope.isGenerator&&(F.scope.names.lookup ("__debug__":Str)).isNone&&(F.scope.names.lookup ("__classdict__":Str)).isNone&&
 F.scope.names.all (fun x=>(x.2==.local||x.2==.cell||x.2==.globalImplicit)&&F.scope.names.lookup x.1==some x.2)&&F.params.all (fun p=>F.scope.names.lookup p==some .local||F.scope.names.lookup p==some .cell)&&decide F.params.Nodup
structure FnIn (C:Cfg) (fa:Addr) (F:Fn):Prop where
 ok:ah4 F=true
 ex:∃o fd,C.base.get? fa=some o∧o.data=.func fd∧fd.scope=F.scope∧fd.body=.stmts F.body∧fd.globals=mainGlobals∧fd.builtins=builtinsNs∧fd.closure=[]∧C.base.CodeRec fd.code fd.qualname∧(F.scope.names.lookup ("sorted":Str)=some .globalImplicit→∃c,fd.code=.ref c∧CodeHd C.base c C.P)∧
  ∀(m5:List Value) (vs:List V) (bs:List (Str×V)),vx F.params vs F.dflts=some bs→m5.length=vs.length→∃(dv:List Value) (dd:List D),RepDs C C.base (fun _=>False) dv dd∧bs=F.params.zip (vs++dd.map .d)∧
   ∀s:Shared,(∀b o,C.base.get? b=some o→s.heap.get? b=some o)→BindsTo s fd ⟨m5,[]⟩ (F.params.zip (m5++dv))
theorem a0w (kindOf:Str→Option NameKind):∀(binds:List (Str×Value)) (m:Str→Option Value) (x:Str),kindOf x=some .local→(binds.map (·.1)).Nodup→bindL kindOf binds m x=match binds.lookup x with|some u=>some u|none=>m x
 |[],m,x,_,_=>rfl
 |(n,v)::r,m,x,hk,hn=>by
  rw[List.map_cons,List.nodup_cons]at hn
  unfold bindL
  rw[a0w kindOf r _ x hk hn.2,List.lookup_cons]
  by_cases h:x=n
  ·subst h
   have nr:r.lookup x=none:=ey fun c q=>hn.1 (List.mem_map_of_mem (f:=(·.1)) q)
   rw[nr,if_pos hk]
   simp
  ·have e:(x==n)=false:=by simpa using h
   rw[e]
   cases r.lookup x with
   |some u=>rfl
   |none=>
    by_cases q:kindOf n=some .local
    ·simp only[q,if_true,h,if_false]
    ·simp only[q,if_false]
theorem a1j (kindOf:Str→Option NameKind):∀(binds:List (Str×Value)) (m:Str→Option Value) (x:Str),kindOf x≠some .local→(binds.map (·.1)).Nodup→bindC kindOf binds m x=match binds.lookup x with|some u=>some u|none=>m x
 |[],m,x,_,_=>rfl
 |(n,v)::r,m,x,hk,hn=>by
  rw[List.map_cons,List.nodup_cons]at hn
  unfold bindC
  rw[a1j kindOf r _ x hk hn.2,List.lookup_cons]
  by_cases h:x=n
  ·subst h
   have nr:r.lookup x=none:=ey fun c q=>hn.1 (List.mem_map_of_mem (f:=(·.1)) q)
   rw[nr,if_neg hk]
   simp
  ·have e:(x==n)=false:=by simpa using h
   rw[e]
   cases r.lookup x with
   |some u=>rfl
   |none=>
    by_cases q:kindOf n=some .local
    ·simp only[q,if_true]
    ·simp only[q,if_false,h]
theorem yp{C:Cfg}{h:Heap}{B:Addr→Prop}{α:a7}:∀(ps:List Str)(us:List Value)(vs:List V),RepVs C h B α us vs→∀x v,(ps.zip vs).lookup x=some v→∃u,(ps.zip us).lookup x=some u∧RepV C h B α u v
 |[],_,_,_,x,v,e=>by simp at e
 |p::ps,_,_,.nil,x,v,e=>by simp at e
 |p::ps,_,_,.cons a r,x,v,e=>by
  simp only[List.zip_cons_cons,List.lookup_cons]at e ⊢
  cases hx:x==p with
  |true=>rw[hx]at e;cases e;exact⟨_,rfl,a⟩
  |false=>rw[hx]at e;exact yp ps _ _ r x v e
theorem rj{names:List (Str×NameKind)}{b:List (Str×V)}{x:Str}{v:V}(h:Rho.get ((names.filter fun x=>x.2==.local||x.2==.cell).map fun x=>(x.1,b.lookup x.1)) x=some v):b.lookup x=some v∧∃k,(x,k)∈names∧(k=.local∨k=.cell):=by
 unfold Rho.get at h
 induction names with
 |nil=>cases h
 |cons p r ih=>
  obtain⟨n,k⟩:=p
  rw[List.filter_cons]at h
  split at h
  ·rename_i hk
   rw[List.map_cons,List.lookup_cons]at h
   cases hx:x==n with
   |true=>
    have:=eq_of_beq hx;subst this
    rw[hx]at h
    refine⟨by simpa using h,k,.head _,?_⟩
    simpa using hk
   |false=>
    rw[hx]at h
    obtain⟨h1,k',h2,h3⟩:=ih h
    exact⟨h1,k',.tail _ h2,h3⟩
  ·obtain⟨h1,k',h2,h3⟩:=ih h
   exact⟨h1,k',.tail _ h2,h3⟩
theorem a07{names:List (Str×NameKind)}{b:List (Str×V)}{x:Str}(h:(((names.filter fun x=>x.2==.local||x.2==.cell).map fun x=>(x.1,b.lookup x.1)).lookup x).isSome=true):∃k,(x,k)∈names∧(k=.local∨k=.cell):=by
 induction names with
 |nil=>cases h
 |cons p r ih=>
  obtain⟨n,k⟩:=p
  rw[List.filter_cons]at h
  split at h
  ·rename_i hk
   rw[List.map_cons,List.lookup_cons]at h
   cases hx:x==n with
   |true=>
    have:=eq_of_beq hx;subst this
    exact⟨k,.head _,by simpa using hk⟩
   |false=>
    rw[hx]at h
    refine ar (ih h) ?_;intro k' h2 h3
    exact⟨k',.tail _ h2,h3⟩
  ·refine ar (ih h) ?_;intro k' h2 h3
   exact⟨k',.tail _ h2,h3⟩
section
variable{C:Cfg}{A:Around}{Φ:Fx}{X:Addr→Prop}{σ σ':Sto}{α:a7}{s:Shared}{E:Value→Shared→Prop}{Q:Value→Shared→Prop}
theorem ul (O:Ok C) {fa:Addr}{F:Fn}(I:FnIn C fa F) (hroom:A.depth<recursionLimit) (R:∀env,RunOk C (A.deeper env) Φ) {us:List Value}{vs:List V}{W:V}(r:SRel C X α σ s.heap) (rs:RepVs C s.heap (Bad X σ α) α us vs) (e:om Φ F vs σ=some (W,σ'))
  {T:Result→Shared→Prop}(h:CQ C X α σ s W σ' fun v s'=>T (.ok (.ret v)) s'):codeAny (model C.prog C.w) A (.call (.ref fa) ⟨us,[]⟩) T s:=by
 obtain ⟨o,fd,h1,h2,h3,h4,h5,h6,h7,h8,h10,h9⟩:=I.ex
 have ok:=I.ok
 unfold ah4 at ok
 simp only [Bool.and_eq_true,beq_iff_eq,Bool.not_eq_true',Option.isNone_iff_eq_none,List.all_eq_true,Bool.or_eq_true,decide_eq_true_eq]at ok
 refine bk ok ?_;clear ok;intro pq0 k8;obtain ⟨⟨⟨⟨⟨⟨k1,k2⟩,k3⟩,k4⟩,k5⟩,k6⟩,k7⟩:=pq0
 unfold om at e
 refine bj e ?_;clear e;intro bs e1 e
 refine ag e ?_;clear e;intro fl t' e2 e
 refine aba (h9 us vs bs e1 rs.length) ?_;intro dv dd hd hbs hb
 have rd:RepVs C s.heap (Bad X σ α) α dv (dd.map .d):=by
  have:∀{dv:List Value}{dd:List D},RepDs C C.base (fun _=>False) dv dd→RepVs C s.heap (Bad X σ α) α dv (dd.map .d):=by
   intro dv dd
   induction dd generalizing dv with
   |nil=>intro q;cases q;exact .nil
   |cons d dd ih=>intro q;cases q with|cons a q=>exact .cons (.d (a13 r a)) (ih q)
  exact this hd
 have rb:=rs.append rd
 have nmem:∀x k,(x,k)∈F.scope.names→(k=.local∨k=.cell∨k=.globalImplicit)∧F.scope.names.lookup x=some k:=fun x k hx=>by
  have:=k6 (x,k) hx
  simp only at this
  exact ⟨by rcases this.1 with (q|q)|q<;>simp [q],this.2⟩
 have fsts:∀{β:Type}(l:List β),((F.params.zip l).map (·.1)).Nodup:=fun l=>by
  have:((F.params.zip l).map (·.1)).Sublist F.params:=by
   have z:∀(ps:List Str) {β:Type}(l:List β),((ps.zip l).map (·.1)).Sublist ps:=by
    intro ps
    induction ps with
    |nil=>intro β l;simp
    |cons p ps ih=>
     intro β l
     cases l with
     |nil=>simp
     |cons x l=>simp only [List.zip_cons_cons,List.map_cons];exact (ih l).cons_cons _
   exact z F.params l
  exact k8.sublist this
 refine codeAny_call_function hroom (r.stays _ _ h1) h2 (by rw [h3];exact k2) (by rw [h3];exact k3) h4 (by
  obtain ⟨c,oc,v',tq,q1,q2,q3⟩:=h8
  exact ⟨c,oc,v',tq,q1,r.stays _ _ q2,q3⟩) ?_
 refine hb s r.stays _ _ _ _ ?_
 rw [h7,h5,h6]
 refine av (wpAny_newFunctionEnv_cells (by rw [h3];exact k1) (fun x hx=>?_) fun env he s₁ Ic sz=>?_)
 ·rw [h3]
  have hx':x.1∈F.params:=by
   have:=List.of_mem_zip (show (x.1,x.2)∈_ from hx)
   exact this.1
  rcases k7 x.1 hx' with q|q
  ·exact .inl q
  ·refine ex1 (fi F.scope.names (s.heap.objs.size+1) x.1 (mem_of_lookup q)) ?_;intro c hc
   exact .inr ⟨q,ei hc⟩
 have eL:env.locals=s.heap.objs.size:=by rw [he];rfl
 have eS:env.scope=F.scope:=by rw [he];exact h3
 have eK:∀x,env.kindOf x=F.scope.names.lookup x:=fun x=>by unfold Env.kindOf;rw [eS]
 have eG:env.globals=mainGlobals:=by rw [he];rfl
 have eB:env.builtins=builtinsNs:=by rw [he];rfl
 have eC:env.cells=cellsFrom (s.heap.objs.size+1) F.scope.names []:=by rw [he,h3];rfl
 refine a2b Ic.toInCall.same ?_;intro h' tk hs₁
 have keep:=Ic.toInCall.keep
 have ns:=Ic.toInCall.ns
 subst hs₁
 let X':Addr→Prop:=fun a=>X a∨(s.heap.objs.size≤a∧a<h'.objs.size)
 have up:∀a,X a→X' a:=fun a=>.inl
 have r₁:SRel C X' α σ h':=r.widen keep sz up fun a x=>x
 have cellLt:∀x c,env.cells.lookup x=some c→env.locals<c∧c<h'.objs.size:=fun x c q=>⟨Ic.above x c (mem_of_lookup q),(Ic.cell x c q).lt⟩
 have newP:∀a,@LE.le Nat _ s.heap.objs.size a→a≠C.P:=fun a ha=>a4w r ha
 have hasCell:∀x,F.scope.names.lookup x=some .cell→∃c,env.cells.lookup x=some c:=fun x q=>by
  refine ex1 (fi F.scope.names (s.heap.objs.size+1) x (mem_of_lookup q)) ?_;intro c hc
  rw [eC]
  exact Option.isSome_iff_exists.mp (ei hc)
 have noFree:∀x,F.scope.names.lookup x≠some .free:=fun x q=>by
  rcases (nmem x _ (mem_of_lookup q)).1 with z|z|z<;>cases z
 have Lle:@LE.le Nat _ s.heap.objs.size env.locals:=Nat.le_of_eq eL.symm
 have K:EnvOk C env F.scope X':=by
  refine ⟨by rw [eS];exact k1,eG,eB,fun x q=>by rw [eK];exact q,fun x q=>?_,.inr ⟨Lle,ns.lt⟩,fun x c q=>.inr ⟨Nat.le_trans Lle (Nat.le_of_lt (cellLt x c q).1),(cellLt x c q).2⟩,⟨newP _ Lle,fun x c q=>newP c (Nat.le_trans Lle (Nat.le_of_lt (cellLt x c q).1))⟩,k4,by rw [eK];exact k5,
   fun x q=>by rw [eK];exact q,fun x q=>by rw [eK];exact q,fun x q=>absurd q (noFree x),fun x y c q1 q2=>name_of_addr Ic.apart (mem_of_lookup q1) (mem_of_lookup q2),fun x c q=>Nat.ne_of_gt (cellLt x c q).1,fun q=>?_⟩
  ·rcases q with q|q
   ·exact hasCell x q
   ·exact absurd q (noFree x)
  ·rw [he];exact h10 q
 have G:BlkOk C env F.scope X X' α σ s:=⟨r,K,up,fun a o=>by
  rcases o with rfl|⟨x,_,q⟩
  ·exact Lle
  ·exact Nat.le_trans Lle (Nat.le_of_lt (cellLt x a q).1)⟩
 have b₁:Blk C env F.scope X X' α σ s (gp F.scope bs) α σ {s with heap:=h',toks:=tk}:=by
  refine ⟨Step.keepAll r keep sz tk,r₁,fun x v hx=>?_,⟨⟨_,ns⟩,fun x c _ q=>⟨_,Ic.cell x c q⟩⟩⟩
  obtain ⟨g1,k,g2,g3⟩:=rj hx
  rw [hbs]at g1
  refine ar (yp _ _ _ rb x v g1) ?_;intro u g4 g5
  refine ⟨u,?_,g5.widen keep fun a q=>q.imp id And.left⟩
  have g6:=(nmem x k g2).2
  rcases g3 with rfl|rfl
  ·refine .inl ⟨by rw [eK];exact g6,_,ns,?_⟩
   rw [a0w _ _ _ x (by rw [eK];exact g6) (fsts _),g4]
  ·refine ex1 (hasCell x g6) ?_;intro c hc
   have ic:=Ic.cell x c hc
   rw [a1j _ _ _ x (by rw [eK,g6];intro z;cases z) (fsts _),g4]at ic
   exact .inr ⟨.inl (by rw [eK];exact g6),c,hc,ic⟩
 have sets:j6 F.scope (gp F.scope bs):=fun x hx=>by
  refine ar (a07 hx) ?_;intro k g2 g3
  have g6:=(nmem x k g2).2
  rcases g3 with rfl|rfl
  ·exact .inl g6
  ·exact .inr g6
 refine ⟨O.nolimit.keeps fun b o q=>keep b o (r.stays b o q),codeAny_func ?_⟩
 refine af0 (R env) eK e2 X' α _ _ _ G b₁ sets fun α' f s' b' B' hs' hf=>?_
 have fin:∀u v,RepV C s'.heap (Bad X' t'.σ α') α' u v→W=norm t'.σ v→σ'=t'.σ→T (.ok (.ret u)) s':=by
  rintro u v ru rfl rfl
  exact h u α' s' b'.step ((ru.norm b'.srel).narrow up)
 cases f with
 |next=>cases fl with
  |next=>
   cases e
   exact fin .none (.d .none) (.d .none) rfl rfl
  |_=>exact False.elim hf
 |brk=>cases fl with
  |brk=>exact no e
  |_=>exact False.elim hf
 |cont=>cases fl with
  |cont=>exact no e
  |_=>exact False.elim hf
 |ret u=>cases fl with
  |ret v=>
   cases e
   exact fin _ _ hf rfl rfl
  |_=>exact False.elim hf
theorem afm (O:Ok C){fa:Addr}{F:Fn}(I:FnIn C fa F) (hroom:A.depth<recursionLimit) (R:∀env,RunOk C (A.deeper env) Φ){us:List Value}{vs:List V}{W:V}(r:SRel C X α σ s.heap) (rs:RepVs C s.heap (Bad X σ α) α us vs) (e:om Φ F vs σ=some (W,σ'))
 (h:CQ C X α σ s W σ' Q):wpAny (model C.prog C.w) A (call (.ref fa) us) Q E s:=wpAny_call (ul O I hroom R r rs e h)
end
section
variable{C:Cfg}{A:Around}{Φ:Fx}{X:Addr→Prop}{σ σ':Sto}{α:a7}{s:Shared}{E:Value→Shared→Prop}{Q:Value→Shared→Prop}
theorem p5{v:Nat}{a:Addr}{β:a7}:¬Mut ⟨[],v⟩ β a:=by
 rintro ⟨i,p,o,h1,h2,_⟩
 simp at h2
theorem aec{a:Addr}:Bad (Bad X σ α) ⟨[],0⟩ [] a ↔ Bad X σ α a:=⟨fun m=>m.elim id fun m=>absurd m p5,.inl⟩
theorem SRel.inner (r:SRel C X α σ s.heap):SRel C (Bad X σ α) [] ⟨[],0⟩ s.heap where
 len:=rfl
 obj:=fun i p o h1 h2=>by simp at h1
 apart:=fun i j p q h1 h2=>by simp at h1
 notX:=fun i p h1=>by simp at h1
 notBase:=fun i p h1=>by simp at h1
 lt:=fun i p h1=>by simp at h1
 xBase:=fun a x=>by
  rcases x with x|⟨i,p,o,h1,_,_,rfl|rfl⟩
  ·exact r.xBase a x
  ·exact(r.notBase i p h1).1
  ·exact(r.notBase i p h1).2
 xLt:=fun a x=>x.elim (r.xLt a) fun m=>m.lt r
 xP:=.inl r.xP
 stays:=r.stays
 sz:=r.sz
 tab:=r.tab
theorem m9(r:SRel C X α σ s.heap){b:Addr}{o:Obj}(e:C.base.get? b=some o):b≠C.P:=fun q=>by
 have:=r.xBase _ r.xP
 rw[←q,e]at this;cases this
theorem Step.outer{α':a7}{σ₂:Sto}{s':Shared}(r:SRel C X α σ s.heap) (S:Step C (Bad X σ α) [] ⟨[],0⟩ s α' σ₂ s'):Step C X α σ s α σ s':=by
 refine a2b S.sh ?_;intro h₁ tk rf2;subst rf2
 have hk:∀a o,a≠C.P→s.heap.get? a=some o→h₁.get? a=some o:=fun a o np e=>S.keep a o p5 np e
 have np:∀b,¬Bad X σ α b→b≠C.P:=fun b nb q=>nb (.inl (q▸r.xP))
 have q:SRel C X α σ h₁:={
  len:=r.len
  obj:=fun i p o h1 h2=>by
   have nx:=r.notX i p h1
   exact(r.obj i p o h1 h2).mono (fun b o nb e=>hk b o (np b nb) e) (fun _ _ _ n=>n) (fun _ _ e=>e) (fun o e=>hk _ o (fun q=>nx.1 (q▸r.xP)) e) (fun o e=>hk _ o (fun q=>nx.2 (q▸r.xP)) e)
  apart:=r.apart
  notX:=r.notX
  notBase:=r.notBase
  lt:=fun i p e=>⟨Nat.lt_of_lt_of_le (r.lt i p e).1 S.grow,Nat.lt_of_lt_of_le (r.lt i p e).2 S.grow⟩
  xBase:=r.xBase
  xLt:=fun a x=>Nat.lt_of_lt_of_le (r.xLt a x) S.grow
  xP:=r.xP
  stays:=fun b o e=>hk b o (m9 r e) (r.stays b o e)
  sz:=Nat.le_trans r.sz S.grow
  tab:=S.srel.tab}
 exact⟨⟨_,_,rfl⟩,⟨[],by simp⟩,q,fun a o _ np e=>hk a o np e,fun a m=>.inl m,S.grow,Nat.le_refl _,fun _=>⟨rfl,rfl,fun a o np e=>hk a o np e⟩⟩
theorem RepD.outer{α':a7}{σ₂:Sto}{h:Heap}{v:Value}{d:D}(x:RepD C h (Bad (Bad X σ α) σ₂ α') v d):RepD C h (Bad X σ α) v d:=x.mono (fun _ _ _ e=>e) fun b o _ nb m=>nb (.inl m)
theorem RepDs.inV{h:Heap}{B:Addr→Prop}{us:List Value}{ds:List D}(x:RepDs C h B us ds):RepVs C h B α us (ds.map .d):=by
 induction ds generalizing us with
 |nil=>cases x;exact .nil
 |cons d ds ih=>cases x with|cons a q=>exact .cons (.d a) (ih q)
theorem v8{R:Result→Shared→Prop}{c:Code}{us:List Value}{ds:List D}{f:List V→Sto→Option (V×Sto)}{d:D}(r:SRel C X α σ s.heap) (rs:RepDs C s.heap (Bad X σ α) us ds)
  (hf:∀(X:Addr→Prop) (α:a7) (σ:Sto) (vs:List V) (W:V) (σ':Sto),SRel C X α σ s.heap→RepVs C s.heap (Bad X σ α) α us vs→f vs σ=some (W,σ')→CQ C X α σ s W σ' (fun v s'=>R (.ok (.ret v)) s')→codeAny (model C.prog C.w) A c R s)
  (e:((f (ds.map .d) ⟨[],0⟩).bind fun p=>(toD p.2 p.1).map (·.1))=some d) (h:∀v s',Step C X α σ s α σ s'→RepD C s'.heap (Bad X σ α) v d→R (.ok (.ret v)) s'):codeAny (model C.prog C.w) A c R s:=by
 refine ag e ?_;clear e;intro W σ₁ e1 e
 refine nt e ?_;clear e;intro d' σ₂ e2 e
 (revert h;apply re1 e;clear e;intro h)
 have ri:RepDs C s.heap (Bad (Bad X σ α) ⟨[],0⟩ []) us ds:=rs.mono (fun _ _ _ e=>e) fun b o _ nb m=>nb (aec.mp m)
 refine hf (Bad X σ α) [] ⟨[],0⟩ _ W σ₁ r.inner ri.inV e1 fun v α' s' S rv=>?_
 refine bk (kj S.srel rv e2) ?_;intro S₂ rd
 exact h v s' ((S.trans S₂).outer r) rd.outer
structure ClsIn (C:Cfg) (ca:Addr) (cn:Str) (F:Fn):Prop where
 adr:dl C.K cn=some ca
 make:makesIn C.K ca=true
 init:∃fI,findIn C.K (.ref ca) "__init__"=some (some (.ref fI))∧typeIn C.K (.ref fI)=some (.type "function")∧FnIn C fI F
theorem a5t (O:Ok C){ca:Addr}{cn:Str}{F:Fn}(I:ClsIn C ca cn F){us:List Value}(hroom:(A.under (.builtin "type.__call__" ⟨.ref ca::us,[]⟩)).depth<recursionLimit) (R:∀env,RunOk C ((A.under (.builtin "type.__call__" ⟨.ref ca::us,[]⟩)).deeper env) Φ)
  {vs:List V}{W:V}(r:SRel C X α σ s.heap) (rs:RepVs C s.heap (Bad X σ α) α us vs) (e:v7 Φ cn F vs σ=some (W,σ')){T:Result→Shared→Prop}(h:CQ C X α σ s W σ' fun v s'=>T (.ok (.ret v)) s'):
  codeAny (model C.prog C.w) A (.call (.ref ca) ⟨us,[]⟩) T s:=by
 refine dz I.init ?_;intro fI h1 h2 h3
 unfold v7 at e
 dsimp only at e
 refine ag e ?_;clear e;intro W₁ σ₁ e1 e
 dsimp only at e
 split at e
 ·(revert h;apply du e;clear e;intro h)
  have hx:=ml O r
  obtain⟨hh,g,d,t,os⟩:=s
  refine make_core (makes_of hx I.make) (looks_findIn hx h1) (fun self=>bind_fn hx self h2) (.inl rfl) ?_
  let p:Addr×Addr:=(hh.objs.size+1,hh.objs.size)
  let h':Heap:=(hh.push emptyDict).push (instObj ca hh.objs.size)
  have hk:∀a ob,hh.get? a=some ob→h'.get? a=some ob:=fun a ob q=>Heap.get?_push_of_some _ (Heap.get?_push_of_some _ q)
  have sz:h'.objs.size=hh.objs.size+2:=by refine(?_:((hh.push emptyDict).push _).objs.size=_);rw[Heap.size_push,Heap.size_push]
  have g1:h'.get? (hh.objs.size+1)=some (instObj ca hh.objs.size):=by
   refine(?_:((hh.push emptyDict).push _).get? _=_)
   heap_get
  have g2:h'.get? hh.objs.size=some (dictOf [] 0):=by
   refine(?_:((hh.push emptyDict).push _).get? _=_)
   heap_get
  have S₁:Step C X α σ ⟨hh,g,d,t,os⟩ (α++[p]) (σ.alloc (.inst cn [])).2 ⟨h',g,d,t,os⟩:=
   Step.alloc (s:=⟨hh,g,d,t,os⟩) (h':=h') (p:=p) (o:=.inst cn []) r hk (by rw[sz];exact Nat.le_add_right _ _) (Nat.le_succ _) (Nat.le_refl _) (by rw[sz];exact Nat.lt_succ_self _) (by rw[sz];exact Nat.lt_add_of_pos_right (by decide))
    ⟨ca,[],0,[],g1,g2,I.adr,⟨fun a=>rfl,Nat.le_refl _⟩,.nil⟩ t
  have rp:(α++[p])[σ.objs.length]?=some p:=by rw[←r.len];simp
  have ra:RepV C h' (Bad X (σ.alloc (.inst cn [])).2 (α++[p])) (α++[p]) (.ref p.1) (σ.alloc (.inst cn [])).1:=.m rp
  refine ul O h3 hroom R S₁.srel (.cons ra (S₁.repVs r rs)) e1 fun v α' s' S₂ rv=>?_
  refine⟨?_,h _ _ _ (S₁.trans S₂) (S₂.repV S₁.srel ra)⟩
  cases rv with|d rv=>cases rv;rfl
 ·cases e
end
theorem y0{env:Env}:∀(l:List (Str×NameKind))(cs:List (Str×Addr)),l.all (fun x=>x.2 !=.free)=true→
  (do
   let r←forIn l cs fun(x:Str×NameKind)(cs:List (Str×Addr))=>(do
    if x.2==.free then let c←cellOf env x.1;pure (ForInStep.yield ((x.1,c)::cs))else pure (ForInStep.yield cs):Sem _)
   pure r)=(pure cs:Sem (List (Str×Addr)))
 |[],cs,_=>rfl
 |x::r,cs,h=>by
  simp only[List.all_cons,Bool.and_eq_true,bne_iff_ne,ne_eq]at h
  have:(x.2==NameKind.free)=false:=by simpa using h.1
  rw[List.forIn_cons]
  simp only[this,Bool.false_eq_true,if_false,pure_bind]
  exact y0 r cs h.2
theorem th{scope:Scope}{env:Env}(h:scope.names.all (fun x=>x.2 !=.free)=true):closureFor scope env=pure []:=by
 have:=y0 (env:=env) scope.names [] h
 unfold closureFor
 exact(bind_pure _).trans this
section
variable{prog:Program}{w:World}{A:Around}{s:Shared}{E:Value→Shared→Prop}
theorem a6n {a kS:Addr}{f:Value}{n k:Nat}{P:PySem.Fin→Shared→Prop}(ho:s.heap.get? a=some (seqObj "list" #[] n)) (hk:s.heap.get? kS=some (seqObj "list" #[] k)) (hne:a≠kS)
  (h:∀h' c,h'.get? a=some (seqObj "list" #[] c)→(∀b o,b≠a→b≠kS→s.heap.get? b=some o→h'.get? b=some o)→P (.done (.ret .none)) {s with heap:=h'}):wpAny (model prog w) A (ksk_rest a f false #[] n (.ref kS)) P E s:=by
 unfold ksk_rest
 refine wpAny_bind (wpAny_rule ?_)
 refine wpAny_bind (wpAny_pure ?_)
 refine wpAny_bind (listItems_at hk rfl ?_)
 unfold ksk_end
 refine wpAny_bind (m:=pure general') (wpAny_pure ?_)
 dsimp only
 rw[if_pos (show(#[]:Array Value).size<2 from Nat.zero_lt_two),StateT.run_pure,if_neg Bool.false_ne_true,show(#[]:Array Value).zip (#[]:Array Value)=#[] from Array.toList_inj.mp (ksk_zip #[] [])]
 refine wpAny_bind (wpAny_pure ?_)
 refine(?_:wpAny _ _ (ksk_tail a false n (.ref kS) (SortSt.mk' general' #[] #[] 7 none)) _ _ _)
 have z:((arrOf (SortSt.mk' general' #[] #[] 7 none)).map (·.2):Array Value)=#[]:=Array.map_empty
 unfold ksk_tail
 dsimp only
 rw[z,if_neg Bool.false_ne_true]
 have s1:=Heap.SameBut.update s.heap kS (Obj.mapSeq fun _=>(#[]:Array Value))
 have ho1:=(s1.2 a hne).trans ho
 have s2:=Heap.SameBut.update (s.heap.update kS (Obj.mapSeq fun _=>(#[]:Array Value))) a (Obj.mapSeq fun _=>(#[]:Array Value))
 refine wpAny_bind (listUpdate_at hk rfl ?_ (Nat.zero_le _) (Nat.zero_le _))
 refine wpAny_bind (wpAny_letGo ?_)
 refine wpAny_bind (seqEpoch_at ho1 rfl ?_)
 refine wpAny_bind (listUpdate_at ho1 rfl ?_ (Nat.zero_le _) (Nat.zero_le _))
 rw[bne_self_eq_false]
 exact wpAny_pure (h _ _ (get?_update_seq ho1 fun _=>#[]) fun b o n1 n2 e=>(s2.2 b n1).trans ((s1.2 b n2).trans e))
theorem a76 {a:Addr}{f:Value}{n:Nat}{P:PySem.Fin→Shared→Prop}(ho:s.heap.get? a=some (seqObj "list" #[] n))
  (h:∀h' c,h'.get? a=some (seqObj "list" #[] c)→(∀b o,b≠a→s.heap.get? b=some o→h'.get? b=some o)→P (.done (.ret .none)) {s with heap:=h'}):wpAny (model prog w) A (ksk_tree a f false) P E s:=by
 unfold ksk_tree
 have s1:=Heap.SameBut.update s.heap a (Obj.mapSeq fun _=>(#[]:Array Value))
 have ho1:=get?_update_seq ho fun _=>(#[]:Array Value)
 have lt:=Heap.lt_size ho1
 refine wpAny_bind (listItems_at ho rfl ?_)
 refine wpAny_bind (listUpdate_at ho rfl ?_ (Nat.zero_le _) (Nat.zero_le _))
 refine wpAny_bind (seqEpoch_at ho1 rfl ?_)
 refine wpAny_bind (wpAny_newTuple ?_ (Nat.zero_le _))
 refine wpAny_bind (wpAny_newList ?_ (Nat.zero_le _))
 refine wpAny_holding ?_
 have keep:∀b o,(s.heap.update a (Obj.mapSeq fun _=>(#[]:Array Value))).get? b=some o→(((s.heap.update a (Obj.mapSeq fun _=>(#[]:Array Value))).push (seqObj "tuple" #[] 0)).push (seqObj "list" #[] 0)).get? b=some o:=fun b o e=>Heap.get?_push_of_some _ (Heap.get?_push_of_some _ e)
 refine a6n (keep _ _ ho1) (Heap.get?_push_size _ rfl) (Nat.ne_of_lt (by rw[size_push'];exact Nat.lt_succ_of_lt lt)) fun h' c h1 h2=>h h' c h1 fun b o nb e=>?_
 have e1:=(s1.2 b nb).trans e
 exact h2 b o nb (Nat.ne_of_lt (by rw[size_push'];exact Nat.lt_succ_of_lt (Heap.lt_size e1))) (keep b o e1)
theorem a2l {l f:Addr}{Q:Value→Shared→Prop}(hl:s.heap.IsList l #[]) (h:∀D h' c,h'.get? D=some (seqObj "list" #[] c)→(∀b o,s.heap.get? b=some o→h'.get? b=some o)→(∀b o,s.heap.get? b=some o→@LT.lt Nat _ b D)→Q (.ref D) {s with heap:=h'}):
  wpAny (model prog w) A (call (.builtin "sorted") [.ref l] [(Str.ofString "key",.ref f)]) Q E s:=by
 refine call_function_entry_kw kind_sorted plain_sorted entry_sorted (ksk_s1 _ _) ?_
 unfold Builtin.«sorted»
 refine wpAny_bind (m:=checkCount "sorted" 1 1 _) (wpAny_pure ?_)
 refine wpAny_bind (collect_list (vs:=[]) hl ?_ (Nat.zero_le _))
 refine wpAny_bind (wpAny_newList ?_ (Nat.zero_le _))
 have keep:∀b o,s.heap.get? b=some o→((s.heap.push (seqObj "list" #[] 0)).update s.heap.objs.size (Obj.mapSeq (·++#[]))).get? b=some o:=fun b o e=>((Heap.SameBut.update _ _ _).2 b (Nat.ne_of_lt (Heap.lt_size e))).trans (Heap.get?_push_of_some _ e)
 generalize (s.heap.push (seqObj "list" #[] 0)).update s.heap.objs.size (Obj.mapSeq (·++#[]))=h1 at keep
 have hoL:(h1.push (seqObj "list" #[] 0)).get? h1.objs.size=some (seqObj "list" #[] 0):=Heap.get?_push_size _ rfl
 refine wpAny_bind (wpAny_holding (wpAny_call_entry_kw slot_list_sort ⟨_,hoL,rfl⟩ entry_list_sort ?_ (ksk_l1 _ _)))
 rw[ksk_t1]
 refine a76 (s:={s with heap:=h1.push (seqObj "list" #[] 0)}) hoL fun h' c k1 k2=>⟨_,rfl,?_⟩
 have lt:=fun b o (e:s.heap.get? b=some o)=>Heap.lt_size (keep b o e)
 exact wpAny_pure ⟨_,rfl,h _ h' c k1 (fun b o e=>k2 b o (Nat.ne_of_lt (lt b o e)) (Heap.get?_push_of_some _ (keep b o e))) lt⟩
end
section
variable{C:Cfg}{A:Around}{env:Env}{X:Addr→Prop}{ρ:Rho}{sc:Scope}{ev:Expr→Sto→Option (V×Sto)}{σ σ':Sto}{α:a7}{s:Shared}{E:Value→Shared→Prop}{Q:Value→Shared→Prop}{target:Expr}
theorem Step.butP {h₁:Heap}(r:SRel C X α σ s.heap) (hk:∀a o,a≠C.P→s.heap.get? a=some o→h₁.get? a=some o) (hs:s.heap.objs.size≤h₁.objs.size) (ht:acg C.P h₁) (tk:Nat):Step C X α σ s α σ {s with heap:=h₁,toks:=tk}:=by
 have np:∀b,¬Bad X σ α b→b≠C.P:=fun b nb q=>nb (.inl (q▸r.xP))
 have q:SRel C X α σ h₁:={
  len:=r.len
  obj:=fun i p o h1 h2=>by
   have nx:=r.notX i p h1
   exact(r.obj i p o h1 h2).mono (fun b o nb e=>hk b o (np b nb) e) (fun _ _ _ n=>n) (fun _ _ e=>e) (fun o e=>hk _ o (fun q=>nx.1 (q▸r.xP)) e) (fun o e=>hk _ o (fun q=>nx.2 (q▸r.xP)) e)
  apart:=r.apart
  notX:=r.notX
  notBase:=r.notBase
  lt:=fun i p e=>⟨Nat.lt_of_lt_of_le (r.lt i p e).1 hs,Nat.lt_of_lt_of_le (r.lt i p e).2 hs⟩
  xBase:=r.xBase
  xLt:=fun a x=>Nat.lt_of_lt_of_le (r.xLt a x) hs
  xP:=r.xP
  stays:=fun b o e=>hk b o (m9 r e) (r.stays b o e)
  sz:=Nat.le_trans r.sz hs
  tab:=ht}
 exact⟨⟨_,_,rfl⟩,⟨[],by simp⟩,q,fun a o _ np e=>hk a o np e,fun a m=>.inl m,hs,Nat.le_refl _,fun _=>⟨rfl,rfl,fun a o np e=>hk a o np e⟩⟩
theorem a7w (O:Ok C) (K:EnvOk C env sc X) (hf:sc.names.lookup ("sorted":Str)=some .globalImplicit){params:Arguments}{body:Expr}{lsc:Scope}{lp:Pos}(hd:params.defaults=[]∧params.kw_defaults=[]) (hl:lsc.names.all (fun x=>x.2 !=.free)=true) (r:SRel C X α σ s.heap)
  (h:∀(f:Addr) s',Step C X α σ s α σ s'→(∃o,s'.heap.get? f=some o∧@LE.le Nat _ s'.heap.objs.size (f+1))→Q (.ref f) s'):wpAny (model C.prog C.w) A (eval (.Lambda params body lsc lp) env) Q E s:=by
 refine ar (K.lam hf) ?_;intro c hc hcd
 refine ar r.tab ?_;intro ps hP ht
 have hcd':=hcd.keeps r.stays
 refine kla_eval (by cases params;simp only at hd;(refine bk hd ?_;clear hd;intro rf0 rf1;subst rf0;subst rf1);rfl) ?_
 have gP:mainGlobals≠C.P:=fun q=>by
  refine ro O.g ?_;intro o es ep ho _
  exact m9 r ho q
 cases hn:codeAmong lp ps.toList with
 |some cv=>
  refine kla_makeFunctionHit (th hl) K.globals (O.g.keeps r.stays) hc hcd' hP ht hn (O.ba.keeps r.stays) fun ctv h' tk hk hs=>?_
  exact h _ _ (Step.keepAll r (fun a o e=>Heap.get?_push_of_some _ (hk a o e)) (by rw[Heap.size_push];exact Nat.le_succ_of_le hs) tk) ⟨_,Heap.get?_push_size _ rfl,Nat.le_of_eq (Heap.size_push ..)⟩
 |none=>
  refine kla_makeFunction (th hl) K.globals (O.g.keeps r.stays) hc hcd' hP ht hn gP (O.ba.keeps r.stays) fun c' ctv h' tk hk h1 h2 h3 h4=>?_
  refine h _ _ (Step.butP r (fun a o np e=>Heap.get?_push_of_some _ (hk a o np e)) (by rw[Heap.size_push];exact Nat.le_succ_of_le (Nat.le_of_lt (Nat.lt_of_le_of_lt h1 h2))) ⟨_,Heap.get?_push_of_some _ h4,?_⟩ tk) ⟨_,Heap.get?_push_size _ rfl,Nat.le_of_eq (Heap.size_push ..)⟩
  rw[Array.toList_append]
  exact TriplesOk_snoc _ _ _ _ ht
theorem a4u (O:Ok C){l f:Addr}(r:SRel C X α σ s.heap) (hlast:∃o,s.heap.get? f=some o∧@LE.le Nat _ s.heap.objs.size (f+1)) (hl:s.heap.IsList l #[]) (h:∀v s',Step C X α σ s α σ s'→RepD C s'.heap (Bad X σ α) v (.list [])→Q v s'):
  wpAny (model C.prog C.w) A (call (.builtin "sorted") [.ref l] [(Str.ofString "key",.ref f)]) Q E s:=by
 refine av (a2l hl fun D h' c k1 k2 k3 hs=>?_)
 have S:=Step.keepAll r k2 hs s.toks
 refine h _ _ S (.list (vs:=[]) ⟨_,k1⟩ ?_ (Nat.zero_le _) .nil)
 refine ar hlast ?_;clear hlast;intro o ho hlast
 exact gv r (Nat.le_trans hlast (Nat.succ_le_of_lt (k3 f o ho)))
theorem a9f{P:Keyword→Prop}{kw:Keyword}(h:a98 kw=true)(k:∀params body lsc lp kp,(params.defaults=[]∧params.kw_defaults=[])→lsc.names.all (fun x=>x.2 !=.free)=true→P ⟨some (Str.ofString "key"),.Lambda params body lsc lp,kp⟩):P kw:=by
 obtain⟨a,v,kp⟩:=kw
 cases a with
 |none=>exact absurd h Bool.false_ne_true
 |some nm=>cases v with
  |Lambda ps body lsc lp=>
   obtain⟨p1,p2,p3,p4,d5,p6,d7⟩:=ps
   cases d5 with
   |cons _ _=>exact absurd h Bool.false_ne_true
   |nil=>cases d7 with
    |cons _ _=>exact absurd h Bool.false_ne_true
    |nil=>exact eq_of_beq (tt h).1▸k _ _ _ _ _ ⟨rfl,rfl⟩ (tt h).2
  |_=>exact absurd h Bool.false_ne_true
theorem a7g (O:Ok C) (hh:A.handled=none) (hfree:∀f,e7.contains f=true→C.mg f=none) (K:EnvOk C env sc X) (T:bu C A env X ρ ev) (N:di ev){fp p:Pos}{args:List Expr}{kw:Keyword}(hf:sc.names.lookup ("sorted":Str)=some .globalImplicit) (hkw:a98 kw=true)
  (e:fj ev args σ=some ([.d (.list [])],σ')):kz C A env X ρ target (.Call (.Name "sorted" fp) args [kw] p) σ [] false σ':=by
 apply a9f hkw
 clear hkw kw
 intro params body lsc lp kp hd hl E Q s α r er h
 cases args with
 |nil=>exact nomatch e
 |cons x rest=>
  refine ag e ?_;intro V₁ σ₁ e1 _
  refine (?_:wpAny _ _ (do callWith p (←eval (.Name "sorted" fp) env) [] (backTo p (starEach (x::rest) env)) (backToKw p (keywordEach [_] env))) _ _ _)
  refine wpAny_bind (Name_function_global K.kind (K.glob _ hf) (j7 O hfree K r (bv:=.builtin "sorted") (by decide+kernel) (by decide+kernel) (by decide+kernel) ?_) (sy K hf))
  have hp:=ju (env:=env) N (x::rest) σ _ e p
  refine callWith_of (P:=fun _=>True) (by rw [hp];rfl) (ea fun a q=>by cases q) ?_
  refine evalArgs_kw2 rfl ?_ (um (xf N e1))
  refine a80 K T N (x::rest) σ _ σ' e E _ s α r er fun vs α' s' S R=>?_
  refine kwAll_cons (a7w O K hf hd hl S.srel fun f s₁ S₁ hlast=>kwAll_nil ⟨trivial,?_⟩)
  refine rs1 R fun u hu a0=>vv (vd (S₁.repV S.srel a0)) fun b us hb hlst nb hn rs=>a89 rs fun q=>?_
  subst hu;subst hb;subst q
  refine a4u O S₁.srel hlast (hlst.isList) fun v s₂ S₂ rv=>?_
  exact a01 (target:=target) hh S₂.srel rv rfl (h.after ((S.trans S₁).trans S₂))
end
noncomputable def zn(C:Cfg)(k:Key):Def→Prop
 |.fn F=>∃fa,kl C.K k=some fa∧a10 C.K k fa=true∧FnIn C fa F
 |.cls cn F=>∃fa,kl C.K k=some fa∧a10 C.K k fa=true∧ClsIn C fa cn F
structure World0(C:Cfg):Prop where
 O:Ok C
 hfree:∀f,e7.contains f=true→C.mg f=none
 hbig:sysModules<C.base.objs.size
 pure:∀k df,af.lookup k=some df→zn C k df
 eff:∀k df,nk.lookup k=some df→zn C k df
theorem r4 (A:Around) (ca:Addr) (us:List Value):(A.under (.builtin "type.__call__" ⟨.ref ca::us,[]⟩)).handled=A.handled∧(A.under (.builtin "type.__call__" ⟨.ref ca::us,[]⟩)).depth≤A.depth+1∧(A.under (.builtin "type.__call__" ⟨.ref ca::us,[]⟩)).units≤A.units+4:=by
 refine⟨rfl,?_,?_⟩
 ·exact Nat.add_le_add_left (show Code.weight (.builtin "type.__call__" ⟨.ref ca::us,[]⟩)≤1 from Nat.le_of_ble_eq_true (by kernel_rfl)) _
 ·exact Nat.add_le_add_left (show Code.cUnits (.builtin "type.__call__" ⟨.ref ca::us,[]⟩)≤4 from Nat.le_of_ble_eq_true (by kernel_rfl)) _
theorem acn{C:Cfg}(W0:World0 C){A:Around}{Φ:Fx}(hh:A.handled=none)(hu:A.units+64<cLine)(F:FxOk C A Φ):RunOk C A Φ where
 O:=W0.O
 hh:=hh
 hu:=hu
 hfree:=W0.hfree
 F:=F
 hbig:=W0.hbig
 sorted:=fun env sc X ρ ev fp args kw p target σ σ' K T N hf hkw e=>a7g W0.O hh W0.hfree K T N hf hkw e
theorem afv{C:Cfg}(W0:World0 C):∀(n:Nat) (A:Around),A.handled=none→A.depth+2*n≤recursionLimit→A.units+8*n+64<cLine→FxOk C A (fx n)
 |0,A,_,_,_=>⟨fun k ds d e=>by simp[fx]at e,fun k vs σ W σ' e=>by simp[fx]at e⟩
 |n+1,A,hh,hd,hu=>by
  have deep:∀B:Around,B.handled=none→B.depth≤A.depth+1→B.units≤A.units+4→B.depth<recursionLimit∧∀env,RunOk C (B.deeper env) (fx n):=fun B b1 b2 b3=>by
   refine⟨by exact ao3 hd b2,fun env=>acn W0 b1 ?_ (afv W0 n _ b1 ?_ ?_)⟩
   ·refine(?_:B.units+3+64<cLine);exact alf hu b3
   ·refine(?_:B.depth+1+2*n≤recursionLimit);exact aof hd b2
   ·refine(?_:B.units+3+8*n+64<cLine);exact ame hu b3
  have here:=deep A hh (Nat.le_succ _) (Nat.le_add_right _ _)
  have there:=fun ca us=>deep (A.under (.builtin "type.__call__" ⟨.ref ca::us,[]⟩)) ((r4 A ca us).1.trans hh) (r4 A ca us).2.1 (r4 A ca us).2.2
  constructor
  ·intro k ds d e
   simp only[fx]at e
   split at e
   ·rename_i F hk
    refine dz (W0.pure k _ hk) ?_;intro fa k1 k2 I
    refine⟨fa,k1,k2,fun X α σ s us E Q r rs h=>wpAny_call ?_⟩
    exact v8 (f:=om (fx n) F) r rs (fun X α σ vs W σ' r rs e h=>ul W0.O I here.1 here.2 r rs e h) e h
   ·rename_i c F hk
    refine dz (W0.pure k _ hk) ?_;intro fa k1 k2 I
    refine⟨fa,k1,k2,fun X α σ s us E Q r rs h=>wpAny_call ?_⟩
    exact v8 (f:=v7 (fx n) c F) r rs (fun X α σ vs W σ' r rs e h=>a5t W0.O I (there fa us).1 (there fa us).2 r rs e h) e h
   ·cases e
  ·intro k vs σ W σ' e
   simp only[fx]at e
   split at e
   ·rename_i F hk
    refine dz (W0.eff k _ hk) ?_;intro fa k1 k2 I
    exact⟨fa,k1,k2,fun X α s us E Q r rs h=>afm W0.O I here.1 here.2 r rs e h⟩
   ·rename_i c F hk
    refine dz (W0.eff k _ hk) ?_;intro fa k1 k2 I
    exact⟨fa,k1,k2,fun X α s us E Q r rs h=>wpAny_call (a5t W0.O I (there fa us).1 (there fa us).2 r rs e h)⟩
   ·cases e
noncomputable def q8:Addr:=325
noncomputable def zg:Nat→List Obj→Frag
 |_,[]=>[]
 |i,o::r=>match alive o with
  |some o'=>if i=q8 then zg (i+1) r else(i,o')::zg (i+1) r
  |none=>zg (i+1) r
noncomputable def a38(h:Heap):Frag:=zg 0 h.objs.toList
theorem a67{a:Addr}{o:Obj}:∀{l:List Obj}{i:Nat},(zg i l).lookup a=some o→a≠q8∧i≤a∧(l[a-i]?).bind alive=some o
 |[],i,e=>nomatch e
 |x::r,i,e=>by
  have later:(zg (i+1) r).lookup a=some o→a≠q8∧i≤a∧((x::r)[a-i]?).bind alive=some o:=fun e=>by
   refine f5 (a67 e) ?_;intro h1 h2 h3
   refine⟨h1,Nat.le_of_succ_le h2,?_⟩
   rw[show a-i=(a-(i+1))+1 from(Nat.sub_add_eq a i 1▸Nat.sub_add_cancel (Nat.sub_pos_of_lt h2)).symm,List.getElem?_cons_succ]
   exact h3
  unfold zg at e
  cases hx:alive x with
  |none=>rw[hx]at e;exact later e
  |some o'=>
   rw[hx]at e
   dsimp only at e
   by_cases hp:i=q8
   ·rw[if_pos hp]at e;exact later e
   ·rw[if_neg hp,List.lookup_cons]at e
    cases hb:a==i with
    |false=>rw[hb]at e;exact later e
    |true=>
     rw[hb]at e
     cases e
     have:=eq_of_beq hb
     subst this
     exact⟨hp,Nat.le_refl _,by rw[Nat.sub_self];exact hx⟩
theorem aax{h:Heap}{a:Addr}{o:Obj}(e:(h.objs.toList[a]?).bind alive=some o):h.get? a=some o:=by
 rw[Array.getElem?_toList]at e
 unfold Heap.get?
 refine bj e ?_;clear e;intro x e1 e2
 rw[e1]
 refine Eq.trans (b:=alive x) ?_ e2
 obtain⟨c,d,dt,sl⟩:=x
 cases dt<;>rfl
theorem a7j{h:Heap}{a:Addr}{o:Obj}(e:(a38 h).lookup a=some o):a≠q8∧h.get? a=some o:=by
 refine f5 (a67 e) ?_;intro h1 _ h3
 exact⟨h1,aax h3⟩
noncomputable def ah2:D→Value
 |.bool b=>.bool b
 |.int i=>.int i 378
 |_=>.none
noncomputable def a8j:D→Bool
 |.bool _|.int _|.none=>true
 |_=>false
theorem a6j{C:Cfg}{h:Heap}{B:Addr→Prop}:∀{ds:List D},ds.all a8j=true→RepDs C h B (ds.map ah2) ds
 |[],_=>.nil
 |d::ds,e=>by
  rw[List.all_cons,Bool.and_eq_true]at e
  refine .cons ?_ (a6j e.2)
  cases d<;>first|exact .none|exact .bool _|exact .int _ _|exact nomatch e.1
noncomputable def m5(f:Nat→Value)(n:Nat):List Value:=(List.range n).map f
theorem afj (l:List Value):m5 (fun i=>l.getD i .none) l.length=l:=by
 unfold m5
 apply List.ext_getElem (by simp)
 intro i h1 h2
 simp[List.getD_eq_getElem?_getD,List.getElem?_eq_getElem h2]
noncomputable abbrev mi:=Option (Scope×FuncBody×(Setting→(Nat→Value)→List (Option (List (Str×Value)))))
noncomputable def hdSees(K:Frag):Value→Bool
 |.ref c=>codeHdIn K c q8
 |_=>false
noncomputable def a8d (K:Frag)(F:Fn)(fd:FuncData):Bool:=
 ah4 F&&codeIn K fd.code fd.qualname&&fd.globals==mainGlobals&&fd.builtins==builtinsNs&&fd.closure.isEmpty&&F.dflts.all a8j&&decide (F.dflts.length≤F.params.length)&&
 (F.scope.names.lookup ("sorted":Str)!=some .globalImplicit||hdSees K fd.code)
noncomputable def ahw (K:Frag)(F:Fn)(fd:FuncData):mi:=if a8d K F fd=true then
 some (fd.scope,fd.body,fun S f=>(List.range (F.dflts.length+1)).map fun j=>PySem.W.peek K S (bindArgs fd ⟨m5 f (F.params.length-F.dflts.length+j),[]⟩))else none
noncomputable def aez(K:Frag)(F:Fn):Data→mi
 |.func fd=>ahw K F fd
 |_=>none
noncomputable def a7f(K:Frag)(F:Fn)(fa:Addr):mi:=(K.lookup fa).bind fun o=>aez K F o.data
noncomputable def xd (F:Fn):mi:=
 some (F.scope,.stmts F.body,fun _ f=>(List.range (F.dflts.length+1)).map fun j=>some (F.params.zip (m5 f (F.params.length-F.dflts.length+j)++(F.dflts.map ah2).drop j)))
noncomputable def ady:Def→Fn
 |.fn F=>F
 |.cls _ F=>F
noncomputable def ae2 (K:Frag)(F:Fn):Value→mi
 |.ref fI=>if(typeIn K (.ref fI)==some (.type "function"))=true then a7f K F fI else none
 |_=>none
noncomputable def afo (K:Frag) (fa:Addr):Def→mi
 |.fn F=>a7f K F fa
 |.cls cn F=>if(dl K cn==some fa&&makesIn K fa)=true then(findIn K (.ref fa) "__init__").bind fun o=>o.bind (ae2 K F)else none
noncomputable def a2y(K:Frag)(e:Key×Def):mi:=(kl K e.1).bind fun fa=>if a10 K e.1 fa=true then afo K fa e.2 else none
noncomputable def a2o:List (Key×Def):=(.fn "law",.fn acd)::af++nk
noncomputable def afd(b:Int):Value→Bool
 |.int a _=>a==b
 |_=>false
noncomputable def u5(v:Value):D→Bool
 |.bool b=>v==.bool b
 |.int b=>afd b v
 |.str b=>v.isStr b
 |.none=>v==.none
 |_=>false
noncomputable def pb:List Value→List D→Bool
 |[],[]=>true
 |v::vs,d::ds=>u5 v d&&pb vs ds
 |_,_=>false
noncomputable def a8a (ds:List D):Data→Bool
 |.seq vs _=>decide (ds.length≤1000001)&&pb vs.toList ds
 |_=>false
noncomputable def a8s(ds:List D):Option Obj→Bool
 |some o=>o.cls==.type "tuple"&&a8a ds o.data
 |none=>false
noncomputable def a15 (K:Frag)(v:Value):D→Bool
 |.tuple ds=>(match v with|.ref a=>a8s ds (K.lookup a)|_=>false)
 |d=>u5 v d
noncomputable def a3e:List Str:=o7 ["SYLLABLE_FIRST","LEAD_FIRST","VOWEL_FIRST","TAIL_NONE","LEADS","VOWELS","TAILS","SYLLABLES","CLUSTER_ENDS","CLUSTER_MARKS","CLUSTER_JOINTS","COLLKEY_TOP","SEARCH_LEVELS","MAX_CODE","COLL_OTHERS","COLL_CORE","COLL_EXTENSIONS","_law_signs"]
noncomputable def yt (K:Frag):Bool:=
 a3e.all (fun x=>match nsIn K mainGlobals x,xz x with|some (some v),some d=>a15 K v d|_,_=>false)&&
 e7.all (fun x=>match nsIn K mainGlobals x with|some none=>true|_=>false)&&
 qt.all (fun c=>match dl K c with|some a=>ab5 K a&&abf K a|none=>true)&&
 (K.lookup sysModules).isSome&&codeHdIn K 327 q8
noncomputable def xm (h:Heap):List mi×Bool×Option Obj:=(a2o.map (a2y (a38 h)),yt (a38 h),h.get? q8)
noncomputable def sm:List mi×Bool×Option Obj:=(a2o.map fun e=>xd (ady e.2),true,some (tabObj #[]))
theorem a63{C:Cfg}{h:Heap}{B:Addr→Prop}{v:Value}{d:D}(e:u5 v d=true):RepD C h B v d:=by
 cases d with
 |bool b=>exact eq_of_beq e▸.bool b
 |none=>exact eq_of_beq e▸.none
 |int b=>cases v with
  |int a t=>exact eq_of_beq e▸.int a t
  |_=>exact nomatch e
 |str b=>cases v with
  |str a t=>exact eq_of_beq e▸.str a t
  |_=>exact nomatch e
 |_=>exact nomatch e
theorem a1p{C:Cfg}{h:Heap}{B:Addr→Prop}:∀{vs:List Value}{ds:List D},pb vs ds=true→vs.length=ds.length∧RepDs C h B vs ds
 |[],[],_=>⟨rfl,.nil⟩
 |[],_::_,e=>nomatch e
 |_::_,[],e=>nomatch e
 |v::vs,d::ds,e=>by
  have e':=Bool.and_eq_true_iff.mp (show(u5 v d&&pb vs ds)=true from e)
  have ih:=a1p (C:=C) (h:=h) (B:=B) e'.2
  exact⟨congrArg (·+1) ih.1,.cons (a63 e'.1) ih.2⟩
theorem aam{C:Cfg}(X:C.K.In C.base){v:Value}{d:D}(e:a15 C.K v d=true):RepD C C.base (fun _=>False) v d:=by
 cases d with
 |tuple ds=>cases v with
  |ref a=>
   have e:a8s ds (C.K.lookup a)=true:=e
   cases ho:C.K.lookup a with
   |none=>rw[ho]at e;exact nomatch e
   |some o=>
    rw[ho]at e
    have q:=Bool.and_eq_true_iff.mp (show (o.cls==.type "tuple"&&a8a ds o.data)=true from e)
    refine bk q fun q1 q2=>?_
    cases hd:o.data with
    |seq vs n=>
     rw[hd]at q2
     have e':=Bool.and_eq_true_iff.mp (show (decide (ds.length≤1000001)&&pb vs.toList ds)=true from q2)
     have f:=a1p (C:=C) (h:=C.base) (B:=fun _=>False) e'.2
     have hl:vs.toList.length≤1000001:=f.1▸of_decide_eq_true e'.1
     exact .tuple (vs:=vs.toList) ⟨o,X _ _ ho,eq_of_beq q1,n,hd⟩ (fun z=>z) hl f.2
    |_=>rw[hd]at q2;exact nomatch q2
  |_=>exact nomatch e
 |_=>exact a63 e
theorem zu{α β:Type}{f g:α→β}:∀{l:List α},l.map f=l.map g→∀{x:α},x∈l→f x=g x
 |_::_,e,_,.head _=>(List.cons.inj e).1
 |_::_,e,_,.tail _ h=>zu (List.cons.inj e).2 h
theorem qn{k:Key}{d:Def}:∀{l:List (Key×Def)},l.lookup k=some d→(k,d)∈l
 |[],e=>nomatch e
 |(k',d')::l,e=>by
  rw[List.lookup_cons]at e
  cases hb:k==k' with
  |true=>rw[hb]at e;(apply j8 e;clear e);rw[eq_of_beq hb];exact .head _
  |false=>rw[hb]at e;exact .tail _ (qn e)
theorem FnIn.of_look{C:Cfg}(X:C.K.In C.base) (hP:C.P=q8){fa:Addr}{F:Fn}(e:a7f C.K F fa=xd F):FnIn C fa F:=by
 refine bj e ?_;clear e;intro o ho e
 cases hd:o.data with
 |func fd=>
  rw[hd]at e
  refine ai e (fun hg e=>?_) fun _ e=>no e
  have e1:=Option.some.inj e
  have e2:=congrArg Prod.fst e1
  have e3:=congrArg (fun x=>x.2.1) e1
  have e4:=congrArg (fun x=>x.2.2) e1
  clear e e1
  dsimp only at e2 e3 e4
  obtain⟨cl,dt,dat,sl⟩:=o
  cases hd
  simp only[a8d,Bool.and_eq_true,beq_iff_eq,decide_eq_true_eq,Bool.or_eq_true,bne_iff_ne,ne_eq,List.isEmpty_iff]at hg
  refine bk hg ?_;clear hg;intro pq0 g8;obtain⟨⟨⟨⟨⟨⟨g1,g2⟩,g3⟩,g4⟩,g5⟩,g6⟩,g7⟩:=pq0
  refine⟨g1,_,fd,X _ _ ho,rfl,e2,e3,g3,g4,g5,codeRec_of X g2,fun q=>?_,fun us vs bs eb hl=>?_⟩
  ·rcases g8 with g8|g8
   ·exact absurd q g8
   ·cases hc:fd.code with
    |ref c=>rw[hc]at g8;exact⟨c,rfl,hP▸codeHd_of_K X g8⟩
    |_=>rw[hc]at g8;exact nomatch g8
  ·refine ai (c:=(decide (vs.length≤F.params.length)&&decide (F.params.length≤vs.length+F.dflts.length))=true) eb (fun hlen eb=>?_) fun _ e=>no e
   rw[Bool.and_eq_true,decide_eq_true_eq,decide_eq_true_eq]at hlen
   (apply j8 eb;clear eb)
   have hj:∃j,j≤F.dflts.length∧us.length=F.params.length-F.dflts.length+j∧vs.length+F.dflts.length-F.params.length=j:=⟨vs.length+F.dflts.length-F.params.length,by exact ao0 hlen,by exact ant g7 hl hlen,rfl⟩
   refine dz hj ?_;clear hj;intro j h1 h2 h3
   refine⟨(F.dflts.map ah2).drop j,F.dflts.drop j,?_,by rw[h3],fun s hs=>?_⟩
   ·rw[←List.map_drop];exact a6j (List.all_eq_true.mpr fun x hx=>List.all_eq_true.mp g6 x (List.mem_of_mem_drop hx))
   ·intro M A E Q q
    have e5:=congrFun (congrFun e4 ⟨M.prog,M.w.params⟩) (fun i=>us.getD i .none)
    have e6:=zu e5 (x:=j) (List.mem_range.mpr (Nat.lt_succ_of_le h1))
    rw[←h2,afj]at e6
    exact Looks.of_peek (X.keeps hs) e6 A Q E s (fun _ _ z=>z) q
 |_=>rw[hd]at e;exact no e
theorem zn.of_look{C:Cfg}(X:C.K.In C.base) (hP:C.P=q8){k:Key}{d:Def}(e:a2y C.K (k,d)=xd (ady d)):zn C k d:=by
 refine bj e ?_;clear e;intro fa ha e
 refine ai e (fun hk e=>?_) fun _ e=>no e
 cases d with
 |fn F=>exact⟨fa,ha,hk,FnIn.of_look X hP e⟩
 |cls cn F=>
  refine ai e (fun hc e=>?_) fun _ e=>no e
  rw[Bool.and_eq_true,beq_iff_eq]at hc
  refine bj e fun o ho e=>bj e fun v hv e=>?_
  cases v with
  |ref fI=>exact ai e (fun ht e=>⟨fa,ha,hk,hc.1,hc.2,fI,ho.trans (congrArg some hv),eq_of_beq ht,FnIn.of_look X hP e⟩) fun _ e=>no e
  |_=>exact no e
noncomputable def ki (h:Heap):Prop:=∃K:Frag,(∀a o,K.lookup a=some o→a≠q8∧h.get? a=some o)∧a2o.map (a2y K)=a2o.map (fun e=>xd (ady e.2))∧yt K=true∧h.get? q8=some (tabObj #[])
theorem ki.of{h:Heap}(e:xm h=sm):ki h:=
 ⟨a38 h,fun a o e=>a7j e,congrArg Prod.fst e,congrArg (fun x=>x.2.1) e,congrArg (fun x=>x.2.2) e⟩
theorem ki.keeps{h h':Heap}(T:ki h)(k:∀b o,h.get? b=some o→h'.get? b=some o):ki h':=
 let⟨K,h1,h2,h3,h4⟩:=T;⟨K,fun a o e=>⟨(h1 a o e).1,k _ _ (h1 a o e).2⟩,h2,h3,k _ _ h4⟩
end
section
open PySem PySem.W PySem.Calls PyProof.Rows
theorem amr{P:Params}{h:Heap}{vs:List Value}{ns:List Int}(r:WellAll P h vs (ns.map .int)){C:Cfg}{B:Addr→Prop}:RepDs C h B vs (ns.map .int):=by
 induction ns generalizing vs with
 |nil=>cases r;exact .nil
 |cons n ns ih=>cases r with|cons w r=>cases w;exact .cons (.int _ _) (ih r)
theorem a7q:∀ns:List Int,ofPy (PyData.list (ns.map PyData.int))=.list (ns.map .int):=by
 intro ns
 have:∀ns:List Int,ofPys (ns.map PyData.int)=ns.map .int:=by
  intro ns
  induction ns with
  |nil=>simp[ofPys]
  |cons n ns ih=>simp[ofPys,ofPy,ih]
 simp[ofPy,this]
theorem abp{P:Params}{h:Heap}{vs:List Value}{ds:List WData}(r:WellAll P h vs ds):vs.length=ds.length:=by
 induction ds generalizing vs with
 |nil=>cases r;rfl
 |cons d ds ih=>cases r with|cons _ r=>exact congrArg Nat.succ (ih r)
theorem a8z{K:Frag}{cn:Str}{c:Addr}(e:dl K cn=some c):cn∈qt:=by
 unfold dl at e
 split at e
 ·rename_i h;exact List.contains_iff_mem.mp h
 ·cases e
theorem a82{x:Str}{d:D}(e:xz x=some d):x∈a3e:=by
 have key:∀{l:List (Str×D)},l.lookup x=some d→x∈l.map (·.1):=by
  intro l
  induction l with
  |nil=>intro e;cases e
  |cons p l ih=>
   intro e
   rw[List.lookup_cons]at e
   cases hb:x==p.1 with
   |true=>rw[eq_of_beq hb];exact .head _
   |false=>rw[hb]at e;exact .tail _ (ih e)
 exact key e
theorem apn (LT:∀ns:List Int,ns.length≤63→law ns=some (.bool true)){q:Program}{loose:List Str}{d:DefRec}{kwd:List (Str×Expr)}(hn:d.name=("law":Str)):
  WalkO q loose (fun _ _=>True) (fun _ h=>ki h) PySem.Challenge.rw_nt0081_01.row.toRowW d kwd fun f vs=>PySem.call f vs:=by
 intro w s₀ s₁ mg mb G Y fa o pm cd doc dV kV ho hd hcd hD hmg hg args m5 as hpre hlay hrd hwl hlo
 have T:=G.T
 clear hD hrd
 have hsh:=(pre_splitW hpre).1
 have hcond:=(pre_splitW hpre).2
 wrow_hasAll hsh hlay
 rename_i ns _ _ _ _ _
 have hlen:ns.length≤63:=by
  w_cond hcond
  exact amo (by assumption)
 cases hwl with|cons w1 w2=>
 cases w2
 have w1':Well w.params s₁.heap _ (.list (ns.map .int)):=a7q ns▸w1
 cases w1' with|@list l vs _ hl wl=>
 refine alo Y ?_;clear Y;intro K hK tabs bools hP
 let TB:List (Addr×Addr):=[(327,325)]
 simp only [yt,Bool.and_eq_true,List.all_eq_true] at bools
 refine bk bools ?_;clear bools;intro pq0 b5;obtain ⟨⟨⟨b1,b2⟩,b3⟩,b4⟩:=pq0
 have X₁:K.In s₁.heap:=fun a o e=>(hK a o e).2
 have hT:TabsAt TB s₁.heap:=fun p hp=>by
  rw [List.mem_singleton.mp hp]
  exact ⟨codeHd_of_K X₁ b5,hP⟩
 have X₂:K.In (ghostOf s₁.heap TB):=fun a o e=>ghost_ne (hK a o e).2 fun q=>(hK a o e).1 (List.mem_singleton.mp q)
 let C:Cfg:=⟨pw,w,K,ghostOf s₁.heap TB,q8,mg,mb⟩
 have bmain:(ghostOf s₁.heap TB).BuiltinsAt mg q8:=by
  obtain ⟨bm,ob,h1,h2,h3,h4,h5,h6⟩:=T.bmain
  refine ⟨bm,ob,h1,h2,fun q=>?_,fun q=>?_,ghost_get hT h3 (fun q=>by rw [q] at h6;cases h6),h4,h5,h6⟩
  ·refine ahd T.g ?_;intro o' es ep e1 e2 _
   rw [q,e1] at h3;cases h3;rw [e2] at h6;cases h6
  ·rw [q,hP] at h3;cases h3;cases h6
 have O:Ok C:={
  kin:=X₂
  g:=ghost_ns hT T.g
  b:=ghost_ns hT T.b
  blt:=T.builtins
  ba:=bmain
  nolimit:=by (refine ar T.nolimit ?_;intro mc a r);exact ⟨mc,ghost_ns hT a,r⟩
  consts:=fun x d e=>by
   have hx:x∈a3e:=a82 e
   have:=b1 x hx
   rw [e] at this
   split at this
   ·rename_i v d' h1 h2
    cases h2
    exact ⟨v,mg_of X₂ (ghost_ns hT T.g) h1,aam (C:=C) X₂ this⟩
   ·cases this
  cls:=fun cn c e=>by
   have:=b3 cn (a8z e)
   rw [e] at this
   exact (Bool.and_eq_true_iff.mp this).1
  set:=fun cn c e=>by
   have:=b3 cn (a8z e)
   rw [e] at this
   exact (Bool.and_eq_true_iff.mp this).2}
 have W0:World0 C:={
  O:=O
  hfree:=fun f hf=>by
   have:=b2 f (List.contains_iff_mem.mp hf)
   split at this
   ·rename_i h;exact mg_none_of X₂ (ghost_ns hT T.g) h
   ·cases this
  hbig:=by
   refine ex1 (Option.isSome_iff_exists.mp b4) ?_;intro o ho
   exact Heap.lt_size (X₂ _ _ ho)
  pure:=fun k df e=>zn.of_look (C:=C) X₂ rfl (zu tabs (List.mem_cons_of_mem _ (List.mem_append_left _ (qn e))))
  eff:=fun k df e=>zn.of_look (C:=C) X₂ rfl (zu tabs (List.mem_cons_of_mem _ (List.mem_append_right _ (qn e))))}
 refine dz (zn.of_look (C:=C) X₂ rfl (zu tabs (List.mem_cons_self ..))) ?_;intro fa' k1 _ I
 have hfa:fa'=fa:=by
  have:=mg_of X₂ (ghost_ns hT T.g) (ac8 k1)
  rw [hn,this] at hmg
  cases hmg;rfl
 (apply re1 hfa;clear hfa)
 refine enter_call ?_
 refine kn_post (tabs:=TB) hT (fun _ _=>rfl) ?_
 have r:SRel C (fun a=>a=q8) [] ⟨[],0⟩ s₁.heap:={
  len:=rfl
  obj:=fun i p o h1 h2=>by simp at h1
  apart:=fun i j p q h1 h2=>by simp at h1
  notX:=fun i p h1=>by simp at h1
  notBase:=fun i p h1=>by simp at h1
  lt:=fun i p h1=>by simp at h1
  xBase:=fun a x=>by subst x;exact hideAll_none _ (List.mem_singleton.mpr rfl)
  xLt:=fun a x=>by subst x;exact Heap.lt_size hP
  xP:=rfl
  stays:=fun b o e=>of_hideAll _ e
  sz:=Nat.le_of_eq (hideAll_size _ _)
  tab:=⟨#[],hP,trivial⟩}
 have hl':vs.length≤1000001:=by
  have:=abp wl
  rw [List.length_map] at this
  exact aiz hlen this
 have rs:RepDs C s₁.heap (Bad (fun a=>a=q8) ⟨[],0⟩ []) [.ref l] [.list (ns.map .int)]:=
  .cons (.list ⟨_,hl⟩ (fun m=>m.elim (fun q=>by rw [q,hP] at hl;cases hl) p5) hl' (amr wl)) .nil
 have hd2:callerA.depth+2*21≤recursionLimit:=by decide+kernel
 have hu2:callerA.units+8*21+64<cLine:=by decide+kernel
 refine v8 (C:=C) (A:=callerA) (f:=om (fx 20) acd) r rs (fun X α σ vs W σ' r rs e h=>ul O I (by decide+kernel) (fun env=>acn W0 rfl ?_ (afv W0 20 _ rfl ?_ ?_)) r rs e h) (LT ns hlen) fun v s' S rv=>?_
 ·refine (?_:callerA.units+3+64<cLine);exact am5 hu2
 ·refine (?_:callerA.depth+1+2*20≤recursionLimit);exact akt hd2
 ·refine (?_:callerA.units+3+8*20+64<cLine);exact alh hu2
 ·cases rv
  refine a2b S.sh ?_;intro h' tk rf2;subst rf2
  refine ⟨⟨.inl ⟨_,.bool true,[],rfl,fun _=>rfl,.bool true,by wrow_post,fun _=>⟨List.nodup_nil,fun a h=>nomatch h⟩⟩,fun b o e=>?_,rfl,hg⟩,?_,trivial⟩
  ·exact S.srel.stays b o e
  ·refine ar S.srel.tab ?_;intro ps h1 _
   exact ⟨ps,h1⟩
theorem aqb:∀w:World,(fun os=>(kq pw w 11 (some (.ref 6)) 6000 ⟨a1w w.params,11,(boot_heap w.params).life,#[],boot_drawn,boot_toks,os⟩ (topStub pw)).map fun s=>((staticsOk (importedModules pw.main.body) (boot_heap w.params) s.abs.heap&&namesBound pw s.abs.heap&&gensDone s.abs&&laidKept (boot_heap w.params) s.abs.heap,
  PySem.W.Fast.tw4187177175401517315 uc u4 (importedModules pw.main.body) (fun _=>true) true s.abs),xm s.abs.heap))=fun _=>some ((true,openGood uc u4),sm):=by
 intro w;kernel_rfl
theorem left:LeftO pw uc u4 (fun _=>true) (fun s=>xm s.heap) (fun _=>sm) 12000 true:=by
 refine amf (T₀:=a1w) (n₁:=11) (M:=6000) (boot_open (by kernel_rfl) (by kernel_rfl) fun s=>by kernel_rfl) (l₀:=fun P=>(boot_heap P).life) (fun P=>?_) aa9 (by kernel_rfl) fun w=>?_
 ·exact a9o P
 ·funext os
  obtain⟨s,h1,h2⟩:=Option.map_eq_some_iff.mp (congrFun (aqb w) os)
  have e:(kq pw w 11 (some (.ref 6)) 6000 ⟨a1w w.params,11,(boot_heap w.params).life,#[],boot_drawn,boot_toks,os⟩ (topStub pw))=some s:=h1
  show(kq pw w 11 (some (.ref 6)) 6000 ⟨a1w w.params,11,(boot_heap w.params).life,#[],boot_drawn,boot_toks,os⟩ (topStub pw)).map _=_
  rw[h1,PySem.W.Fast.te4187177175401517315]
  have h6:=Prod.mk.inj h2
  have h5:=Prod.mk.inj h6.1
  show some (_,_,_)=some (_,_,_)
  rw[h5.1,h5.2,h6.2]
theorem agf:(defOf uc "law").map (fun x=>(x.1.name,some (x.1.params,x.1.body,x.1.scope),kwWritten? x.1.params.kwonlyargs x.1.params.kw_defaults,x.2))=some (("law":Str),pw.theDef "law",some [],[]):=by kernel_rfl
theorem holds (LT:∀ns:List Int,ns.length≤63→law ns=some (.bool true)):PySem.Challenge.rw_nt0081_01.Holds:=by
 refine holds_law apr fun ok=>?_
 obtain⟨⟨d,kwd⟩,hdef,e⟩:=Option.map_eq_some_iff.mp agf
 simp only[Prod.mk.injEq]at e
 obtain⟨e1,e2,e3,e4⟩:=e
 subst e4
 exact PySem.W.holds_open (q:=uc) (loose:=u4) (Xt:=fun _=>true) (XP:=fun _ _=>True) (Yf:=fun s=>xm s.heap) (Ya:=fun _=>sm) (YP:=fun _ h=>ki h) (N:=12000) left (fun w s e=>ki.of e) (fun w h h' T k=>T.keeps k)
  (fun _ _=>trivial) (fun _ _ _ _ _=>trivial) hdef e2.symm e3 (fun s _=>recFacts_nil rfl) rfl ok (by kernel_rfl) ⟨rfl,rfl,rfl,rfl,rfl,by decide+kernel⟩ ⟨[.list []],by decide+kernel,by decide+kernel⟩ (apn LT e1)
end
section
open PySem
noncomputable def f7(sc:Scope)(x:Str):Bool:=sc.names.lookup x==some .globalImplicit
theorem vq{sc:Scope}{x:Str}(h:f7 sc x=true):sc.names.lookup x=some .globalImplicit:=by simpa[f7]using h
section
variable(Φ:Fx)(n:Nat)(sc:Scope)(ρ:Rho)(σ:Sto)
theorem ab7{o a p}(h:f8 o=true):evE Φ (n+1) sc ρ (.Attribute o a p) σ=(evE Φ n sc ρ o σ).bind fun p=>(ph p.2 p.1 a).map fun v=>(v,p.2):=by
 show(if !f8 o then none else(evE Φ n sc ρ o σ).bind fun p=>(ph p.2 p.1 a).map fun v=>(v,p.2))=_
 rw[h];rfl
theorem a9i (o l u st c p):evE Φ (n+1) sc ρ (.Subscript o (.Slice l u st c) p) σ=(evE Φ n sc ρ o σ).bind fun p=>(evO (evE Φ n sc ρ) l p.2).bind fun ql=>(evO (evE Φ n sc ρ) u ql.2).bind fun qu=>(evO (evE Φ n sc ρ) st qu.2).bind fun qs=>if !(qu.1.all eh&&ql.1.all eh)then none else
 (peek qs.2 p.1).bind fun x=>match x,qs.1 with
  |.list xs,none=>some (.d (.list (cut xs ql.1 qu.1)),qs.2)
  |.tuple xs,none=>(match ql.1,qu.1 with|none,some b=>if 1≤b∧b<xs.length then some (.d (.tuple (xs.take b.toNat)),qs.2)else none|_,_=>none)
  |.list xs,some (-1)=>if ql.1.isNone&&qu.1.isNone then some (.d (.list xs.reverse),qs.2)else none
  |_,_=>none:=rfl
theorem aav (l op r p):evE Φ (n+1) sc ρ (.BinOp l op r p) σ=(evE Φ n sc ρ l σ).bind fun p=>(evE Φ n sc ρ r p.2).bind fun q=>(peek q.2 p.1).bind fun a=>(peek q.2 q.1).bind fun b=>(f9 op a b).map fun d=>(.d d,q.2):=rfl
theorem af3 (x p):evE Φ (n+1) sc ρ (.UnaryOp .Not x p) σ=(evE Φ n sc ρ x σ).bind fun p=>match p.1 with|.d (.bool b)=>some (.d (.bool !b),p.2)|_=>none:=rfl
theorem adj (x p):evE Φ (n+1) sc ρ (.UnaryOp .USub x p) σ=(evE Φ n sc ρ x σ).bind fun p=>match p.1 with|.d (.int i)=>some (.d (.int (-i)),p.2)|_=>none:=rfl
theorem ae8{l ops rs p}(h:lastMarks ops rs=false):evE Φ (n+1) sc ρ (.Compare l ops rs p) σ=(evE Φ n sc ρ l σ).bind fun p=>(j5 (evE Φ n sc ρ) p.1 ops rs p.2).map fun q=>(.d (.bool q.1),q.2):=by
 show(if lastMarks ops rs then none else(evE Φ n sc ρ l σ).bind fun p=>(j5 (evE Φ n sc ρ) p.1 ops rs p.2).map fun q=>(V.d (.bool q.1),q.2))=_
 rw[h];rfl
theorem a9x (t b o p):evE Φ (n+1) sc ρ (.IfExp t b o p) σ=(evT Φ n sc ρ t σ).bind fun p=>if p.1 then evE Φ n sc ρ b p.2 else evE Φ n sc ρ o p.2:=rfl
theorem aa5{es i p}(h:es.length≤1000):evE Φ (n+1) sc ρ (.Tuple es i p) σ=(a05 (evE Φ n sc ρ) es σ).map fun p=>(.d (.tuple p.1),p.2):=if_neg (Nat.not_lt.mpr h)
theorem ado{es p}(h:es.length≤1000):evE Φ (n+1) sc ρ (.List es p) σ=(a05 (evE Φ n sc ρ) es σ).map fun p=>(.d (.list p.1),p.2):=if_neg (Nat.not_lt.mpr h)
noncomputable def nu (Φ:Fx) (n:Nat) (csc:Scope) (ρ:Rho) (elt target:Expr) (ifs:List Expr) (live:Bool) (ver:Nat) (x:D) (σ:Sto):Option (Option D×Sto):=
 (aj 4 target x ((bz 4 target).map fun y=>(y,none))).bind fun ρc=>
  (mo (evT Φ n csc (ρc++r5 csc ρ)) ifs σ).bind fun t=>if t.1 then(evE Φ n csc (ρc++r5 csc ρ) elt t.2).bind fun q=>(toD q.2 q.1).bind fun u=>if live&&u.2.ver !=ver then none else some (some u.1,u.2)else
   if live&&t.2.ver !=ver then none else some (none,t.2)
theorem a5g{elt target iter ifs csc p}(h:(js sc csc target&&n7 target iter)=true):evE Φ (n+1) sc ρ (.ListComp elt [⟨target,iter,ifs,0⟩] csc p) σ=(gf Φ n sc ρ iter σ).bind fun p=>if fe p.1.1.length=true then
  (be (nu Φ n csc ρ elt target ifs p.1.2 p.2.ver) p.1.1 p.2).map fun q=>(.d (.list q.1),q.2)else none:=by
 show(if !(js sc csc target&&n7 target iter)then none else(gf Φ n sc ρ iter σ).bind fun p=>if !fe p.1.1.length then none else
  (be (nu Φ n csc ρ elt target ifs p.1.2 p.2.ver) p.1.1 p.2).map fun q=>(V.d (.list q.1),q.2))=_
 rw[h]
 simp only[Bool.not_true,Bool.false_eq_true,if_false]
 congr 1;funext q
 cases fe q.1.1.length<;>rfl
theorem abd{f c args pos}(h:(f7 sc f&&fw.contains f)=true):evE Φ (n+1) sc ρ (.Call (.Name f c) args [] pos) σ=(fj (evE Φ n sc ρ) args σ).bind fun p=>(a00 p.1 p.2).bind fun q=>(Φ.pure (.fn f) q.1).map fun d=>(.d d,q.2):=by
 rw[Bool.and_eq_true]at h
 show(match sc.names.lookup f with
  |some .globalImplicit=>if fw.contains f then _ else if ky.contains f then _ else if bw.contains f then _ else none
  |_=>none)=_
 rw[vq h.1];exact if_pos h.2
theorem ae4{f c args pos}(h:(f7 sc f&&!fw.contains f&&ky.contains f)=true):evE Φ (n+1) sc ρ (.Call (.Name f c) args [] pos) σ=(fj (evE Φ n sc ρ) args σ).bind fun p=>Φ.eff (.fn f) p.1 p.2:=by
 simp only[Bool.and_eq_true,Bool.not_eq_true']at h
 show(match sc.names.lookup f with
  |some .globalImplicit=>if fw.contains f then _ else if ky.contains f then _ else if bw.contains f then _ else none
  |_=>none)=_
 rw[vq h.1.1]
 show(if fw.contains f then _ else if ky.contains f then _ else if bw.contains f then _ else none)=_
 rw[h.1.2,h.2];rfl
theorem a4c{f c args pos}(h:(f7 sc f&&!fw.contains f&&!ky.contains f&&bw.contains f)=true):evE Φ (n+1) sc ρ (.Call (.Name f c) args [] pos) σ=(fj (evE Φ n sc ρ) args σ).bind fun p=>(builtin f p.2 p.1).map fun d=>(.d d,p.2):=by
 simp only[Bool.and_eq_true,Bool.not_eq_true']at h
 show(match sc.names.lookup f with
  |some .globalImplicit=>if fw.contains f then _ else if ky.contains f then _ else if bw.contains f then _ else none
  |_=>none)=_
 rw[vq h.1.1.1]
 show(if fw.contains f then _ else if ky.contains f then _ else if bw.contains f then _ else none)=_
 rw[h.1.1.2,h.1.2,h.2];rfl
theorem abx{o m apos args pos}(h:(f8 o&&apos.endLine==pos.line&&decide (args.length<30))=true):evE Φ (n+1) sc ρ (.Call (.Attribute o m apos) args [] pos) σ=(evE Φ n sc ρ o σ).bind fun p=>(fj (evE Φ n sc ρ) args p.2).bind fun q=>
  match m8 p.2 m p.1 with
  |some c=>if yn.contains m=true then Φ.eff (.meth c m) (p.1::q.1) q.2 else(a00 (p.1::q.1) q.2).bind fun u=>(Φ.pure (.meth c m) u.1).map fun d=>(.d d,u.2)
  |none=>if(gn p.2 p.1==gn q.2 p.1)=true then dm q.2 p.1 m q.1 else none:=by
 show(if !(f8 o&&apos.endLine==pos.line&&decide (args.length<30))then none else _)=_
 rw[h];rfl
theorem agq (e):evM Φ (n+1) sc ρ e σ=(evE Φ n sc ρ e σ).bind fun p=>some (if gx e then a6k p.2 p.1 else p):=rfl
noncomputable def agi(f:Str):Bool:=f !=("range":Str)&&f !=("enumerate":Str)&&f !=("zip":Str)&&f !=("sorted":Str)
theorem akz{f c args p}(h:agi f=true):gf Φ (n+1) sc ρ (.Call (.Name f c) args [] p) σ=(evE Φ n sc ρ (.Call (.Name f c) args [] p) σ).bind fun p=>a04 p.2 p.1:=by
 simp only[agi,Bool.and_eq_true,bne_iff_ne,ne_eq,←beq_eq_false_iff_ne]at h
 show(if f==("range":Str)then _ else if f==("enumerate":Str)then _ else if f==("zip":Str)then _ else if f==("sorted":Str)then _ else _)=_
 rw[h.1.1.1,h.1.1.2,h.1.2,h.2];rfl
theorem ads{c args p}(h:f7 sc ("range":Str)=true):gf Φ (n+1) sc ρ (.Call (.Name ("range":Str) c) args [] p) σ=(fj (evE Φ n sc ρ) args σ).bind fun p=>match p.1 with
 |[.d (.int b)]=>if(b≤1000000&&small b)=true then some ((ee 0 b,false),p.2)else none
 |[.d (.int a),.d (.int b)]=>if(small a&&small b&&decide (b-a≤1000000))=true then some ((ee a b,false),p.2)else none
 |_=>none:=Eq.trans (b:=if f7 sc ("range":Str)=true then _ else none) (by kernel_rfl) (if_pos h)
theorem aep{c args p}(h:f7 sc ("enumerate":Str)=true):gf Φ (n+1) sc ρ (.Call (.Name ("enumerate":Str) c) args [] p) σ=(fj (evE Φ n sc ρ) args σ).bind fun p=>match p.1 with
 |[.d (.list xs)]=>some ((gj 0 xs,false),p.2)
 |[.m i]=>(match p.2.objs[i]? with|some (.list xs)=>some ((gj 0 xs,true),p.2)|_=>none)
 |_=>none:=Eq.trans (b:=if f7 sc ("enumerate":Str)=true then _ else none) (by kernel_rfl) (if_pos h)
theorem agy{c args p}(h:f7 sc ("zip":Str)=true):gf Φ (n+1) sc ρ (.Call (.Name ("zip":Str) c) args [] p) σ=(fj (evE Φ n sc ρ) args σ).bind fun p=>match p.1 with
 |[.d (.list xs),.d (.list ys)]=>some ((x5 xs ys,false),p.2)
 |_=>none:=Eq.trans (b:=if f7 sc ("zip":Str)=true then _ else none) (by kernel_rfl) (if_pos h)
end
section
variable(Φ:Fx)(n:Nat)(sc:Scope)(muts:List Str)(s:St)
theorem lb (f t r):cc f (t::r) s=(f t s).bind fun p=>match p.1 with|.next=>cc f r p.2|x=>some (x,p.2):=rfl
theorem abr{e p}(h:gx e=false):evS Φ muts sc (n+1) (.Expr e p) s=(evE Φ ak sc s.ρ e s.σ).map fun p=>(.next,⟨s.ρ,p.2⟩):=by
 show(if gx e then none else _)=_
 rw[h];rfl
theorem ae6 (e p):evS Φ muts sc (n+1) (.Return (some e) p) s=(evE Φ ak sc s.ρ e s.σ).map fun p=>(.ret p.1,⟨s.ρ,p.2⟩):=rfl
theorem agg{ts i q es j r p}(h:(decide (es.length≤1000)&&vj sc ts es)=true):evS Φ muts sc (n+1) (.Assign [.Tuple ts i q] (.Tuple es j r) p) s=(aan Φ ak muts sc s.ρ ts es s.σ).bind fun p=>(ig Φ ak sc ts p.1 ⟨s.ρ,p.2⟩).map fun s=>(.next,s):=by
 simp only[Bool.and_eq_true,decide_eq_true_eq]at h
 show(if 1000<es.length||!vj sc ts es then none else _)=_
 rw[h.2,decide_eq_false (Nat.not_lt.mpr h.1)];rfl
theorem ahj (ts i q x c p):evS Φ muts sc (n+1) (.Assign [.Tuple ts i q] (.Name x c) p) s=(evE Φ ak sc s.ρ (.Name x c) s.σ).bind fun p=>match p.1 with
 |.d x=>(aj 4 (.Tuple ts i q) x s.ρ).map fun ρ=>(.next,⟨ρ,p.2⟩)
 |_=>none:=rfl
theorem aa3 (ts i q x c y z p):evS Φ muts sc (n+1) (.Assign [.Tuple ts i q] (.Call x c y z) p) s=(evE Φ ak sc s.ρ (.Call x c y z) s.σ).bind fun p=>match p.1 with
 |.d x=>(aj 4 (.Tuple ts i q) x s.ρ).map fun ρ=>(.next,⟨ρ,p.2⟩)
 |_=>none:=rfl
theorem a4p (x c e p):evS Φ muts sc (n+1) (.Assign [.Name x c] e p) s=(evR Φ ak muts sc s.ρ (.Name x c) e s.σ).bind fun p=>(s.ρ.set x p.1).map fun ρ=>(.next,⟨ρ,p.2⟩):=by
 show(evR Φ ak muts sc s.ρ (.Name x c) e s.σ).bind (fun p=>(ch Φ ak sc (.Name x c) p.1 ⟨s.ρ,p.2⟩).map fun s=>(Fl.next,s))=_
 congr 1;funext p
 show((s.ρ.set x p.1).map fun ρ=>(⟨ρ,p.2⟩:St)).map _=_
 cases s.ρ.set x p.1<;>rfl
theorem aai (o a c e p):evS Φ muts sc (n+1) (.Assign [.Attribute o a c] e p) s=(evM Φ ak sc s.ρ e s.σ).bind fun p=>(ch Φ ak sc (.Attribute o a c) p.1 ⟨s.ρ,p.2⟩).map fun s=>(.next,s):=rfl
theorem aca (o a c e p):evS Φ muts sc (n+1) (.Assign [.Subscript o a c] e p) s=(evM Φ ak sc s.ρ e s.σ).bind fun p=>(ch Φ ak sc (.Subscript o a c) p.1 ⟨s.ρ,p.2⟩).map fun s=>(.next,s):=rfl
theorem aei{x q op e p}(h:oy op=true):evS Φ muts sc (n+1) (.AugAssign (.Name x q) op e p) s=(s.ρ.get x).bind fun v=>match v with
  |.d a=>(evE Φ ak sc s.ρ e s.σ).bind fun p=>match p.1 with
   |.d (.int b)=>(match a with|.int _=>(f9 op a (.int b)).bind fun r=>(s.ρ.set x (.d r)).map fun ρ=>(.next,⟨ρ,p.2⟩)|_=>none)
   |_=>none
  |_=>none:=by
 show(if !oy op then none else _)=_
 rw[h];rfl
theorem ad9 (t b o p):evS Φ muts sc (n+1) (.If t b o p) s=(evT Φ ak sc s.ρ t s.σ).bind fun p=>if p.1 then cc (evS Φ muts sc n) b ⟨s.ρ,p.2⟩else cc (evS Φ muts sc n) o ⟨s.ρ,p.2⟩:=rfl
noncomputable def ef (Φ:Fx)(sc:Scope)(t:Expr)(s:St):Option (Bool×St):=(evT Φ ak sc s.ρ t s.σ).map fun p=>(p.1,⟨s.ρ,p.2⟩)
noncomputable def c9 (Φ:Fx) (muts:List Str) (sc:Scope) (n:Nat) (target:Expr) (b:List Stmt) (x:D) (s:St):Option (Fl×St):=(aj 4 target x s.ρ).bind fun ρ=>cc (evS Φ muts sc n) b ⟨ρ,s.σ⟩
theorem af6{target iter b p}(h:n7 target iter=true):evS Φ muts sc (n+1) (.For target iter b [] p) s=(gf Φ ak sc s.ρ iter s.σ).bind fun p=>if p.1.2 then none else iu (c9 Φ muts sc n target b) p.1.1 ⟨s.ρ,p.2⟩:=by
 show(if !n7 target iter then none else _)=_
 rw[h];rfl
end
theorem adh{x y:List D}(h:x.length+y.length≤1000000):f9 .Add (.list x) (.list y)=some (.list (x++y)):=if_pos (decide_eq_true h)
theorem aij{x:D}{n:Int}(h:0≤n∧n≤1000000):f9 .Mult (.list [x]) (.int n)=some (.list (List.replicate n.toNat x)):=if_pos h
theorem am4 (x y:Int):zs .Eq (.int x) (.int y)=some (x==y):=rfl
theorem aas{x y:D}(h:x.plain=true)(h':y.plain=true):zs .Eq x y=some (D.beq x y):=by
 show(if x.plain&&y.plain then _ else none)=_
 rw[h,h'];rfl
theorem ajg{x y:D}(h:x.plain=true)(h':y.plain=true):zs .NotEq x y=some (!D.beq x y):=by
 show(if x.plain&&y.plain then _ else none)=_
 rw[h,h'];rfl
theorem ag2{x:D}{l:List D}(h:x.plain=true)(h':D.plains l=true):zs .NotIn x (.list l)=some (!memD x l):=by
 show(if x.plain&&D.plains l then _ else none)=_
 rw[h,h'];rfl
section
variable(σ:Sto)(a b:V)
end
theorem abt{σ:Sto}{i:Nat}{xs:List D}(h:σ.objs[i]?=some (.list xs)):toD σ (.m i)=some (.list xs,σ.put i (.frozen (.list xs))):=by
 show(match σ.objs[i]? with|some (.frozen x)=>_|some (.list xs)=>_|some (.dict kd kvs)=>_|some (.inst c fs)=>_|none=>_)=_
 rw[h]
theorem vf{σ:Sto}{xs:List D}{z:Int}{n:Nat}{x:D}(h:dr xs.length z=some n) (h':xs[n]?=some x):bx σ (.d (.list xs)) (.d (.int z))=some (.d x):=by
 show((dr xs.length z).bind fun n=>(xs[n]?).map V.d)=_
 rw[h];exact congrArg (Option.map V.d) h'
theorem aaj{σ:Sto}{kd kvs}{k x:D}(h:kd.asks k=true) (h':a6 k kvs=some x):bx σ (.d (.dict kd kvs)) (.d k)=some (.d x):=by
 show(if kd.asks k then(a6 k kvs).map V.d else none)=_
 rw[h,h'];rfl
theorem a72{σ:Sto}{i:Nat}{xs:List D}{z:Int}{n:Nat}{x:D}(ho:σ.objs[i]?=some (.list xs)) (h:dr xs.length z=some n) (h':xs[n]?=some x):bx σ (.m i) (.d (.int z))=some (.d x):=by
 show(match σ.objs[i]? with|some (.dict kd kvs)=>_|some (.list xs)=>_|_=>_)=_
 rw[ho]
 exact vf (σ:=σ) h h'
theorem ago{n:Nat}{z:Int}(h:0≤z)(h':z<n):dr n z=some z.toNat:=by unfold dr;rw[if_pos h,if_pos h']
theorem a3u{n k:Nat}(h:k<n):dr n (k:Int)=some k:=by rw[ago (by grind) (by exact agt h)];simp
theorem a5e{n:Nat}(h:0<n):dr n (-1)=some (n-1):=by
 unfold dr
 rw[if_neg (by exact akn h),if_pos (by grind)]
 congr 1;exact ai8 h
theorem a3f (σ:Sto) (v:V):builtin ("len":Str) σ [v]=(a95 σ v).map fun n=>.int n:=by kernel_rfl
theorem af5 (σ:Sto) (a b:Int):builtin ("min":Str) σ [.d (.int a),.d (.int b)]=some (.int (if b<a then b else a)):=by kernel_rfl
theorem ae0 (σ:Sto) (a b:Int):builtin ("max":Str) σ [.d (.int a),.d (.int b)]=some (.int (if a<b then b else a)):=by kernel_rfl
theorem agm (σ:Sto) (xs:List D):builtin ("all":Str) σ [.d (.list xs)]=(mj xs).map fun l=>.bool (l.all id):=by kernel_rfl
theorem abk (σ:Sto) (xs:List D):builtin ("tuple":Str) σ [.d (.list xs)]=some (.tuple xs):=by kernel_rfl
theorem aag (σ:Sto) (xs:List D):builtin ("tuple":Str) σ [.d (.tuple xs)]=some (.tuple xs):=by kernel_rfl
theorem ahn (σ:Sto) (a:Int):builtin ("int":Str) σ [.d (.int a)]=some (.int a):=by kernel_rfl
theorem yj{σ:Sto}{i:Nat}{xs:List D}{x:D}(h:σ.objs[i]?=some (.list xs)) (hl:xs.length+1≤1000000):dm σ (.m i) ("append":Str) [.d x]=some (.d .none,σ.put i (.list (xs++[x]))):=by
 show(match σ.objs[i]? with|some (.list xs)=>_|some (.dict kd kvs)=>_|_=>_)=_
 rw[h]
 refine Eq.trans (b:=match σ.objs[i]? with|some (.list ys)=>if fe (ys.length+1)then some (.d .none,σ.put i (.list (ys++[x])))else none|_=>none) (by kernel_rfl) ?_
 rw[h];exact if_pos (decide_eq_true hl)
theorem abo{σ:Sto}{i:Nat}{xs ys:List D}(h:σ.objs[i]?=some (.list xs)) (hl:xs.length+ys.length≤1000000):dm σ (.m i) ("extend":Str) [.d (.list ys)]=some (.d .none,σ.put i (.list (xs++ys))):=by
 show(match σ.objs[i]? with|some (.list xs)=>_|some (.dict kd kvs)=>_|_=>_)=_
 rw[h]
 exact Eq.trans (b:=if fe (xs.length+ys.length)=true then _ else none) (by kernel_rfl) (if_pos (decide_eq_true hl))
theorem aim{σ:Sto}{i:Nat}{xs:List D}{x:D}(h:σ.objs[i]?=some (.list xs)) (hx:xs.getLast?=some x):dm σ (.m i) ("pop":Str) []=some (.d x,σ.put i (.list xs.dropLast)):=by
 show(match σ.objs[i]? with|some (.list xs)=>_|some (.dict kd kvs)=>_|_=>_)=_
 rw[h]
 exact Eq.trans (b:=(xs.getLast?).map fun x=>(V.d x,σ.put i (.list xs.dropLast))) (by kernel_rfl) (congrArg _ hx)
theorem b9{f:Stmt→St→Option (Fl×St)}{t r s s1 R}(h1:f t s=some (.next,s1)) (h2:cc f r s1=R):cc f (t::r) s=R:=by
 rw[lb,h1];exact h2
theorem a2p{f:Stmt→St→Option (Fl×St)}{t r s s1 v}(h1:f t s=some (.ret v,s1)):cc f (t::r) s=some (.ret v,s1):=by
 rw[lb,h1];rfl
theorem ie (T:St→Option (Bool×St)) (B:St→Option (Fl×St)) (k:Nat) (s:St):b7 T B (k+1) s=(T s).bind fun p=>if p.1 then(B p.2).bind fun q=>match q.1 with
  |.next|.cont=>b7 T B k q.2
  |.brk=>some (.next,q.2)
  |.ret v=>some (.ret v,q.2)
 else some (.next,p.2):=rfl
theorem gr (turn:D→St→Option (Fl×St)) (x r s):iu turn (x::r) s=(turn x s).bind fun p=>match p.1 with
 |.next|.cont=>iu turn r p.2
 |.brk=>some (.next,p.2)
 |.ret v=>some (.ret v,p.2):=rfl
theorem za (turn:D→Sto→Option (Option D×Sto)) (x r σ):be turn (x::r) σ=(turn x σ).bind fun p=>(be turn r p.2).map fun q=>(match p.1 with|some y=>y::q.1|none=>q.1,q.2):=rfl
theorem r7{β:Type}{turn:D→Sto→Option (Option D×Sto)}(emb:β→D) (g:β→Option D){σ:Sto}(xs:List β) (h:∀x∈xs,turn (emb x) σ=some (g x,σ)):be turn (xs.map emb) σ=some (xs.filterMap g,σ):=by
 induction xs with
 |nil=>rfl
 |cons x r ih=>
  rw[List.map_cons,za,h x (.head _),List.filterMap_cons]
  show(be turn (r.map emb) σ).map _=_
  rw[ih fun y hy=>h y (.tail _ hy)]
  cases g x<;>rfl
theorem bn{β:Type}{turn:D→Sto→Option (Option D×Sto)}(emb g:β→D){σ:Sto}(xs:List β) (h:∀x∈xs,turn (emb x) σ=some (some (g x),σ)):be turn (xs.map emb) σ=some (xs.map g,σ):=by
 rw[r7 emb (fun x=>some (g x)) xs h]
 simp
theorem xo{N:Nat}{k:Key}{F:Fn}{ds:List D}{d:D}(hN:1≤N) (hk:af.lookup k=some (.fn F)) (h:tm (fx (N-1)) F ds=some d):(fx N).pure k ds=some d:=by
 obtain⟨M,rfl⟩:∃M,N=M+1:=⟨N-1,by exact om5 hN⟩
 simp only[fx,hk];exact h
theorem adp{N:Nat}{k:Key}{c:Str}{F:Fn}{ds:List D}{d:D}(hN:1≤N) (hk:af.lookup k=some (.cls c F)) (h:((v7 (fx (N-1)) c F (ds.map .d) ⟨[],0⟩).bind fun p=>(toD p.2 p.1).map (·.1))=some d):(fx N).pure k ds=some d:=by
 obtain⟨M,rfl⟩:∃M,N=M+1:=⟨N-1,by exact om5 hN⟩
 simp only[fx,hk];exact h
theorem ai0{N:Nat}{k:Key}{F:Fn}{vs:List V}{σ:Sto}(hN:1≤N) (hk:nk.lookup k=some (.fn F)):(fx N).eff k vs σ=om (fx (N-1)) F vs σ:=by
 obtain⟨M,rfl⟩:∃M,N=M+1:=⟨N-1,by exact om5 hN⟩
 simp only[fx,hk];rfl
theorem ac0{Φ:Fx}{F:Fn}{vs:List V}{σ:Sto}{b:List (Str×V)}{v:V}{s:St}(hb:vx F.params vs F.dflts=some b){ρ:Rho}(hr:gp F.scope b=ρ) (h:cc (evS Φ F.muts F.scope 20) F.body ⟨ρ,σ⟩=some (.ret v,s)):om Φ F vs σ=some (norm s.σ v,s.σ):=by
 unfold om;rw[hb];show(cc _ _ _).bind _=_;rw[hr,h];rfl
theorem run_pure{Φ:Fx}{F:Fn}{ds:List D}{b:List (Str×V)}{v:V}{d:D}{s:St}(hb:vx F.params (ds.map .d) F.dflts=some b){ρ:Rho}(hr:gp F.scope b=ρ) (h:cc (evS Φ F.muts F.scope 20) F.body ⟨ρ,⟨[],0⟩⟩=some (.ret v,s)) (hd:(toD s.σ (norm s.σ v)).map (·.1)=some d):tm Φ F ds=some d:=by
 unfold tm;rw[ac0 hb hr h];exact hd
inductive Res where
 |v(x:V)
 |e(x:V)(σ:Sto)
 |b(x:Bool)
 |l(fl:Fl)(s:St)
 |c(xs:List D)
noncomputable abbrev bo:=List Res
noncomputable abbrev TR (α:Type):=Option (α×bo×List Prop)
noncomputable def fh{α:Type}(a:α)(tp:bo):TR α:=some (a,tp,[])
noncomputable def tb{α β:Type}(x:TR α)(f:α→bo→TR β):TR β:=x.bind fun p=>(f p.1 p.2.1).map fun q=>(q.1,q.2.1,p.2.2++q.2.2)
noncomputable def et{α:Type}(x:Option α)(tp:bo):TR α:=x.map fun a=>(a,tp,[])
noncomputable def a85{α:Type}(a:α)(tp:bo)(p:Prop):TR α:=some (a,tp,[p])
noncomputable def Ad{α:Type}(x:TR α)(y:Option α):Prop:=∀a tp ps,x=some (a,tp,ps)→(∀p∈ps,p)→y=some a
theorem Ad.ret{α:Type}(a:α) (tp:bo):Ad (fh a tp) (some a):=fun _ _ _ e _=>by cases e;rfl
theorem Ad.opt{α:Type}(x:Option α) (tp:bo):Ad (et x tp) x:=fun a _ _ e _=>by
 refine de e ?_;clear e;intro b h e
 cases e;exact h
theorem Ad.ask{α:Type}{y:Option α}(a:α) (tp:bo):Ad (a85 a tp (y=some a)) y:=fun _ _ _ e h=>by cases e;exact h _ (.head _)
theorem Ad.none{α:Type}(y:Option α):Ad (none:TR α) y:=fun _ _ _ e _=>nomatch e
theorem Ad.bind{α β:Type}{x:TR α}{y:Option α}{f:α→bo→TR β}{g:α→Option β}(h:Ad x y) (k:∀a tp,Ad (f a tp) (g a)):Ad (tb x f) (y.bind g):=fun b tp ps e hp=>by
 obtain⟨⟨a,t1,p1⟩,h1,e⟩:=Option.bind_eq_some_iff.mp e
 obtain⟨⟨b',t2,p2⟩,h2,e⟩:=Option.map_eq_some_iff.mp e
 cases e
 rw[h a t1 p1 h1 fun p q=>hp p (List.mem_append_left _ q)]
 exact k a t1 _ t2 p2 h2 fun p q=>hp p (List.mem_append_right _ q)
theorem Ad.map{α β:Type}{x:TR α}{y:Option α}{f:α→β}(h:Ad x y):Ad (tb x fun a tp=>fh (f a) tp) (y.map f):=by
 have:y.map f=y.bind fun a=>some (f a):=by cases y<;>rfl
 rw[this]
 exact h.bind fun a tp=>.ret _ tp
theorem Ad.ite{α:Type}{c:Bool}{x x':TR α}{y y':Option α}(h:c=true→Ad x y) (h':c=false→Ad x' y'):Ad (bif c then x else x') (if c=true then y else y'):=by
 cases c
 ·exact h' rfl
 ·exact h rfl
noncomputable def aco (tp:bo)(y:Option Bool):TR Bool:=match tp with
 |.b x::tp=>a85 x tp (y=some x)
 |_=>none
noncomputable def a66 (tp:bo)(y:Option D):TR D:=match tp with
 |.v (.d x)::tp=>a85 x tp (y=some x)
 |_=>none
noncomputable def adb (tp:bo)(y:Option V):TR V:=match tp with
 |.v x::tp=>a85 x tp (y=some x)
 |_=>none
noncomputable def uo (tp:bo) (y:Option (V×Sto)):TR (V×Sto):=match tp with
 |.e x σ::tp=>a85 (x,σ) tp (y=some (x,σ))
 |_=>none
noncomputable def zl (tp:bo) (y:Option (Fl×St)):TR (Fl×St):=match tp with
 |.l fl s::tp=>a85 (fl,s) tp (y=some (fl,s))
 |_=>none
theorem Ad.popB (tp:bo) (y:Option Bool):Ad (aco tp y) y:=by cases tp with|nil=>exact .none _|cons r t=>cases r<;>first|exact .ask _ _|exact .none _
theorem Ad.popD (tp:bo) (y:Option D):Ad (a66 tp y) y:=by cases tp with|nil=>exact .none _|cons r t=>cases r with|v x=>(cases x<;>first|exact .ask _ _|exact .none _)|_=>exact .none _
theorem Ad.popV (tp:bo) (y:Option V):Ad (adb tp y) y:=by cases tp with|nil=>exact .none _|cons r t=>cases r<;>first|exact .ask _ _|exact .none _
theorem Ad.popE (tp:bo) (y:Option (V×Sto)):Ad (uo tp y) y:=by cases tp with|nil=>exact .none _|cons r t=>cases r<;>first|exact .ask _ _|exact .none _
theorem Ad.popL (tp:bo) (y:Option (Fl×St)):Ad (zl tp y) y:=by cases tp with|nil=>exact .none _|cons r t=>cases r<;>first|exact .ask _ _|exact .none _
noncomputable def tEs (ev:Expr→Sto→bo→TR (V×Sto)):List Expr→Sto→bo→TR (List V×Sto)
 |[],σ,tp=>fh ([],σ) tp
 |e::r,σ,tp=>tb (ev e σ tp) fun p tp=>tb (tEs ev r p.2 tp) fun q tp=>fh (p.1::q.1,q.2) tp
noncomputable def tDs (ev:Expr→Sto→bo→TR (V×Sto)):List Expr→Sto→bo→TR (List D×Sto)
 |[],σ,tp=>fh ([],σ) tp
 |e::r,σ,tp=>tb (ev e σ tp) fun p tp=>tb (et (toD p.2 p.1) tp) fun q tp=>tb (tDs ev r q.2 tp) fun u tp=>fh (q.1::u.1,u.2) tp
noncomputable def tO (ev:Expr→Sto→bo→TR (V×Sto)):Option Expr→Sto→bo→TR (Option Int×Sto)
 |none,σ,tp=>fh (none,σ) tp
 |some e,σ,tp=>tb (ev e σ tp) fun p tp=>et (match p.1 with|.d (.int i)=>some (some i,p.2)|_=>none) tp
noncomputable def a6t (ev:Expr→Sto→bo→TR (V×Sto)):V→List CmpOp→List Expr→Sto→bo→TR (Bool×Sto)
 |l,[op],[r],σ,tp=>tb (ev r σ tp) fun p tp=>tb (aco tp (b8 p.2 op l p.1)) fun b tp=>fh (b,p.2) tp
 |l,op::op'::ops,r::r'::rs,σ,tp=>tb (ev r σ tp) fun p tp=>tb (aco tp (b8 p.2 op l p.1)) fun b tp=>bif b then a6t ev p.1 (op'::ops) (r'::rs) p.2 tp else fh (false,p.2) tp
 |_,_,_,_,_=>none
noncomputable def a2w (ev:Expr→Sto→bo→TR (V×Sto)) (op:BoolOp):List Expr→Sto→bo→TR (V×Sto)
 |[],_,_=>none
 |[e],σ,tp=>ev e σ tp
 |e::r,σ,tp=>tb (ev e σ tp) fun p tp=>match op,p.1 with
  |.And,.d (.bool false)=>fh (.d (.bool false),p.2) tp
  |.And,.d (.bool true)=>a2w ev op r p.2 tp
  |.Or,.d (.bool true)=>fh (.d (.bool true),p.2) tp
  |.Or,.d (.bool false)=>a2w ev op r p.2 tp
  |_,_=>none
noncomputable def a6u (evt:Expr→Sto→bo→TR (Bool×Sto)):List Expr→Sto→bo→TR (Bool×Sto)
 |[],σ,tp=>fh (true,σ) tp
 |e::r,σ,tp=>tb (evt e σ tp) fun p tp=>bif p.1 then a6u evt r p.2 tp else fh (false,p.2) tp
section
variable{ev:Expr→Sto→Option (V×Sto)}{tv:Expr→Sto→bo→TR (V×Sto)}
theorem wb (h:∀e σ tp,Ad (tv e σ tp) (ev e σ)):∀es σ tp,Ad (tEs tv es σ tp) (fj ev es σ)
 |[],σ,tp=>.ret _ tp
 |e::r,σ,tp=>(h e σ tp).bind fun p tp=>(wb h r p.2 tp).map
theorem act (h:∀e σ tp,Ad (tv e σ tp) (ev e σ)):∀es σ tp,Ad (tDs tv es σ tp) (a05 ev es σ)
 |[],σ,tp=>.ret _ tp
 |e::r,σ,tp=>(h e σ tp).bind fun p tp=>(Ad.opt _ tp).bind fun q tp=>(act h r q.2 tp).map
theorem ahx (h:∀e σ tp,Ad (tv e σ tp) (ev e σ)):∀e σ tp,Ad (tO tv e σ tp) (evO ev e σ)
 |none,σ,tp=>.ret _ tp
 |some e,σ,tp=>(h e σ tp).bind fun p tp=>Ad.opt (match p.1 with|.d (.int i)=>some (some i,p.2)|_=>none) tp
theorem a4h (h:∀e σ tp,Ad (tv e σ tp) (ev e σ)):∀l ops rs σ tp,Ad (a6t tv l ops rs σ tp) (j5 ev l ops rs σ)
 |l,[op],[r],σ,tp=>(h r σ tp).bind fun p tp=>(Ad.popB tp _).map
 |l,op::op'::ops,r::r'::rs,σ,tp=>(h r σ tp).bind fun p tp=>(Ad.popB tp _).bind fun b tp=>.ite (fun _=>a4h h p.1 (op'::ops) (r'::rs) p.2 tp) fun _=>.ret _ tp
 |l,[],rs,σ,tp=>.none _
 |l,[op],[],σ,tp=>.none _
 |l,[op],_::_::_,σ,tp=>.none _
 |l,op::op'::ops,[],σ,tp=>.none _
 |l,op::op'::ops,[_],σ,tp=>.none _
theorem a4x (h:∀e σ tp,Ad (tv e σ tp) (ev e σ)) (op:BoolOp):∀es σ tp,Ad (a2w tv op es σ tp) (km ev op es σ)
 |[],σ,tp=>.none _
 |[e],σ,tp=>h e σ tp
 |e::e'::r,σ,tp=>(h e σ tp).bind fun p tp=>by
  have ih:=a4x h op (e'::r) p.2 tp
  obtain⟨v,σ'⟩:=p
  cases v with
  |m i=>cases op<;>exact .none _
  |d x=>cases x<;>first|(cases op<;>exact .none _)|(rename_i b;cases op<;>cases b<;>first|exact .ret _ tp|exact ih)
theorem a5h{evt:Expr→Sto→Option (Bool×Sto)}{tvt:Expr→Sto→bo→TR (Bool×Sto)}(h:∀e σ tp,Ad (tvt e σ tp) (evt e σ)):∀es σ tp,Ad (a6u tvt es σ tp) (mo evt es σ)
 |[],σ,tp=>.ret _ tp
 |e::r,σ,tp=>(h e σ tp).bind fun p tp=>.ite (fun _=>a5h h r p.2 tp) fun _=>.ret _ tp
end
noncomputable def aeu(op:Operator)(a b:D):Bool:=match op,a,b with
 |.Mult,_,_=>false
 |_,.int _,.int _=>true
 |_,_,_=>false
noncomputable def a8v (o i:V):Bool:=match o,i with
 |.d (.tuple _),.d (.int _)=>true
 |_,_=>false
noncomputable abbrev TEv:=Expr→Sto→bo→TR (V×Sto)
noncomputable def d3 (x:Option D)(l u s:Option Int)(σ:Sto):Option (V×Sto):=if !(u.all eh&&l.all eh)then none else x.bind fun x=>match x,s with
 |.list xs,none=>some (.d (.list (cut xs l u)),σ)
 |.tuple xs,none=>(match l,u with|none,some b=>if 1≤b∧b<xs.length then some (.d (.tuple (xs.take b.toNat)),σ)else none|_,_=>none)
 |.list xs,some (-1)=>if l.isNone&&u.isNone then some (.d (.list xs.reverse),σ)else none
 |_,_=>none
noncomputable def a37 (vs:List V)(σ:Sto):Option ((List D×Bool)×Sto):=match vs with
 |[.d (.int b)]=>if(b≤1000000&&small b)=true then some ((ee 0 b,false),σ)else none
 |[.d (.int a),.d (.int b)]=>if(small a&&small b&&decide (b-a≤1000000))=true then some ((ee a b,false),σ)else none
 |_=>none
noncomputable def ans (ev:TEv) (o i:Expr) (σ:Sto) (tp:bo):TR (V×Sto):=match i with
 |.Slice l u st _=>tb (ev o σ tp) fun p tp=>tb (tO ev l p.2 tp) fun ql tp=>tb (tO ev u ql.2 tp) fun qu tp=>tb (tO ev st qu.2 tp) fun qs tp=>uo tp (d3 (peek qs.2 p.1) ql.1 qu.1 qs.1 qs.2)
 |i=>tb (ev o σ tp) fun p tp=>tb (ev i p.2 tp) fun q tp=>tb (bif a8v p.1 q.1 then et (bx q.2 p.1 q.1) tp else adb tp (bx q.2 p.1 q.1)) fun v tp=>fh (v,q.2) tp
section
variable(Φ:Fx)
noncomputable def ad8 (sc:Scope) (ev:TEv) (f:Str) (args:List Expr) (σ:Sto) (tp:bo):TR (V×Sto):=
 bif f7 sc f&&fw.contains f then tb (tEs ev args σ tp) fun p tp=>tb (et (a00 p.1 p.2) tp) fun q tp=>tb (a66 tp (Φ.pure (.fn f) q.1)) fun d tp=>fh (.d d,q.2) tp
 else bif f7 sc f&&!fw.contains f&&ky.contains f then tb (tEs ev args σ tp) fun p tp=>uo tp (Φ.eff (.fn f) p.1 p.2)
 else bif f7 sc f&&!fw.contains f&&!ky.contains f&&bw.contains f then tb (tEs ev args σ tp) fun p tp=>tb (a66 tp (builtin f p.2 p.1)) fun d tp=>fh (.d d,p.2) tp
 else none
noncomputable def acb (ev:TEv) (o:Expr) (m:Str) (args:List Expr) (σ:Sto) (tp:bo):TR (V×Sto):=
 tb (ev o σ tp) fun p tp=>tb (tEs ev args p.2 tp) fun q tp=>match m8 p.2 m p.1 with
  |some c=>bif yn.contains m then uo tp (Φ.eff (.meth c m) (p.1::q.1) q.2) else tb (et (a00 (p.1::q.1) q.2) tp) fun u tp=>tb (a66 tp (Φ.pure (.meth c m) u.1)) fun d tp=>fh (.d d,u.2) tp
  |none=>bif gn p.2 p.1==gn q.2 p.1 then uo tp (dm q.2 p.1 m q.1) else none
noncomputable def acf (tp:bo) (σ:Sto) (y:Option ((List D×Bool)×Sto)):TR ((List D×Bool)×Sto):=match tp with
 |.c xs::tp=>a85 ((xs,false),σ) tp (y=some ((xs,false),σ))
 |_=>none
theorem Ad.popS (tp:bo) (σ:Sto) (y:Option ((List D×Bool)×Sto)):Ad (acf tp σ y) y:=by cases tp with|nil=>exact .none _|cons r t=>cases r<;>first|exact .ask _ _|exact .none _
noncomputable def abw (tp:bo)(σ:Sto)(turn:D→Sto→Option (Option D×Sto))(xs:List D):TR (V×Sto):=match tp with
 |.c ys::tp=>some ((.d (.list ys),σ),tp,[fe xs.length=true,be turn xs σ=some (ys,σ)])
 |_=>none
noncomputable def tT (ev:TEv) (e:Expr) (σ:Sto) (tp:bo):TR (Bool×Sto):=tb (ev e σ tp) fun p tp=>et (match p.1 with|.d (.bool b)=>some (b,p.2)|_=>none) tp
noncomputable def afh (n:Nat) (sc:Scope) (ρ:Rho) (ev:TEv) (e:Expr) (σ:Sto) (tp:bo):TR ((List D×Bool)×Sto):=match e with
 |.Call (.Name f c) args [] p=>bif f7 sc f&&f==("range":Str) then tb (tEs ev args σ tp) fun p tp=>acf tp p.2 (a37 p.1 p.2)
  else bif f7 sc f&&f==("enumerate":Str) then tb (tEs ev args σ tp) fun p tp=>et (match p.1 with
   |[.d (.list xs)]=>some ((gj 0 xs,false),p.2)
   |[.m i]=>(match p.2.objs[i]? with|some (.list xs)=>some ((gj 0 xs,true),p.2)|_=>none)
   |_=>none) tp
  else bif f7 sc f&&f==("zip":Str) then tb (tEs ev args σ tp) fun p tp=>et (match p.1 with
   |[.d (.list xs),.d (.list ys)]=>some ((x5 xs ys,false),p.2)
   |_=>none) tp
  else bif agi f then tb (ev (.Call (.Name f c) args [] p) σ tp) fun p tp=>et (a04 p.2 p.1) tp else none
 |.Call (.Name f c) args (k::ks) p=>acf tp σ (gf Φ (n+1) sc ρ (.Call (.Name f c) args (k::ks) p) σ)
 |e=>tb (ev e σ tp) fun p tp=>et (a04 p.2 p.1) tp
noncomputable def tvE:Nat→Scope→Rho→Expr→Sto→bo→TR (V×Sto)
 |0,_,_,_,_,_=>none
 |n+1,sc,ρ,e,σ,tp=>match e with
  |.Constant c k p=>et (evE Φ (n+1) sc ρ (.Constant c k p) σ) tp
  |.Name x p=>et (evE Φ (n+1) sc ρ (.Name x p) σ) tp
  |.Attribute o a p=>bif f8 o then tb (tvE n sc ρ o σ tp) fun p tp=>et ((ph p.2 p.1 a).map fun v=>(v,p.2)) tp else none
  |.Subscript o i p=>ans (tvE n sc ρ) o i σ tp
  |.BinOp l op r _=>tb (tvE n sc ρ l σ tp) fun p tp=>tb (tvE n sc ρ r p.2 tp) fun q tp=>tb (et (peek q.2 p.1) tp) fun a tp=>tb (et (peek q.2 q.1) tp) fun b tp=>
    tb (bif aeu op a b then et (f9 op a b) tp else a66 tp (f9 op a b)) fun d tp=>fh (.d d,q.2) tp
  |.UnaryOp .Not x p=>tb (tvE n sc ρ x σ tp) fun p tp=>et (match p.1 with|.d (.bool b)=>some (.d (.bool !b),p.2)|_=>none) tp
  |.UnaryOp .USub x p=>tb (tvE n sc ρ x σ tp) fun p tp=>et (match p.1 with|.d (.int i)=>some (.d (.int (-i)),p.2)|_=>none) tp
  |.BoolOp op vs _=>a2w (tvE n sc ρ) op vs σ tp
  |.Compare l ops rs _=>bif lastMarks ops rs then none else tb (tvE n sc ρ l σ tp) fun p tp=>tb (a6t (tvE n sc ρ) p.1 ops rs p.2 tp) fun q tp=>fh (.d (.bool q.1),q.2) tp
  |.IfExp t b o _=>match n with
   |0=>none
   |k+1=>tb (tT (tvE k sc ρ) t σ tp) fun p tp=>bif p.1 then tvE (k+1) sc ρ b p.2 tp else tvE (k+1) sc ρ o p.2 tp
  |.Tuple es _ _=>bif decide (1000<es.length) then none else tb (tDs (tvE n sc ρ) es σ tp) fun p tp=>fh (.d (.tuple p.1),p.2) tp
  |.List es _=>bif decide (1000<es.length) then none else tb (tDs (tvE n sc ρ) es σ tp) fun p tp=>fh (.d (.list p.1),p.2) tp
  |.ListComp elt [⟨target,iter,ifs,0⟩] csc _=>match n with
   |0=>none
   |k+1=>bif js sc csc target&&n7 target iter then tb (afh Φ k sc ρ (tvE k sc ρ) iter σ tp) fun p tp=>abw tp p.2 (nu Φ (k+1) csc ρ elt target ifs p.1.2 p.2.ver) p.1.1 else none
  |.Call (.Name f _) args [] _=>ad8 Φ sc (tvE n sc ρ) f args σ tp
  |.Call (.Attribute o m apos) args [] pos=>bif f8 o&&apos.endLine==pos.line&&decide (args.length<30) then acb Φ (tvE n sc ρ) o m args σ tp else none
  |e=>uo tp (evE Φ (n+1) sc ρ e σ)
end
section
variable{Φ:Fx}
theorem Ad.bif{α:Type}{c:Bool}{x x':TR α}{y:Option α}(h:c=true→Ad x y) (h':c=false→Ad x' y):Ad (bif c then x else x') y:=by
 cases c
 ·exact h' rfl
 ·exact h rfl
theorem Ad.to{α:Type}{x:TR α}{y z:Option α}(h:Ad x y)(e:z=y):Ad x z:=e▸h
section
variable{sc:Scope}{ev:Expr→Sto→Option (V×Sto)}{tv:TEv}
theorem agl (n:Nat) (ρ:Rho) (h:∀e σ tp,Ad (tv e σ tp) (evE Φ n sc ρ e σ)) (o i p) (σ tp):Ad (ans tv o i σ tp) (evE Φ (n+1) sc ρ (.Subscript o i p) σ):=by
 have other:∀i,(∀l u t q,i≠.Slice l u t q)→Ad (tb (tv o σ tp) fun p tp=>tb (tv i p.2 tp) fun q tp=>tb (bif a8v p.1 q.1 then et (bx q.2 p.1 q.1) tp else adb tp (bx q.2 p.1 q.1)) fun v tp=>fh (v,q.2) tp)
   ((evE Φ n sc ρ o σ).bind fun p=>(evE Φ n sc ρ i p.2).bind fun q=>(bx q.2 p.1 q.1).map fun v=>(v,q.2)):=fun i _=>
  (h o σ tp).bind fun p tp=>(h i p.2 tp).bind fun q tp=>Ad.map (.bif (fun _=>.opt _ tp) fun _=>.popV tp _)
 cases i with
 |Slice l u st c=>
  rw[a9i]
  show Ad (tb (tv o σ tp) fun p tp=>tb (tO tv l p.2 tp) fun ql tp=>tb (tO tv u ql.2 tp) fun qu tp=>tb (tO tv st qu.2 tp) fun qs tp=>uo tp (d3 (peek qs.2 p.1) ql.1 qu.1 qs.1 qs.2)) _
  refine (h o σ tp).bind fun p tp=>?_
  refine (ahx h l p.2 tp).bind fun ql tp=>?_
  refine (ahx h u ql.2 tp).bind fun qu tp=>?_
  refine (ahx h st qu.2 tp).bind fun qs tp=>?_
  exact .popE tp _
 |_=>exact other _ (fun _ _ _ _ q=>by cases q)
theorem ach (n:Nat) (ρ:Rho) (h:∀e σ tp,Ad (tv e σ tp) (evE Φ n sc ρ e σ)) (f c args pos) (σ tp):Ad (ad8 Φ sc tv f args σ tp) (evE Φ (n+1) sc ρ (.Call (.Name f c) args [] pos) σ):=
 .bif (fun q=>.to (by refine (wb h args σ tp).bind fun p tp=>?_;refine (Ad.opt _ tp).bind fun q tp=>?_;exact (Ad.popD tp _).map) (abd Φ n sc ρ σ q)) fun _=>
 .bif (fun q=>.to (by refine (wb h args σ tp).bind fun p tp=>?_;exact .popE tp _) (ae4 Φ n sc ρ σ q)) fun _=>
 .bif (fun q=>.to (by refine (wb h args σ tp).bind fun p tp=>?_;exact (Ad.popD tp _).map) (a4c Φ n sc ρ σ q)) fun _=>.none _
theorem ac2 (n:Nat) (ρ:Rho) (h:∀e σ tp,Ad (tv e σ tp) (evE Φ n sc ρ e σ)){o m apos args pos}(hc:(f8 o&&apos.endLine==pos.line&&decide (args.length<30))=true) (σ tp):Ad (acb Φ tv o m args σ tp) (evE Φ (n+1) sc ρ (.Call (.Attribute o m apos) args [] pos) σ):=by
 refine .to ((h o σ tp).bind fun p tp=>(wb h args p.2 tp).bind fun q tp=>?_) (abx Φ n sc ρ σ hc)
 cases m8 p.2 m p.1 with
 |some c=>exact .ite (fun _=>.popE tp _) fun _=>(Ad.opt _ tp).bind fun u tp=>(Ad.popD tp _).map
 |none=>exact .ite (fun _=>.popE tp _) fun _=>.none _
theorem adm (tp:bo) (σ:Sto) (turn:D→Sto→Option (Option D×Sto)) (xs:List D):Ad (abw tp σ turn xs) (if fe xs.length=true then (be turn xs σ).map fun q=>(V.d (.list q.1),q.2)else none):=by
 cases tp with
 |nil=>exact .none _
 |cons r t=>cases r with
  |c=>
   intro a tp ps e h
   cases e
   rw[if_pos (h _ (.head _)),h _ (.tail _ (.head _))];rfl
  |_=>exact .none _
end
theorem a83 (n:Nat) (sc:Scope) (ρ:Rho) (h:∀e σ tp,Ad (tvE Φ n sc ρ e σ tp) (evE Φ n sc ρ e σ)) (e σ tp):Ad (afh Φ n sc ρ (tvE Φ n sc ρ) e σ tp) (gf Φ (n+1) sc ρ e σ):=by
 have other:∀e,Ad (tb (tvE Φ n sc ρ e σ tp) fun p tp=>et (a04 p.2 p.1) tp) ((evE Φ n sc ρ e σ).bind fun p=>a04 p.2 p.1):=fun e=>(h e σ tp).bind fun p tp=>.opt _ tp
 cases e with
 |Call f args kws p=>cases f with
  |Name f c=>cases kws with
   |cons k ks=>exact .popS tp _ _
   |nil=>
    refine .bif (fun q=>?_) fun _=>.bif (fun q=>?_) fun _=>.bif (fun q=>?_) fun _=>.bif (fun q=>.to (other _) (akz Φ n sc ρ σ q)) fun _=>.none _
    ·rw[Bool.and_eq_true,beq_iff_eq]at q
     refine bk q ?_;clear q;intro q1 rf1;subst rf1
     exact .to ((wb h args σ tp).bind fun p tp=>.popS tp _ _) (ads Φ n sc ρ σ q1)
    ·rw[Bool.and_eq_true,beq_iff_eq]at q
     refine bk q ?_;clear q;intro q1 rf1;subst rf1
     exact .to ((wb h args σ tp).bind fun p tp=>.opt _ tp) (aep Φ n sc ρ σ q1)
    ·rw[Bool.and_eq_true,beq_iff_eq]at q
     refine bk q ?_;clear q;intro q1 rf1;subst rf1
     exact .to ((wb h args σ tp).bind fun p tp=>.opt _ tp) (agy Φ n sc ρ σ q1)
  |_=>exact other _
 |_=>exact other _
theorem tr:∀n sc ρ e σ tp,Ad (tvE Φ n sc ρ e σ tp) (evE Φ n sc ρ e σ)
 |0,_,_,_,_,_=>.none _
 |n+1,sc,ρ,e,σ,tp=>by
  have h:=tr n sc ρ
  cases e with
   |Constant c k p=>exact .opt _ tp
   |Name x p=>exact .opt _ tp
   |Attribute o a p=>exact .bif (fun q=>.to ((h o σ tp).bind fun p tp=>.opt _ tp) (ab7 Φ n sc ρ σ q)) fun _=>.none _
   |Subscript o i p=>exact agl n ρ h o i p σ tp
   |BinOp l op r p=>
    rw [aav]
    refine (h l σ tp).bind fun p tp=>?_
    refine (h r p.2 tp).bind fun q tp=>?_
    refine (Ad.opt _ tp).bind fun a tp=>?_
    refine (Ad.opt _ tp).bind fun b tp=>?_
    exact Ad.map (.bif (fun _=>.opt _ tp) fun _=>.popD tp _)
   |UnaryOp op x p=>cases op with
    |Not=>rw [af3];exact (h x σ tp).bind fun p tp=>.opt _ tp
    |USub=>rw [adj];exact (h x σ tp).bind fun p tp=>.opt _ tp
    |_=>exact .popE tp _
   |BoolOp op vs p=>exact a4x h op vs σ tp
   |Compare l ops rs p=>exact .bif (fun _=>.none _) fun q=>.to ((h l σ tp).bind fun p tp=>(a4h h p.1 ops rs p.2 tp).map) (ae8 Φ n sc ρ σ q)
   |IfExp t b o p=>cases n with
    |zero=>exact .none _
    |succ k=>
     rw [a9x]
     refine Ad.bind (y:=evT Φ (k+1) sc ρ t σ) ?_ fun p tp=>.ite (fun _=>h b p.2 tp) fun _=>h o p.2 tp
     exact (tr k sc ρ t σ tp).bind fun p tp=>.opt _ tp
   |Tuple es k p=>exact .bif (fun _=>.none _) fun q=>.to ((act h es σ tp).map) (aa5 Φ n sc ρ σ (Nat.not_lt.mp (of_decide_eq_false q)))
   |List es p=>exact .bif (fun _=>.none _) fun q=>.to ((act h es σ tp).map) (ado Φ n sc ρ σ (Nat.not_lt.mp (of_decide_eq_false q)))
   |ListComp elt gens csc p=>
    rcases gens with _|⟨⟨target,iter,ifs,k⟩,_|⟨g2,gs⟩⟩
    ·exact .popE tp _
    ·by_cases hk:k=0
     ·subst hk
      cases n with
      |zero=>exact .none _
      |succ n=>
       refine .bif (fun q=>.to ?_ (a5g Φ (n+1) sc ρ σ q)) fun _=>.none _
       exact (a83 n sc ρ (tr n sc ρ) iter σ tp).bind fun p tp=>adm tp p.2 _ _
     ·have:tvE Φ (n+1) sc ρ (.ListComp elt [⟨target,iter,ifs,k⟩] csc p) σ tp=uo tp (evE Φ (n+1) sc ρ (.ListComp elt [⟨target,iter,ifs,k⟩] csc p) σ):=by
       rcases k with k|k
       ·cases k with
        |zero=>exact absurd rfl hk
        |succ k=>rfl
       ·rfl
      rw [this];exact .popE tp _
    ·have:tvE Φ (n+1) sc ρ (.ListComp elt (⟨target,iter,ifs,k⟩::g2::gs) csc p) σ tp=uo tp (evE Φ (n+1) sc ρ (.ListComp elt (⟨target,iter,ifs,k⟩::g2::gs) csc p) σ):=by
      rcases k with k|k
      ·cases k<;>rfl
      ·rfl
     rw [this];exact .popE tp _
   |Call f args kws p=>
    cases kws with
    |cons k ks=>cases f<;>exact .popE tp _
    |nil=>cases f with
     |Name f c=>exact ach n ρ h f c args p σ tp
     |Attribute o m apos=>exact .bif (fun q=>ac2 n ρ h q σ tp) fun _=>.none _
     |_=>exact .popE tp _
   |_=>exact .popE tp _
theorem aes (n sc ρ e σ tp):Ad (tT (tvE Φ n sc ρ) e σ tp) (evT Φ (n+1) sc ρ e σ):=by
 refine Ad.bind (y:=evE Φ n sc ρ e σ) (tr n sc ρ e σ tp) fun p tp=>?_
 exact .opt _ tp
end
section
variable(Φ:Fx)
noncomputable def tM (n:Nat) (sc:Scope) (ρ:Rho) (e:Expr) (σ:Sto) (tp:bo):TR (V×Sto):=tb (tvE Φ n sc ρ e σ tp) fun p tp=>fh (if gx e then a6k p.2 p.1 else p) tp
noncomputable def tR (muts:List Str)(sc:Scope)(ρ:Rho)(t e:Expr)(σ:Sto)(tp:bo):TR (V×Sto):=match t with
 |.Name x _=>if muts.contains x then tM Φ 39 sc ρ e σ tp else tvE Φ 40 sc ρ e σ tp
 |_=>tM Φ 39 sc ρ e σ tp
noncomputable def tRs (muts:List Str) (sc:Scope) (ρ:Rho):List Expr→List Expr→Sto→bo→TR (List V×Sto)
 |[],[],σ,tp=>fh ([],σ) tp
 |t::ts,e::es,σ,tp=>tb (tR Φ muts sc ρ t e σ tp) fun p tp=>tb (tRs muts sc ρ ts es p.2 tp) fun q tp=>fh (p.1::q.1,q.2) tp
 |_,_,_,_=>none
noncomputable def aaf (f:Stmt→St→bo→TR (Fl×St)):List Stmt→St→bo→TR (Fl×St)
 |[],s,tp=>fh (.next,s) tp
 |t::r,s,tp=>tb (f t s tp) fun p tp=>match p.1 with
  |.next=>aaf f r p.2 tp
  |x=>fh (x,p.2) tp
noncomputable def tvS (muts:List Str) (sc:Scope):Nat→Stmt→St→bo→TR (Fl×St)
 |0,_,_,_=>none
 |n+1,st,s,tp=>match st with
  |.Expr e p=>bif gx e then none else tb (tvE Φ 40 sc s.ρ e s.σ tp) fun p tp=>fh (.next,⟨s.ρ,p.2⟩) tp
  |.Return (some e) p=>tb (tvE Φ 40 sc s.ρ e s.σ tp) fun p tp=>fh (.ret p.1,⟨s.ρ,p.2⟩) tp
  |.Assign [.Tuple ts i q] (.Tuple es j r) p=>bif decide (es.length≤1000)&&vj sc ts es then tb (tRs Φ muts sc s.ρ ts es s.σ tp) fun p tp=>et ((ig Φ 40 sc ts p.1 ⟨s.ρ,p.2⟩).map fun s=>(.next,s)) tp else none
  |.Assign [.Tuple ts i q] (.Name x c) p=>tb (tvE Φ 40 sc s.ρ (.Name x c) s.σ tp) fun p tp=>et (match p.1 with
   |.d x=>(aj 4 (.Tuple ts i q) x s.ρ).map fun ρ=>(.next,⟨ρ,p.2⟩)
   |_=>none) tp
  |.Assign [.Tuple ts i q] (.Call x c y z) p=>tb (tvE Φ 40 sc s.ρ (.Call x c y z) s.σ tp) fun p tp=>et (match p.1 with
   |.d x=>(aj 4 (.Tuple ts i q) x s.ρ).map fun ρ=>(.next,⟨ρ,p.2⟩)
   |_=>none) tp
  |.Assign [.Name x c] e p=>tb (tR Φ muts sc s.ρ (.Name x c) e s.σ tp) fun p tp=>et ((s.ρ.set x p.1).map fun ρ=>(.next,⟨ρ,p.2⟩)) tp
  |.Assign [.Attribute o a c] e p=>tb (tM Φ 39 sc s.ρ e s.σ tp) fun p tp=>zl tp ((ch Φ 40 sc (.Attribute o a c) p.1 ⟨s.ρ,p.2⟩).map fun s=>(.next,s))
  |.Assign [.Subscript o a c] e p=>tb (tM Φ 39 sc s.ρ e s.σ tp) fun p tp=>zl tp ((ch Φ 40 sc (.Subscript o a c) p.1 ⟨s.ρ,p.2⟩).map fun s=>(.next,s))
  |.AugAssign (.Name x q) op e p=>bif oy op then tb (et (s.ρ.get x) tp) fun v tp=>match v with
    |.d a=>tb (tvE Φ 40 sc s.ρ e s.σ tp) fun p tp=>et (match p.1 with
     |.d (.int b)=>(match a with|.int _=>(f9 op a (.int b)).bind fun r=>(s.ρ.set x (.d r)).map fun ρ=>(.next,⟨ρ,p.2⟩)|_=>none)
     |_=>none) tp
    |_=>none else none
  |.If t b o _=>tb (tT (tvE Φ 39 sc s.ρ) t s.σ tp) fun p tp=>bif p.1 then aaf (tvS muts sc n) b ⟨s.ρ,p.2⟩ tp else aaf (tvS muts sc n) o ⟨s.ρ,p.2⟩ tp
  |.While t b [] _=>zl tp (b7 (ef Φ sc t) (cc (evS Φ muts sc n) b) a4f s)
  |.For target iter b [] _=>bif n7 target iter then tb (afh Φ 39 sc s.ρ (tvE Φ 39 sc s.ρ) iter s.σ tp) fun p tp=>bif p.1.2 then none else zl tp (iu (c9 Φ muts sc n target b) p.1.1 ⟨s.ρ,p.2⟩) else none
  |.Pass p=>et (evS Φ muts sc (n+1) (.Pass p) s) tp
  |.Break p=>et (evS Φ muts sc (n+1) (.Break p) s) tp
  |.Continue p=>et (evS Φ muts sc (n+1) (.Continue p) s) tp
  |.Return none p=>et (evS Φ muts sc (n+1) (.Return none p) s) tp
  |_=>none
end
section
variable{Φ:Fx}{muts:List Str}{sc:Scope}
theorem aeh (ρ e σ tp):Ad (tM Φ 39 sc ρ e σ tp) (evM Φ 40 sc ρ e σ):=by
 rw[agq]
 exact(tr 39 sc ρ e σ tp).bind fun p tp=>.ret _ tp
theorem akp (ρ t e σ tp):Ad (tR Φ muts sc ρ t e σ tp) (evR Φ 40 muts sc ρ t e σ):=by
 cases t with
 |Name x c=>
  show Ad (if muts.contains x then _ else _) (if muts.contains x then _ else _)
  cases muts.contains x
  ·exact tr 40 sc ρ e σ tp
  ·exact aeh ρ e σ tp
 |_=>exact aeh ρ e σ tp
theorem afx (ρ:Rho):∀ts es σ tp,Ad (tRs Φ muts sc ρ ts es σ tp) (aan Φ 40 muts sc ρ ts es σ)
 |[],[],σ,tp=>.ret _ tp
 |t::ts,e::es,σ,tp=>by
  refine(akp ρ t e σ tp).bind fun p tp=>?_
  exact(afx ρ ts es p.2 tp).map
 |[],_::_,_,_=>.none _
 |_::_,[],_,_=>.none _
theorem a7p{tf:Stmt→St→bo→TR (Fl×St)}{f:Stmt→St→Option (Fl×St)}(h:∀st s tp,Ad (tf st s tp) (f st s)):∀b s tp,Ad (aaf tf b s tp) (cc f b s)
 |[],s,tp=>.ret _ tp
 |t::r,s,tp=>by
  rw[lb]
  refine (h t s tp).bind fun p tp=>?_
  obtain⟨fl,s'⟩:=p
  cases fl with
  |next=>exact a7p h r s' tp
  |_=>exact .ret _ tp
theorem agh:∀n st s tp,Ad (tvS Φ muts sc n st s tp) (evS Φ muts sc n st s)
 |0,_,_,_=>.none _
 |n+1,st,s,tp=>by
  have seq:=a7p (agh n)
  cases st with
  |Expr e p=>exact .bif (fun _=>.none _) fun q=>.to ((tr 40 sc s.ρ e s.σ tp).map) (abr Φ n sc muts s q)
  |Return e p=>cases e with
   |none=>exact .opt _ tp
   |some e=>
    have key:Ad (tb (tvE Φ 40 sc s.ρ e s.σ tp) fun p tp=>fh ((.ret p.1,⟨s.ρ,p.2⟩):Fl×St) tp) _:=(tr 40 sc s.ρ e s.σ tp).map
    exact key.to (ae6 Φ n sc muts s e p)
  |Assign ts e p=>
   rcases ts with _|⟨t,_|⟨t2,ts⟩⟩
   ·exact .none _
   ·cases t with
    |Name x c=>
     rw[a4p]
     have key:Ad (tb (tR Φ muts sc s.ρ (.Name x c) e s.σ tp) fun p tp=>et ((s.ρ.set x p.1).map fun ρ=>((.next,⟨ρ,p.2⟩):Fl×St)) tp) _:=(akp s.ρ (.Name x c) e s.σ tp).bind fun p tp=>.opt ((s.ρ.set x p.1).map fun ρ=>((.next,⟨ρ,p.2⟩):Fl×St)) tp
     cases e<;>exact key
    |Tuple us i q=>cases e with
     |Tuple es j r=>exact .bif (fun q=>.to ((afx s.ρ us es s.σ tp).bind fun p tp=>.opt _ tp) (agg Φ n sc muts s q)) fun _=>.none _
     |Name x c=>
      have key:Ad (tb (tvE Φ 40 sc s.ρ (.Name x c) s.σ tp) fun p tp=>et (match p.1 with
       |.d x=>(aj 4 (.Tuple us i q) x s.ρ).map fun ρ=>((.next,⟨ρ,p.2⟩):Fl×St)
       |_=>none) tp) _:=(tr 40 sc s.ρ (.Name x c) s.σ tp).bind fun p tp=>.opt (match p.1 with
       |.d x=>(aj 4 (.Tuple us i q) x s.ρ).map fun ρ=>((.next,⟨ρ,p.2⟩):Fl×St)
       |_=>none) tp
      exact key.to (ahj Φ n sc muts s us i q x c p)
     |Call x c y z=>
      have key:Ad (tb (tvE Φ 40 sc s.ρ (.Call x c y z) s.σ tp) fun p tp=>et (match p.1 with
       |.d x=>(aj 4 (.Tuple us i q) x s.ρ).map fun ρ=>((.next,⟨ρ,p.2⟩):Fl×St)
       |_=>none) tp) _:=(tr 40 sc s.ρ (.Call x c y z) s.σ tp).bind fun p tp=>.opt (match p.1 with
       |.d x=>(aj 4 (.Tuple us i q) x s.ρ).map fun ρ=>((.next,⟨ρ,p.2⟩):Fl×St)
       |_=>none) tp
      exact key.to (aa3 Φ n sc muts s us i q x c y z p)
     |_=>exact .none _
    |Attribute o a c=>
     rw[aai]
     have key:Ad (tb (tM Φ 39 sc s.ρ e s.σ tp) fun p tp=>zl tp ((ch Φ 40 sc (.Attribute o a c) p.1 ⟨s.ρ,p.2⟩).map fun s=>(.next,s))) _:=(aeh s.ρ e s.σ tp).bind fun p tp=>.popL tp _
     cases e<;>exact key
    |Subscript o a c=>
     rw[aca]
     have key:Ad (tb (tM Φ 39 sc s.ρ e s.σ tp) fun p tp=>zl tp ((ch Φ 40 sc (.Subscript o a c) p.1 ⟨s.ρ,p.2⟩).map fun s=>(.next,s))) _:=(aeh s.ρ e s.σ tp).bind fun p tp=>.popL tp _
     cases e<;>exact key
    |_=>exact .none _
   ·cases t<;>exact .none _
  |AugAssign t op e p=>cases t with
   |Name x q=>
    refine .bif (fun q=>.to ?_ (aei Φ n sc muts s q)) fun _=>.none _
    refine (Ad.opt _ tp).bind fun v tp=>?_
    cases v with
    |m i=>exact .none _
    |d a=>exact (tr 40 sc s.ρ e s.σ tp).bind fun p tp=>.opt _ tp
   |_=>exact .none _
  |If t b o p=>
   refine .to (Ad.bind (y:=evT Φ 40 sc s.ρ t s.σ) (aes 39 sc s.ρ t s.σ tp) fun p tp=>Ad.ite (c:=p.1) (fun _=>seq b ⟨s.ρ,p.2⟩ tp) fun _=>seq o ⟨s.ρ,p.2⟩ tp) (ad9 Φ n sc muts s t b o p)
  |While t b o p=>cases o with
   |nil=>exact .popL tp _
   |cons _ _=>exact .none _
  |For target iter b o p=>cases o with
   |nil=>
    refine .bif (fun q=>.to ?_ (af6 Φ n sc muts s q)) fun _=>.none _
    refine Ad.bind (y:=gf Φ 40 sc s.ρ iter s.σ) (a83 39 sc s.ρ (tr 39 sc s.ρ) iter s.σ tp) fun p tp=>?_
    exact .ite (fun _=>.none _) fun _=>.popL tp _
   |cons _ _=>exact .none _
  |Pass p=>exact .opt _ tp
  |Break p=>exact .opt _ tp
  |Continue p=>exact .opt _ tp
  |_=>exact .none _
noncomputable def ad0 (Φ:Fx) (n:Nat) (csc:Scope) (ρ:Rho) (elt target:Expr) (ifs:List Expr) (x:D) (σ:Sto) (tp:bo):TR (Option D×Sto):=
 tb (et (aj 4 target x ((bz 4 target).map fun y=>(y,none))) tp) fun ρc tp=>
  tb (a6u (tT (tvE Φ n csc (ρc++r5 csc ρ))) ifs σ tp) fun t tp=>bif t.1 then tb (tvE Φ (n+1) csc (ρc++r5 csc ρ) elt t.2 tp) fun q tp=>tb (et (toD q.2 q.1) tp) fun u tp=>fh (some u.1,u.2) tp else fh (none,t.2) tp
inductive All:List Prop→Prop
 |nil:All []
 |cons{p:Prop}{ps:List Prop}:p→All ps→All (p::ps)
theorem All.all{ps:List Prop}(h:All ps):∀p∈ps,p:=by
 induction h with
 |nil=>exact fun _ m=>nomatch m
 |cons h _ ih=>intro q m;cases m with
  |head=>exact h
  |tail _ m=>exact ih q m
theorem a9{n:Nat}{b:List Stmt}{s:St}{fl:Fl}{s':St}{ps:List Prop}(f:All ps) (tp:bo) (h:aaf (tvS Φ muts sc n) b s tp=some ((fl,s'),[],ps)):cc (evS Φ muts sc n) b s=some (fl,s'):=a7p (agh n) b s tp _ _ _ h f.all
theorem a8{n:Nat}{st:Stmt}{s:St}{fl:Fl}{s':St}{ps:List Prop}(f:All ps)(tp:bo)(h:tvS Φ muts sc n st s tp=some ((fl,s'),[],ps)):evS Φ muts sc n st s=some (fl,s'):=agh n st s tp _ _ _ h f.all
theorem ah{t:Expr}{s:St}{c:Bool}{σ':Sto}{ps:List Prop}(f:All ps) (tp:bo) (h:tT (tvE Φ 39 sc s.ρ) t s.σ tp=some ((c,σ'),[],ps)):ef Φ sc t s=some (c,⟨s.ρ,σ'⟩):=by
 unfold ef
 rw[show evT Φ ak sc s.ρ t s.σ=_ from aes 39 sc s.ρ t s.σ tp _ _ _ h f.all];rfl
theorem aef{n:Nat}{csc:Scope}{ρ:Rho}{elt target:Expr}{ifs:List Expr}{ver:Nat}{x:D}{σ:Sto}{r:Option D×Sto}{ps:List Prop}(f:All ps) (tp:bo) (h:ad0 Φ n csc ρ elt target ifs x σ tp=some (r,[],ps)):nu Φ (n+1) csc ρ elt target ifs false ver x σ=some r:=by
 refine (show Ad (ad0 Φ n csc ρ elt target ifs x σ tp) (nu Φ (n+1) csc ρ elt target ifs false ver x σ) from ?_) _ _ _ h f.all
 refine (Ad.opt _ tp).bind fun ρc tp=>?_
 refine Ad.bind (y:=mo (evT Φ (n+1) csc (ρc++r5 csc ρ)) ifs σ) (a5h (fun e σ tp=>aes n csc _ e σ tp) ifs σ tp) fun t tp=>?_
 refine .ite (fun _=>?_) fun _=>.ret _ tp
 refine (tr (n+1) csc _ elt t.2 tp).bind fun q tp=>?_
 exact (Ad.opt _ tp).bind fun u tp=>.ret _ tp
end
theorem z8{N:Nat}{k:Key}{F:Fn}{ds:List D}{d:D}(hk:af.lookup k=some (.fn F)) (ρ:Rho) (hs:(vx F.params (ds.map .d) F.dflts).map (gp F.scope)=some ρ){v:V}{s':St}
  (h:cc (evS (fx N) F.muts F.scope 20) F.body ⟨ρ,⟨[],0⟩⟩=some (.ret v,s')) (hd:(toD s'.σ (norm s'.σ v)).map (·.1)=some d):(fx (N+1)).pure k ds=some d:=by
 refine de hs ?_;clear hs;intro b h1 h2
 exact xo (Nat.succ_pos _) hk (run_pure h1 h2 h hd)
theorem ab{N:Nat}{k:Key}{F:Fn}{ds:List D}{ps:List Prop}{d:D}(hk:af.lookup k=some (.fn F)) (ρ:Rho) (hs:(vx F.params (ds.map .d) F.dflts).map (gp F.scope)=some ρ) (v:V) (s':St) (f:All ps) (tp:bo)
  (h:aaf (tvS (fx N) F.muts F.scope 20) F.body ⟨ρ,⟨[],0⟩⟩ tp=some ((.ret v,s'),[],ps)) (hd:(toD s'.σ (norm s'.σ v)).map (·.1)=some d):(fx (N+1)).pure k ds=some d:=by
 exact z8 hk ρ hs (a9 f tp h) hd
end
section
open PySem PyProof.Rows
@[reducible]noncomputable def na(x_text x_at x_data x_has_linker x_back x_word:Option V):Rho:=[(("text":Str),x_text),(("at":Str),x_at),(("data":Str),x_data),(("has_linker":Str),x_has_linker),(("back":Str),x_back),(("word":Str),x_word)]
theorem nf:af.lookup (.fn "cluster_is_conjunct")=some (.fn (ae 22)):=by kernel_rfl
@[reducible]noncomputable def jc(x_text x_at x_data x_back:Option V):Rho:=[(("text":Str),x_text),(("at":Str),x_at),(("data":Str),x_data),(("back":Str),x_back)]
theorem jh:af.lookup (.fn "cluster_is_joined_picture")=some (.fn (ae 23)):=by kernel_rfl
@[reducible]noncomputable def ua(x_text x_at x_data:Option V):Rho:=[(("text":Str),x_text),(("at":Str),x_at),(("data":Str),x_data)]
theorem sx:af.lookup (.fn "cluster_is_flag")=some (.fn (ae 25)):=by kernel_rfl
@[reducible]noncomputable def wt(x_text x_at x_data x_is_legacy x_told:Option V):Rho:=[(("text":Str),x_text),(("at":Str),x_at),(("data":Str),x_data),(("is_legacy":Str),x_is_legacy),(("told":Str),x_told)]
theorem my:af.lookup (.fn "cluster_break")=some (.fn (ae 26)):=by kernel_rfl
@[reducible]noncomputable def z9(x_elements x_how x_spread x_top x_found x_first x_second x_third x_is_variable:Option V):Rho:=[(("elements":Str),x_elements),(("how":Str),x_how),(("spread":Str),x_spread),(("top":Str),x_top),(("found":Str),x_found),(("first":Str),x_first),(("second":Str),x_second),(("third":Str),x_third),(("is_variable":Str),x_is_variable)]
theorem a7a:af.lookup (.fn "weighted")=some (.fn (ae 31 ["found"])):=by kernel_rfl
theorem a0p:af.lookup (.fn "SearchPiece")=some (.cls "SearchPiece" (d0 34 0)):=by kernel_rfl
@[reducible]noncomputable def n9(x_self:Option V):Rho:=[(("self":Str),x_self)]
theorem n8:af.lookup (.meth "SearchPiece" "is_idle")=some (.fn (d0 34 1)):=by kernel_rfl
@[reducible]noncomputable def n6(x_weights x_strength x_levels x_number:Option V):Rho:=[(("weights":Str),x_weights),(("strength":Str),x_strength),(("levels":Str),x_levels),(("number":Str),x_number)]
theorem x9:af.lookup (.fn "search_levels")=some (.fn (ae 35 ["levels"])):=by kernel_rfl
@[reducible]noncomputable def i0(x_groups x_least x_behind x_elements x_first x_end x_cuts x_reached x_number:Option V):Rho:=[(("groups":Str),x_groups),(("least":Str),x_least),(("behind":Str),x_behind),(("elements":Str),x_elements),(("first":Str),x_first),(("end":Str),x_end),(("cuts":Str),x_cuts),(("reached":Str),x_reached),(("number":Str),x_number)]
theorem a0a:af.lookup (.fn "search_cuts")=some (.fn (ae 36 ["least","cuts"])):=by kernel_rfl
@[reducible]noncomputable def fu(x_text x_table x_data x_strength x_how x_groups x_elements x_some x_first x_behind x_weights x_at x_pieces x_cuts x_number x_part x_many x_places:Option V):Rho:=[(("text":Str),x_text),(("table":Str),x_table),(("data":Str),x_data),(("strength":Str),x_strength),(("how":Str),x_how),(("groups":Str),x_groups),(("elements":Str),x_elements),(("some":Str),x_some),(("first":Str),x_first),(("behind":Str),x_behind),(("weights":Str),x_weights),(("at":Str),x_at),(("pieces":Str),x_pieces),(("cuts":Str),x_cuts),(("number":Str),x_number),(("part":Str),x_part),(("many":Str),x_many),(("places":Str),x_places)]
theorem wo:af.lookup (.fn "search_pieces")=some (.fn (ae 37 ["elements","pieces"])):=by kernel_rfl
@[reducible]noncomputable def wk(x_pattern x_table x_data x_strength x_how:Option V):Rho:=[(("pattern":Str),x_pattern),(("table":Str),x_table),(("data":Str),x_data),(("strength":Str),x_strength),(("how":Str),x_how)]
theorem x4:af.lookup (.fn "search_wanted")=some (.fn (ae 38)):=by kernel_rfl
@[reducible]noncomputable def fk(x_text x_data x_found x_at:Option V):Rho:=[(("text":Str),x_text),(("data":Str),x_data),(("found":Str),x_found),(("at":Str),x_at)]
theorem a06:af.lookup (.fn "search_ends")=some (.fn (ae 39)):=by kernel_rfl
@[reducible]noncomputable def x8(x_part x_whole:Option V):Rho:=[(("part":Str),x_part),(("whole":Str),x_whole)]
theorem wz:af.lookup (.fn "search_begins")=some (.fn (ae 40)):=by kernel_rfl
@[reducible]noncomputable def ux(x_pieces x_start x_wanted x_levels x_number x_at x_more:Option V):Rho:=[(("pieces":Str),x_pieces),(("start":Str),x_start),(("wanted":Str),x_wanted),(("levels":Str),x_levels),(("number":Str),x_number),(("at":Str),x_at),(("more":Str),x_more)]
theorem gu:af.lookup (.fn "search_stretch")=some (.fn (ae 41 ["levels"])):=by kernel_rfl
@[reducible]noncomputable def ip(x_pieces x_stretch x_first x_behind:Option V):Rho:=[(("pieces":Str),x_pieces),(("stretch":Str),x_stretch),(("first":Str),x_first),(("behind":Str),x_behind)]
theorem x0:af.lookup (.fn "search_widest")=some (.fn (ae 42)):=by kernel_rfl
@[reducible]noncomputable def jx(x_pieces x_stretch x_ends x_first x_behind:Option V):Rho:=[(("pieces":Str),x_pieces),(("stretch":Str),x_stretch),(("ends":Str),x_ends),(("first":Str),x_first),(("behind":Str),x_behind)]
theorem jq:af.lookup (.fn "search_whole")=some (.fn (ae 43)):=by kernel_rfl
@[reducible]noncomputable def dy(x_pieces x_stretch x_ends x_is_wide:Option V):Rho:=[(("pieces":Str),x_pieces),(("stretch":Str),x_stretch),(("ends":Str),x_ends),(("is_wide":Str),x_is_wide)]
theorem ir:af.lookup (.fn "search_chosen")=some (.fn (ae 45)):=by kernel_rfl
@[reducible]noncomputable def a2n(x_pieces x_wanted x_ends x_is_wide x_found x_start x_stretch x_places:Option V):Rho:=[(("pieces":Str),x_pieces),(("wanted":Str),x_wanted),(("ends":Str),x_ends),(("is_wide":Str),x_is_wide),(("found":Str),x_found),(("start":Str),x_start),(("stretch":Str),x_stretch),(("places":Str),x_places)]
theorem u7:af.lookup (.fn "search_all")=some (.fn (ae 46 ["found"])):=by kernel_rfl
@[reducible]noncomputable def yy(x_found x_apart x_reached x_first x_behind:Option V):Rho:=[(("found":Str),x_found),(("apart":Str),x_apart),(("reached":Str),x_reached),(("first":Str),x_first),(("behind":Str),x_behind)]
theorem y4:af.lookup (.fn "search_apart")=some (.fn (ae 47 ["apart"])):=by kernel_rfl
@[reducible]noncomputable def q6(x_found x_apart x_reached x_first x_behind:Option V):Rho:=[(("found":Str),x_found),(("apart":Str),x_apart),(("reached":Str),x_reached),(("first":Str),x_first),(("behind":Str),x_behind)]
theorem q7:af.lookup (.fn "search_apart_back")=some (.fn (ae 48 ["apart"])):=by kernel_rfl
@[reducible]noncomputable def aaw(x_pattern x_text x_table x_data x_strength x_how x_is_whole x_is_wide x_overlaps x_is_backwards x_pieces x_ends x_found:Option V):Rho:=[(("pattern":Str),x_pattern),(("text":Str),x_text),(("table":Str),x_table),(("data":Str),x_data),(("strength":Str),x_strength),(("how":Str),x_how),(("is_whole":Str),x_is_whole),(("is_wide":Str),x_is_wide),(("overlaps":Str),x_overlaps),(("is_backwards":Str),x_is_backwards),(("pieces":Str),x_pieces),(("ends":Str),x_ends),(("found":Str),x_found)]
theorem ab2:af.lookup (.fn "matches")=some (.fn (agu 49)):=by kernel_rfl
theorem a6d:af.lookup (.fn "CollMatch")=some (.cls "CollMatch" (d0 79 0)):=by kernel_rfl
@[reducible]noncomputable def v9(x_self x_codes x_at x_gone x_data x_live x_size x_places x_key:Option V):Rho:=[(("self":Str),x_self),(("codes":Str),x_codes),(("at":Str),x_at),(("gone":Str),x_gone),(("data":Str),x_data),(("live":Str),x_live),(("size":Str),x_size),(("places":Str),x_places),(("key":Str),x_key)]
theorem uv:af.lookup (.meth "Elements" "match")=some (.fn (d0 80 10)):=by kernel_rfl
@[reducible]noncomputable def nc(x_self x_codes x_places x_gone x_data x_key x_at x_stays x_rank:Option V):Rho:=[(("self":Str),x_self),(("codes":Str),x_codes),(("places":Str),x_places),(("gone":Str),x_gone),(("data":Str),x_data),(("key":Str),x_key),(("at":Str),x_at),(("stays":Str),x_stays),(("rank":Str),x_rank)]
theorem ng:af.lookup (.meth "Elements" "with_marks")=some (.fn (d0 80 11)):=by kernel_rfl
@[reducible]noncomputable def sa(x_self x_text x_data x_rows x_codes x_gone x_found x_at x_taken x_origins:Option V):Rho:=[(("self":Str),x_self),(("text":Str),x_text),(("data":Str),x_data),(("rows":Str),x_rows),(("codes":Str),x_codes),(("gone":Str),x_gone),(("found":Str),x_found),(("at":Str),x_at),(("taken":Str),x_taken),(("origins":Str),x_origins)]
theorem rz:af.lookup (.meth "Elements" "located")=some (.fn (d0 80 12 ["found"])):=by kernel_rfl
@[reducible]noncomputable def mq(x_self x_text x_data x_found x_elements x_begun x_ended:Option V):Rho:=[(("self":Str),x_self),(("text":Str),x_text),(("data":Str),x_data),(("found":Str),x_found),(("elements":Str),x_elements),(("begun":Str),x_begun),(("ended":Str),x_ended)]
theorem md:af.lookup (.meth "Elements" "elements_of")=some (.fn (d0 80 13 ["found"])):=by kernel_rfl
@[reducible]noncomputable def w8(x_gone x_at x_most x_found:Option V):Rho:=[(("gone":Str),x_gone),(("at":Str),x_at),(("most":Str),x_most),(("found":Str),x_found)]
theorem a41:af.lookup (.fn "coll_live")=some (.fn (ae 81 ["found"])):=by kernel_rfl
@[reducible]noncomputable def uh(x_text x_data x_rows x_place x_code x_part x_rank x_at:Option V):Rho:=[(("text":Str),x_text),(("data":Str),x_data),(("rows":Str),x_rows),(("place":Str),x_place),(("code":Str),x_code),(("part":Str),x_part),(("rank":Str),x_rank),(("at":Str),x_at)]
theorem ta:af.lookup (.fn "coll_decomposed")=some (.fn (ae 82 ["rows"])):=by kernel_rfl
theorem r8:af.lookup (.meth "Data" "get")=some (.fn (d0 89 2)):=by kernel_rfl
@[reducible]noncomputable def ij(x_rows x_text x_found x_at x_many:Option V):Rho:=[(("rows":Str),x_rows),(("text":Str),x_text),(("found":Str),x_found),(("at":Str),x_at),(("many":Str),x_many)]
theorem ww:af.lookup (.fn "_law_elements")=some (.fn (ae 95)):=by kernel_rfl
@[reducible]noncomputable def a4k(x_elements x_strength:Option V):Rho:=[(("elements":Str),x_elements),(("strength":Str),x_strength)]
theorem a4d:af.lookup (.fn "_law_told")=some (.fn (ae 96)):=by kernel_rfl
@[reducible]noncomputable def a0k(x_near x_far:Option V):Rho:=[(("near":Str),x_near),(("far":Str),x_far)]
theorem a0o:af.lookup (.fn "_law_joined")=some (.fn (ae 97)):=by kernel_rfl
@[reducible]noncomputable def yf(x_piece:Option V):Rho:=[(("piece":Str),x_piece)]
theorem zq:af.lookup (.fn "_law_is_idle")=some (.fn (ae 98)):=by kernel_rfl
@[reducible]noncomputable def qe(x_rows x_text x_strength x_found x_at x_many:Option V):Rho:=[(("rows":Str),x_rows),(("text":Str),x_text),(("strength":Str),x_strength),(("found":Str),x_found),(("at":Str),x_at),(("many":Str),x_many)]
theorem a0s:af.lookup (.fn "_law_pieces")=some (.fn (ae 99 ["found"])):=by kernel_rfl
@[reducible]noncomputable def ll(x_pieces x_wish x_found x_low x_told x_high:Option V):Rho:=[(("pieces":Str),x_pieces),(("wish":Str),x_wish),(("found":Str),x_found),(("low":Str),x_low),(("told":Str),x_told),(("high":Str),x_high)]
theorem vp:af.lookup (.fn "_law_stretches")=some (.fn (ae 100 ["found"])):=by kernel_rfl
@[reducible]noncomputable def wc(x_pieces x_low x_high:Option V):Rho:=[(("pieces":Str),x_pieces),(("low":Str),x_low),(("high":Str),x_high)]
theorem a53:af.lookup (.fn "_law_wide")=some (.fn (ae 101)):=by kernel_rfl
@[reducible]noncomputable def a0f(x_text x_at x_marks:Option V):Rho:=[(("text":Str),x_text),(("at":Str),x_at),(("marks":Str),x_marks)]
theorem i5:af.lookup (.fn "_law_is_end")=some (.fn (ae 102)):=by kernel_rfl
@[reducible]noncomputable def sj(x_text x_pieces x_low x_high x_marks x_is_right:Option V):Rho:=[(("text":Str),x_text),(("pieces":Str),x_pieces),(("low":Str),x_low),(("high":Str),x_high),(("marks":Str),x_marks),(("is_right":Str),x_is_right)]
theorem m6:af.lookup (.fn "_law_whole")=some (.fn (ae 103)):=by kernel_rfl
@[reducible]noncomputable def a2f(x_some x_found x_low x_high:Option V):Rho:=[(("some":Str),x_some),(("found":Str),x_found),(("low":Str),x_low),(("high":Str),x_high)]
theorem a2r:af.lookup (.fn "_law_apart")=some (.fn (ae 104 ["found"])):=by kernel_rfl
@[reducible]noncomputable def a87(x_text x_pieces x_wish x_ways x_marks x_some:Option V):Rho:=[(("text":Str),x_text),(("pieces":Str),x_pieces),(("wish":Str),x_wish),(("ways":Str),x_ways),(("marks":Str),x_marks),(("some":Str),x_some)]
theorem a79:af.lookup (.fn "_law_due")=some (.fn (ae 105)):=by kernel_rfl
@[reducible]noncomputable def a4t(x_script x_cell x_cells x_mixed:Option V):Rho:=[(("script":Str),x_script),(("cell":Str),x_cell),(("cells":Str),x_cells),(("mixed":Str),x_mixed)]
theorem a42:nk.lookup (.fn "_law_deck")=some (.fn (ae 92)):=by kernel_rfl
@[reducible]noncomputable def a49(x_deck x_many:Option V):Rho:=[(("deck":Str),x_deck),(("many":Str),x_many)]
theorem w9:nk.lookup (.fn "_law_draw")=some (.fn (ae 93)):=by kernel_rfl
@[reducible]noncomputable def gc(x_deck x_rows x_sign:Option V):Rho:=[(("deck":Str),x_deck),(("rows":Str),x_rows),(("sign":Str),x_sign)]
theorem a5i:nk.lookup (.fn "_law_rows")=some (.fn (ae 94)):=by kernel_rfl
@[reducible]noncomputable def ajw(x_script x_deck x_rows x_table x_data x_signs x_strength x_word x_does_overlap x_is_back x_marks x_text x_low x_pattern x_pieces x_wish x_how x_ways x_told:Option V):Rho:=[(("script":Str),x_script),(("deck":Str),x_deck),(("rows":Str),x_rows),(("table":Str),x_table),(("data":Str),x_data),(("signs":Str),x_signs),(("strength":Str),x_strength),(("word":Str),x_word),(("does_overlap":Str),x_does_overlap),(("is_back":Str),x_is_back),(("marks":Str),x_marks),(("text":Str),x_text),(("low":Str),x_low),(("pattern":Str),x_pattern),(("pieces":Str),x_pieces),(("wish":Str),x_wish),(("how":Str),x_how),(("ways":Str),x_ways),(("told":Str),x_told)]
noncomputable abbrev Lv:=List (List Int)
noncomputable def lvD (l:List Int):D:=.list (l.map .int)
noncomputable def cq (L:Lv):D:=.list (L.map lvD)
structure Pc where
 a:Nat
 b:Nat
 lv:Lv
noncomputable def pcD(p:Pc):D:=.tuple [.int p.a,.int p.b,cq p.lv]
noncomputable def spD(p:Pc):D:=.inst "SearchPiece" [("first",.int p.a),("behind",.int p.b),("levels",cq p.lv)]
noncomputable def cw (L:Lv):Bool:=L.all (·.isEmpty)
theorem jb (n:Nat)(l:List Int):(l.map D.int).all (D.plainAt n)=true:=by
 induction l with
 |nil=>rfl
 |cons x l ih=>rw[List.map_cons,List.all_cons,ih];cases n<;>rfl
theorem a57 (l:List Int):(D.list (l.map D.int)).plain=true:=jb 5 l
theorem a1y(l:List Int):(lvD l).plain=true:=jb 5 l
theorem jk (L:Lv):(D.list (L.map lvD)).plain=true:=by
 show(L.map lvD).all (D.plainAt 5)=true
 induction L with
 |nil=>rfl
 |cons l L ih=>rw[List.map_cons,List.all_cons,ih,show D.plainAt 5 (lvD l)=true from jb 4 l];rfl
theorem py:(D.list []).plain=true:=rfl
theorem ab1(i:Int):(D.int i).plain=true:=rfl
theorem xg (l:List D):D.beq (.list l) (.list [])=l.isEmpty:=by cases l<;>rfl
theorem ii{α β:Type}(f:α→β)(l:List α):(l.map f).isEmpty=l.isEmpty:=by cases l<;>rfl
theorem w0(L:Lv):((L.filter fun l=>!l.isEmpty).isEmpty)=cw L:=by
 unfold cw
 induction L with
 |nil=>rfl
 |cons l L ih=>rw[List.filter_cons,List.all_cons];cases l.isEmpty<;>simp[ih]
noncomputable abbrev El:=Int×Int×Int
noncomputable def elD(e:El):D:=.tuple [.int e.1,.int e.2.1,.int e.2.2,.bool false]
noncomputable def db (es:List El):D:=.list (es.map elD)
noncomputable def El.at(e:El):Nat→Int
 |0=>e.1
 |1=>e.2.1
 |_=>e.2.2
noncomputable def c7(es:List El)(s:Nat):Lv:=(List.range s).map fun k=>(es.map fun e=>e.at k).filter fun x=>!(x==0)
noncomputable abbrev Rows:=List (List Int×List El)
noncomputable def zf (k:List Int):D:=.tuple (k.map .int)
noncomputable def ac7(r:List Int×List El):D×D:=(zf r.1,db r.2)
noncomputable def fc (R:Rows):D:=.dict .tup (R.map ac7)
noncomputable def bg (R:Rows)(k:List Int):Option (List El):=match R with
 |[]=>none
 |(k',es)::R=>if k'=k then some es else bg R k
theorem mr:∀a b:List Int,D.beqs (a.map .int) (b.map .int)=decide (a=b)
 |[],[]=>rfl
 |[],_::_=>rfl
 |_::_,[]=>rfl
 |x::a,y::b=>by
  show((x==y)&&D.beqs (a.map .int) (b.map .int))=_
  rw[mr a b]
  by_cases h:x=y
  ·subst h;by_cases h2:a=b<;>simp[h2]
  ·simp[h]
theorem acl (a b:List Int):D.beq (zf a) (zf b)=decide (a=b):=mr a b
theorem a9z (R:Rows) (k:List Int):a6 (zf k) (R.map ac7)=(bg R k).map db:=by
 induction R with
 |nil=>rfl
 |cons r R ih=>
  obtain⟨k',es⟩:=r
  rw[List.map_cons]
  show(if D.beq (zf k') (zf k)then some (db es)else a6 (zf k) (R.map ac7))=_
  rw[acl,ih]
  show _=(if k'=k then some es else bg R k).map db
  by_cases h:k'=k<;>simp[h]
theorem z6 (R:Rows) (k:List Int):a6 (D.tuple (k.map .int)) (R.map ac7)=(bg R k).map db:=a9z R k
theorem vu:∀l:List Int,D.allInts (l.map .int)=true
 |[]=>rfl
 |_::l=>vu l
theorem abb (k:List Int):D.kind (.tuple (k.map .int))=.tup:=if_pos (vu k)
theorem ya (k:List Int):Kd.asks .tup (.tuple (k.map .int))=true:=by
 unfold Kd.asks
 rw[abb];rfl
theorem a7x{α:Type}(pre suf:List α) (n:Nat) (i j:Int) (hi:i=pre.length) (hj:j=(pre.length:Int)+n):cut (pre++suf) (some i) (some j)=suf.take n:=by
 subst hi;subst hj
 show((pre++suf).take ((pre.length:Int)+n).toNat).drop (pre.length:Int).toNat=_
 rw[show((pre.length:Int)+n).toNat=pre.length+n by rfl,Int.toNat_natCast,List.drop_take]
 simp
theorem a35{α β:Type}(f:α→β) (l:List α) (a b:Option Int):cut (l.map f) a b=(cut l a b).map f:=by
 unfold cut
 rw[List.map_drop,List.map_take,List.length_map]
theorem ku{i:Int}(h:0≤i)(h':i<9223372036854775808):eh i=true:=by
 unfold eh lim
 rw[decide_eq_true h,decide_eq_true h'];rfl
theorem k9{i:Int}(h:-9223372036854775808<i)(h':i<9223372036854775808):small i=true:=by
 unfold small lim
 rw[decide_eq_true h,decide_eq_true h'];rfl
noncomputable def stE:Stmt→Expr
 |.Return (some e) _=>e
 |.Assign _ e _=>e
 |.Expr e _=>e
 |.If t _ _ _=>t
 |.While t _ _ _=>t
 |.For _ i _ _ _=>i
 |_=>.Constant .none 0 ⟨0,0,0,0⟩
noncomputable def stB:Stmt→List Stmt
 |.While _ b _ _=>b
 |.For _ _ b _ _=>b
 |.If _ b _ _=>b
 |_=>[]
noncomputable def stO:Stmt→List Stmt
 |.If _ _ o _=>o
 |_=>[]
noncomputable def stT:Stmt→Expr
 |.For t _ _ _ _=>t
 |_=>.Constant .none 0 ⟨0,0,0,0⟩
noncomputable def uy:Expr→Expr
 |.ListComp _ (⟨_,i,_,_⟩::_) _ _=>i
 |_=>.Constant .none 0 ⟨0,0,0,0⟩
noncomputable def nth (b:List Stmt)(i:Nat):Stmt:=b.getD i (.Pass ⟨0,0,0,0⟩)
noncomputable def sub (e:Expr)(i:Nat):Expr:=(match e with
 |.Compare l _ rs _=>l::rs
 |.BinOp l _ r _=>[l,r]
 |.Call f args _ _=>f::args
 |.Subscript o i _=>[o,i]
 |.UnaryOp _ x _=>[x]
 |.BoolOp _ vs _=>vs
 |.IfExp t b o _=>[t,b,o]
 |.Tuple es _ _=>es
 |.List es _=>es
 |.ListComp e _ _ _=>[e]
 |.Attribute o _ _=>[o]
 |_=>[]).getD i (.Constant .none 0 ⟨0,0,0,0⟩)
noncomputable def bq (Φ:Fx)(n:Nat)(ρ:Rho)(ver:Nat):Expr→D→Sto→Option (Option D×Sto)
 |.ListComp elt [⟨target,_,ifs,_⟩] csc _=>nu Φ n csc ρ elt target ifs false ver
 |_=>fun _ _=>none
noncomputable def aen (Φ:Fx)(n:Nat)(ρ:Rho):Expr→D→Sto→bo→TR (Option D×Sto)
 |.ListComp elt [⟨target,_,ifs,_⟩] csc _=>ad0 Φ n csc ρ elt target ifs
 |_=>fun _ _ _=>none
theorem b6{Φ:Fx}{n:Nat}{ρ:Rho}{ver:Nat}{e:Expr}{x:D}{σ:Sto}{r:Option D×Sto}{ps:List Prop}(f:All ps) (tp:bo) (h:aen Φ n ρ e x σ tp=some (r,[],ps)):bq Φ (n+1) ρ ver e x σ=some r:=by
 cases e with
 |ListComp elt gens csc p=>cases gens with
  |nil=>exact no h
  |cons g gs=>cases g with
   |mk t i ifs a=>cases gs with
    |nil=>exact aef f tp h
    |cons _ _=>exact no h
 |_=>exact no h
noncomputable abbrev σ0:Sto:=⟨[],0⟩
theorem a2m{n:Nat}(h:n≤1000000):fe n=true:=decide_eq_true h
theorem bc{α β:Type}(f:α→β)(l:List α)(h:l.length≤1000000):fe (l.map f).length=true:=a2m (by rw[List.length_map];exact h)
theorem zd{α β:Type}(p:α→Bool)(g:α→β)(l:List α):(l.filterMap fun x=>if p x=true then some (g x)else none)=(l.filter p).map g:=by
 induction l with
 |nil=>rfl
 |cons x l ih=>rw[List.filterMap_cons,List.filter_cons];cases p x<;>simp[ih]
theorem kt{β:Type}{turn:D→Sto→Option (Option D×Sto)}(emb:β→D) (p:β→Bool) (g:β→D){σ:Sto}(l:List β) (h:∀x∈l,turn (emb x) σ=some (if p x=true then some (g x)else none,σ)):be turn (l.map emb) σ=some ((l.filter p).map g,σ):=by
 rw[r7 emb (fun x=>if p x=true then some (g x)else none) l h,zd]
theorem aac (s:Nat):ee 0 (s:Int)=(List.range s).map fun i=>D.int ((i:Nat):Int):=by
 unfold ee
 rw[show((s:Int)-0).toNat=s by rfl]
 exact List.map_congr_left fun i _=>by rw[Int.zero_add]
theorem aak{s:Nat}(h:s≤1000000):((s:Int)≤1000000&&small (s:Int))=true:=by
 rw[k9 (by exact Int.natCast_nonneg _) (by exact om3 h),decide_eq_true (by exact amv h)];rfl
theorem jv{s:Nat}(h:s≤1000000)(σ:Sto):a37 [.d (.int s)] σ=some (((List.range s).map fun i=>D.int ((i:Nat):Int),false),σ):=by
 show(if((s:Int)≤1000000&&small (s:Int))=true then some ((ee 0 (s:Int),false),σ)else none)=_
 rw[if_pos (aak h),aac]
theorem adi (σ:Sto){l:List D}(h:(D.list l).plain=true):b8 σ .NotEq (.d (.list l)) (.d (.list []))=some (!l.isEmpty):=
 (ajg h py).trans (congrArg (fun b=>some (!b)) (xg l))
theorem agd (σ:Sto){l:List D}(h:(D.list l).plain=true):b8 σ .Eq (.d (.list l)) (.d (.list []))=some l.isEmpty:=
 (aas h py).trans (congrArg some (xg l))
theorem q5{turn:D→Sto→Option (Option D×Sto)}(L:Lv) (σ:Sto) (h:∀l:List Int,∀b,b8 σ .NotEq (.d (lvD l)) (.d (.list []))=some b→turn (lvD l) σ=some (if b=true then some (lvD l)else none,σ)):be turn (L.map lvD) σ=some ((L.filter fun l=>!l.isEmpty).map lvD,σ):=
 kt lvD _ lvD L fun l _=>h l _ ((adi σ (a57 l)).trans (by rw[ii]))
theorem a34 (L:Lv) (σ:Sto):b8 σ .Eq (.d (.list ((L.filter fun l=>!l.isEmpty).map lvD))) (.d (.list []))=some (cw L):=
 (agd σ (jk _)).trans (by rw[ii,w0])
theorem kc (N:Nat) (a b:D) (L:Lv) (hL:L.length≤1000):(fx (N+1)).pure (.fn "_law_is_idle") [.tuple [a,b,cq L]]=some (.bool (cw L)):=by
 let ρ:=yf (some (.d (.tuple [a,b,cq L])))
 have hc:be (bq (fx N) 38 ρ 0 (sub (stE (nth (ae 98).body 0)) 0)) (L.map lvD) σ0=_:=q5 L σ0 fun l b hb=>by cases b with|false=>exact b6 (.cons hb .nil) [.b false] (by kernel_rfl)|true=>exact b6 (.cons hb .nil) [.b true] (by kernel_rfl)
 exact ab zq ρ (by kernel_rfl) (.d (.bool (cw L))) ⟨ρ,σ0⟩ (.cons (bc lvD L (by exact Nat.le_trans (by assumption) (by decide))) (.cons hc (.cons (a34 L σ0) .nil))) [.c ((L.filter fun l=>!l.isEmpty).map lvD),.b (cw L)] (by kernel_rfl) (by kernel_rfl)
theorem lv3{s k:Nat}(hs:s≤3)(h:k<s):k=0∨k=1∨k=2:=by grind
theorem wf (N:Nat) (es:List El) (s:Nat) (he:es.length≤1000) (hs:s≤3):(fx (N+1)).pure (.fn "_law_told") [db es,.int s]=some (cq (c7 es s)):=by
 let ρ:=a4k (some (.d (db es))) (some (.d (.int s)))
 have hc:be (bq (fx N) 39 ρ 0 (stE (nth (ae 96).body 0))) ((List.range s).map fun i=>D.int ((i:Nat):Int)) σ0=some ((List.range s).map fun k=>lvD ((es.map fun e=>e.at k).filter fun x=>!(x==0)),σ0):=
  bn (fun i=>D.int ((i:Nat):Int)) (fun k=>lvD ((es.map fun e=>e.at k).filter fun x=>!(x==0))) (List.range s) fun k hk=>by
   have inner:be (bq (fx N) 38 [("level",some (.d (.int k))),("elements",some (.d (db es)))] 0 (sub (stE (nth (ae 96).body 0)) 0)) (es.map elD) σ0=some (((es.filter fun e=>!(e.at k==0))).map fun e=>D.int (e.at k),σ0):=
    kt elD (fun e=>!(e.at k==0)) (fun e=>.int (e.at k)) es fun e _=>by
     have hb:∀k b,(!(e.at k==0))=b→b8 σ0 .NotEq (.d (.int (e.at k))) (.d (.int 0))=some b:=fun k b q=>congrArg some q
     rcases lv3 hs (List.mem_range.mp hk) with rfl|rfl|rfl
     ·cases q:(!(e.at 0==0)) with|false=>exact b6 (.cons (hb 0 _ q) .nil) [.b false] (by kernel_rfl)|true=>exact b6 (.cons (hb 0 _ q) .nil) [.b true] (by kernel_rfl)
     ·cases q:(!(e.at 1==0)) with|false=>exact b6 (.cons (hb 1 _ q) .nil) [.b false] (by kernel_rfl)|true=>exact b6 (.cons (hb 1 _ q) .nil) [.b true] (by kernel_rfl)
     ·cases q:(!(e.at 2==0)) with|false=>exact b6 (.cons (hb 2 _ q) .nil) [.b false] (by kernel_rfl)|true=>exact b6 (.cons (hb 2 _ q) .nil) [.b true] (by kernel_rfl)
   have e2:lvD ((es.map fun e=>e.at k).filter fun x=>!(x==0))=.list (((es.filter fun e=>!(e.at k==0))).map fun e=>D.int (e.at k)):=by
    unfold lvD;rw[List.filter_map,List.map_map];rfl
   rw[e2]
   exact b6 (.cons (bc elD es (by exact Nat.le_trans (by assumption) (by decide))) (.cons inner .nil)) [.c (((es.filter fun e=>!(e.at k==0))).map fun e=>D.int (e.at k))] (by kernel_rfl)
 have e3:cq (c7 es s)=.list ((List.range s).map fun k=>lvD ((es.map fun e=>e.at k).filter fun x=>!(x==0))):=congrArg D.list (List.map_map ..)
 rw[e3]
 exact ab a4d ρ (by kernel_rfl) (.d (.list ((List.range s).map fun k=>lvD ((es.map fun e=>e.at k).filter fun x=>!(x==0))))) ⟨ρ,σ0⟩ (.cons (jv (s:=s) (by exact Nat.le_trans (by assumption) (by decide)) σ0) (.cons (bc (fun i=>D.int ((i:Nat):Int)) (List.range s) (by rw[List.length_range];exact ak8 hs)) (.cons hc .nil)))
  [.c ((List.range s).map fun i=>D.int ((i:Nat):Int)),.c ((List.range s).map fun k=>lvD ((es.map fun e=>e.at k).filter fun x=>!(x==0)))] (by kernel_rfl) (by kernel_rfl)
theorem a2v:∀(A B:Lv),x5 (A.map lvD) (B.map lvD)=(A.zip B).map fun p=>D.tuple [lvD p.1,lvD p.2]
 |[],_=>rfl
 |_::_,[]=>rfl
 |a::A,b::B=>by
  show _::x5 (A.map lvD) (B.map lvD)=_
  rw[a2v A B];rfl
noncomputable def bf(A B:Lv):Lv:=(A.zip B).map fun p=>p.1++p.2
theorem abg{a b:List Int}(h:a.length+b.length≤1000000):f9 .Add (lvD a) (lvD b)=some (lvD (a++b)):=by
 refine(adh (by rw[List.length_map,List.length_map];exact h)).trans ?_
 rw[←List.map_append];rfl
theorem a0q (N:Nat) (A B:Lv) (hA:∀l∈A,l.length≤1000) (hB:∀l∈B,l.length≤1000) (ha:A.length≤1000):(fx (N+1)).pure (.fn "_law_joined") [cq A,cq B]=some (cq (bf A B)):=by
 let ρ:=a0k (some (.d (cq A))) (some (.d (cq B)))
 have hc:be (bq (fx N) 39 ρ 0 (stE (nth (ae 97).body 0))) (x5 (A.map lvD) (B.map lvD)) σ0=some ((A.zip B).map fun p=>lvD (p.1++p.2),σ0):=by
  rw[a2v]
  exact bn (fun p:List Int×List Int=>D.tuple [lvD p.1,lvD p.2]) (fun p=>lvD (p.1++p.2)) (A.zip B) fun p hp=>by
   have h1:=hA p.1 (List.of_mem_zip hp).1
   have h2:=hB p.2 (List.of_mem_zip hp).2
   exact b6 (.cons (abg (a:=p.1) (b:=p.2) (by grind)) .nil) [.v (.d (lvD (p.1++p.2)))] (by kernel_rfl)
 have e3:cq (bf A B)=.list ((A.zip B).map fun p=>lvD (p.1++p.2)):=congrArg D.list (List.map_map ..)
 rw[e3]
 have hr:fe (x5 (A.map lvD) (B.map lvD)).length=true:=by
  rw[a2v]
  exact bc _ _ (by rw[List.length_zip];exact ai3 ha)
 exact ab a0o ρ (by kernel_rfl) (.d (.list ((A.zip B).map fun p=>lvD (p.1++p.2)))) ⟨ρ,σ0⟩ (.cons hr (.cons hc .nil)) [.c ((A.zip B).map fun p=>lvD (p.1++p.2))] (by kernel_rfl) (by kernel_rfl)
noncomputable def az (R:Rows)(suf:List Int):Nat:=if(bg R (suf.take 2)).isSome&&decide (1<suf.length)then 2 else 1
noncomputable def abh (R:Rows):Nat→List Int→List (Nat×List El)
 |0,_=>[]
 |k+1,suf=>if suf=[]then[]else(az R suf,(bg R (suf.take (az R suf))).getD [])::abh R k (suf.drop (az R suf))
noncomputable def seg (R:Rows)(t:List Int):List (Nat×List El):=abh R t.length t
theorem ft(R:Rows){suf:List Int}(h:suf≠[]):1≤az R suf∧az R suf≤suf.length:=by
 unfold az
 have:0<suf.length:=List.length_pos_iff.mpr h
 split
 ·rename_i q;rw[Bool.and_eq_true,decide_eq_true_eq]at q;exact ajl q
 ·exact an2 this
theorem a0u (R:Rows):∀(k j:Nat) (suf:List Int),suf.length≤k→k≤j→abh R j suf=abh R k suf
 |0,j,suf,h,_=>by
  have:suf=[]:=List.length_eq_zero_iff.mp (Nat.le_zero.mp h)
  subst this
  cases j<;>rfl
 |k+1,0,suf,h,h'=>by contradiction
 |k+1,j+1,suf,h,h'=>by
  unfold abh
  by_cases e:suf=[]
  ·rw[if_pos e,if_pos e]
  ·rw[if_neg e,if_neg e,a0u R k j _ (by have:=ft R e;rw[List.length_drop];exact al3 h this) (by exact Nat.le_of_succ_le_succ (by assumption))]
theorem a6c (R:Rows){suf:List Int}(h:suf≠[]):seg R suf=(az R suf,(bg R (suf.take (az R suf))).getD [])::seg R (suf.drop (az R suf)):=by
 unfold seg
 have h2:=ft R h
 obtain⟨k,hk⟩:∃k,suf.length=k+1:=⟨suf.length-1,by exact ank h2⟩
 rw[hk]
 show(if suf=[]then _ else _)=_
 rw[if_neg h,a0u R _ k _ (Nat.le_refl _) (by rw[List.length_drop];exact ao9 h2 hk)]
noncomputable def qj(R:Rows)(t:List Int):Prop:=∀c∈t,∃es,bg R [c]=some es
theorem qj.head{R:Rows}{suf:List Int}(h:qj R suf)(hn:suf≠[]):∃es,bg R (suf.take (az R suf))=some es:=by
 unfold az
 split
 ·rename_i q;rw[Bool.and_eq_true]at q;exact Option.isSome_iff_exists.mp q.1
 ·cases suf with
  |nil=>exact absurd rfl hn
  |cons c r=>exact h c (.head _)
theorem ti{α:Type}{T:St→Option (Bool×St)}{B:St→Option (Fl×St)}{R:Rows}{t:List Int}(st:Nat→α→Option V→St) (add:α→Nat→Nat→List El→α) (hR:qj R t)
  (hT:∀at_ acc m,T (st at_ acc m)=some (decide ((at_:Int)<t.length),st at_ acc m)) (Inv:Nat→α→Prop)
  (hB:∀pre suf es acc m,t=pre++suf→suf≠[]→bg R (suf.take (az R suf))=some es→Inv pre.length acc→∃m',B (st pre.length acc m)=some (.next,st (pre.length+az R suf) (add acc pre.length (az R suf) es) m')∧Inv (pre.length+az R suf) (add acc pre.length (az R suf) es)):
  ∀(k:Nat) (pre suf:List Int) (acc:α) (m:Option V),t=pre++suf→suf.length<k→Inv pre.length acc→∃m',b7 T B k (st pre.length acc m)=some (.next,st t.length ((seg R suf).foldl (fun p x=>(add p.1 p.2 x.1 x.2,p.2+x.1)) (acc,pre.length)).1 m')
 |0,pre,suf,acc,m,e,h,_=>by contradiction
 |k+1,pre,suf,acc,m,e,h,hi=>by
  rw[ie,hT]
  by_cases hn:suf=[]
  ·subst hn
   rw[List.append_nil]at e
   subst e
   rw[decide_eq_false (by grind)]
   exact⟨m,rfl⟩
  ·refine bk (ft R hn) ?_;intro h1 h2
   rw[decide_eq_true (by rw[e,List.length_append];exact amb h1 h2)]
   refine ex1 (qj.head (fun c hc=>hR c (by rw[e];exact List.mem_append_right _ hc)) hn) ?_;intro es he
   refine ar (hB pre suf es acc m e hn he hi) ?_;intro m' hb hi'
   show∃m',(B (st pre.length acc m)).bind _=_
   rw[hb]
   have e':t=(pre++suf.take (az R suf))++suf.drop (az R suf):=by rw[List.append_assoc,List.take_append_drop];exact e
   have hl:(pre++suf.take (az R suf)).length=pre.length+az R suf:=by rw[List.length_append,List.length_take];grind
   rw[←hl]at hi'
   refine ex1 (ti st add hR hT Inv hB k _ _ _ m' e' (by rw[List.length_drop];grind) hi') ?_;intro m'' q
   refine⟨m'',?_⟩
   rw[hl]at q
   rw[a6c R hn,he]
   exact q
noncomputable def al (t:List Int):D:=.list (t.map .int)
theorem qp (R:Rows){suf:List Int}(hn:suf≠[]):((bg R (suf.take 2)).isSome=true∧1<suf.length∧az R suf=2)∨((bg R (suf.take 2)).isSome=true∧¬1<suf.length∧az R suf=1)∨((bg R (suf.take 2)).isSome=false∧az R suf=1):=by
 unfold az
 cases h:(bg R (suf.take 2)).isSome with
 |false=>exact .inr (.inr ⟨rfl,rfl⟩)
 |true=>by_cases h2:1<suf.length<;>simp[h2]
theorem a6i (R:Rows) (k:List Int):(a6 (D.tuple (k.map .int)) (R.map ac7)).isSome=(bg R k).isSome:=by
 rw[z6];cases bg R k<;>rfl
theorem ad5 (pre suf:List Int) (n:Nat) (i j:Int) (hi:i=pre.length) (hj:j=(pre.length:Int)+n):cut (((pre++suf)).map D.int) (some i) (some j)=(suf.take n).map D.int:=by
 rw[a35,a7x pre suf n i j hi hj]
theorem a5u:∀(l:List (Nat×List El)) (p:List El×Nat),(l.foldl (fun p x=>(p.1++x.2,p.2+x.1)) p).1=p.1++l.flatMap Prod.snd
 |[],p=>(List.append_nil _).symm
 |x::l,p=>by rw[List.foldl_cons,a5u l,List.flatMap_cons,List.append_assoc]
theorem jt{t pre suf:List Int}(e:t=pre++suf) (ht:t.length≤1000) (n:Nat) (hn:n≤1000) (σ:Sto):d3 (some (.list (t.map .int))) (some (pre.length:Int)) (some ((pre.length:Int)+n)) none σ=some (.d (.list ((suf.take n).map .int)),σ):=by
 have h0:pre.length≤1000:=by rw[e,List.length_append]at ht;grind
 unfold d3
 rw[Option.all_some,Option.all_some,ku (i:=(pre.length:Int)) (by exact Int.natCast_nonneg _) (by exact alx h0),ku (i:=(pre.length:Int)+n) (by exact Int.natCast_nonneg _) (by grind),e]
 exact congrArg (fun l=>some (V.d (.list l),σ)) (ad5 pre suf n _ _ rfl rfl)
theorem a9a (R:Rows) (k:List Int) (σ:Sto) (b:Bool) (h:(bg R k).isSome=b):b8 σ .In (.d (.tuple (k.map .int))) (.d (fc R))=some b:=
 (if_pos (ya k)).trans (congrArg some ((a6i R k).trans h))
theorem yd{R:Rows}{k:List Int}{es:List El}(h:bg R k=some es) (σ:Sto):bx σ (.d (fc R)) (.d (.tuple (k.map .int)))=some (.d (db es)):=
 aaj (ya k) (by rw[z6,h];rfl)
theorem aer{a b:List El}(h:a.length+b.length≤1000000):f9 .Add (db a) (db b)=some (db (a++b)):=by
 refine(adh (by rw[List.length_map,List.length_map];exact h)).trans ?_
 rw[←List.map_append];rfl
theorem i9 (t:List Int) (σ:Sto):builtin ("len":Str) σ [.d (al t)]=some (.int t.length):=by
 rw[a3f];exact congrArg (fun n:Nat=>some (D.int n)) (List.length_map ..)
theorem ut (xs:List D) (σ:Sto):builtin ("tuple":Str) σ [.d (.list xs)]=some (.tuple xs):=abk σ xs
theorem x3 (N:Nat) (R:Rows) (t:List Int) (hR:qj R t) (ht:t.length≤50) (hb:∀k es,bg R k=some es→es.length≤50):
  (fx (N+1)).pure (.fn "_law_elements") [fc R,al t]=some (db ((seg R t).flatMap Prod.snd)):=by
 let st:Nat→List El→Option V→St:=fun at_ acc m=>⟨ij (some (.d (fc R))) (some (.d (al t))) (some (.d (db acc))) (some (.d (.int at_))) m,σ0⟩
 have hw:∃m',b7 (ef (fx N) (ae 95).scope (stE (nth (ae 95).body 1))) (cc (evS (fx N) [] (ae 95).scope 19) (stB (nth (ae 95).body 1))) 100 (st 0 [] none)=some (.next,st t.length ((seg R t).flatMap Prod.snd) m'):=by
  refine (ti st (fun acc _ _ es=>acc++es) hR (fun at_ acc m=>?hT) (fun at_ acc=>acc.length≤50*at_) (fun pre suf es acc m e hn he hi=>?hB) 100 [] t [] none rfl (by exact Nat.lt_of_le_of_lt (by assumption) (by decide)) (by simp)).imp fun m' e=>e.trans (by rw [a5u];rfl)
  case hT=>exact ah (σ':=σ0) (.cons (i9 t σ0) (.cons (rfl:b8 σ0 .Lt (.d (.int at_)) (.d (.int t.length))=some (decide ((at_:Int)<t.length))) .nil)) [.v (.d (.int t.length)),.b (decide ((at_:Int)<t.length))] (by kernel_rfl)
  case hB=>
   have hl:pre.length+suf.length=t.length:=by rw [e,List.length_append]
   have hes:=hb _ _ he
   obtain⟨h1,h2⟩:=ft R hn
   refine⟨some (.d (.int (az R suf))),?_,?_⟩
   ·have ec:st (pre.length+az R suf) (acc++es) (some (.d (.int (az R suf))))=⟨ij (some (.d (fc R))) (some (.d (al t))) (some (.d (db (acc++es)))) (some (.d (.int ((pre.length:Int)+(az R suf:Int))))) (some (.d (.int (az R suf)))),σ0⟩:=by
     simp only [st,Int.natCast_add]
    rw [ec]
    have s2:=jt e (by exact Nat.le_trans (by assumption) (by decide)) 2 (by exact Nat.le_add_left _ _) σ0
    have sn:=jt e (by exact om0 ht) (az R suf) (by grind) σ0
    have i1:=fun b=>a9a R (suf.take 2) σ0 b
    have i2:=yd he σ0
    have i3:=aer (a:=acc) (b:=es) (by grind)
    have tl:=i9 t σ0
    have t2:=ut ((suf.take 2).map .int) σ0
    have t1:=ut ((suf.take 1).map .int) σ0
    have lt:∀b,decide ((pre.length:Int)+1<t.length)=b→b8 σ0 .Lt (.d (.int ((pre.length:Int)+1))) (.d (.int t.length))=some b:=fun b q=>congrArg some q
    rcases qp R hn with⟨q1,q2,q3⟩|⟨q1,q2,q3⟩|⟨q1,q3⟩<;>rw [q3]at sn i2 ⊢
    ·exact a9 (.cons s2 (.cons t2 (.cons (i1 _ q1) (.cons tl (.cons (lt true (decide_eq_true (by exact al4 hl q2))) (.cons sn (.cons t2 (.cons i2 (.cons i3 .nil))))))))) [.e (.d (.list ((suf.take 2).map .int))) σ0,.v (.d (.tuple ((suf.take 2).map .int))),.b true,.v (.d (.int t.length)),.b true,
      .e (.d (.list ((suf.take 2).map .int))) σ0,.v (.d (.tuple ((suf.take 2).map .int))),.v (.d (db es)),.v (.d (db (acc++es)))] (by kernel_rfl)
    ·exact a9 (.cons s2 (.cons t2 (.cons (i1 _ q1) (.cons tl (.cons (lt false (decide_eq_false (by exact anv hl q2))) (.cons sn (.cons t1 (.cons i2 (.cons i3 .nil))))))))) [.e (.d (.list ((suf.take 2).map .int))) σ0,.v (.d (.tuple ((suf.take 2).map .int))),.b true,.v (.d (.int t.length)),.b false,
      .e (.d (.list ((suf.take 1).map .int))) σ0,.v (.d (.tuple ((suf.take 1).map .int))),.v (.d (db es)),.v (.d (db (acc++es)))] (by kernel_rfl)
    ·exact a9 (.cons s2 (.cons t2 (.cons (i1 _ q1) (.cons sn (.cons t1 (.cons i2 (.cons i3 .nil))))))) [.e (.d (.list ((suf.take 2).map .int))) σ0,.v (.d (.tuple ((suf.take 2).map .int))),.b false,
      .e (.d (.list ((suf.take 1).map .int))) σ0,.v (.d (.tuple ((suf.take 1).map .int))),.v (.d (db es)),.v (.d (db (acc++es)))] (by kernel_rfl)
   ·rw [List.length_append]
    have:50*(pre.length+az R suf)=50*pre.length+50*az R suf:=Nat.mul_add ..
    grind
 obtain⟨m',hw⟩:=hw
 exact ab ww (ij (some (.d (fc R))) (some (.d (al t))) none none none) (by kernel_rfl) (.d (db ((seg R t).flatMap Prod.snd))) (st t.length ((seg R t).flatMap Prod.snd) m') (.cons hw .nil) [.l .next (st t.length ((seg R t).flatMap Prod.snd) m')] (by kernel_rfl) (by kernel_rfl)
noncomputable abbrev σ1(xs:List D)(v:Nat):Sto:=⟨[.list xs],v⟩
theorem jy (xs:List D) (v:Nat) (x:D) (h:xs.length+1≤1000000):dm (σ1 xs v) (.m 0) ("append":Str) [.d x]=some (.d .none,σ1 (xs++[x]) (v+1)):=yj rfl h
noncomputable def kf (s:Nat):Nat→List (Nat×List El)→List Pc
 |_,[]=>[]
 |at_,(m,es)::r=>⟨at_,at_+m,c7 es s⟩::kf s (at_+m) r
theorem a5a (s:Nat):∀(l:List (Nat×List El)) (p:(List Pc×Nat)×Nat),(l.foldl (fun p x=>((p.1.1++[⟨p.2,p.2+x.1,c7 x.2 s⟩],p.1.2+1),p.2+x.1)) p).1=(p.1.1++kf s p.2 l,p.1.2+l.length)
 |[],p=>by simp[kf]
 |x::l,p=>by
  rw[List.foldl_cons,a5a s l]
  simp[kf,Nat.add_assoc,Nat.add_comm 1]
theorem cr{α β:Type}(f:α→β)(l:List α)(x:α):(l++[x]).map f=l.map f++[f x]:=by simp
theorem a0m (N:Nat) (R:Rows) (t:List Int) (s:Nat) (hs:s≤3) (hR:qj R t) (ht:t.length≤50) (hb:∀k es,bg R k=some es→es.length≤50):
  (fx (N+2)).pure (.fn "_law_pieces") [fc R,al t,.int s]=some (.list ((kf s 0 (seg R t)).map pcD)):=by
 let F:=ae 99 ["found"]
 let st:Nat→List Pc×Nat→Option V→St:=fun at_ acc m=>⟨qe (some (.d (fc R))) (some (.d (al t))) (some (.d (.int s))) (some (.m 0)) (some (.d (.int at_))) m,σ1 (acc.1.map pcD) acc.2⟩
 have hw:∃m',b7 (ef (fx (N+1)) F.scope (stE (nth F.body 1))) (cc (evS (fx (N+1)) F.muts F.scope 19) (stB (nth F.body 1))) 100 (st 0 ([],1) none)=some (.next,st t.length (kf s 0 (seg R t),1+(seg R t).length) m'):=by
  refine (ti st (fun acc at_ m es=>(acc.1++[⟨at_,at_+m,c7 es s⟩],acc.2+1)) hR (fun at_ acc m=>?hT) (fun at_ acc=>acc.1.length≤at_) (fun pre suf es acc m e hn he hi=>?hB) 100 [] t ([],1) none rfl (by exact Nat.lt_of_le_of_lt (by assumption) (by decide)) (by simp)).imp fun m' e=>e.trans (by rw [a5a];rfl)
  case hT=>exact ah (σ':=σ1 (acc.1.map pcD) acc.2) (.cons (i9 t (σ1 (acc.1.map pcD) acc.2)) (.cons (rfl:b8 (σ1 (acc.1.map pcD) acc.2) .Lt (.d (.int at_)) (.d (.int t.length))=some (decide ((at_:Int)<t.length))) .nil)) [.v (.d (.int t.length)),.b (decide ((at_:Int)<t.length))] (by kernel_rfl)
  case hB=>
   have hl:pre.length+suf.length=t.length:=by rw [e,List.length_append]
   have hes:=hb _ _ he
   obtain ⟨h1,h2⟩:=ft R hn
   refine ⟨some (.d (.int (az R suf))),?_,by rw [List.length_append];exact Nat.add_le_add hi h1⟩
   let σ:=σ1 (acc.1.map pcD) acc.2
   have s2:=jt e (by exact Nat.le_trans (by assumption) (by decide)) 2 (by exact Nat.le_add_left _ _) σ
   have sn:=jt e (by exact om0 ht) (az R suf) (by grind) σ
   have i1:=fun b=>a9a R (suf.take 2) σ b
   have i2:=yd he σ
   have i3:=wf N es s (by exact om0 hes) hs
   have i4:=jy (acc.1.map pcD) acc.2 (pcD ⟨pre.length,pre.length+az R suf,c7 es s⟩) (by rw [List.length_map];grind)
   have tl:=i9 t σ
   have t2:=ut ((suf.take 2).map .int) σ
   have t1:=ut ((suf.take 1).map .int) σ
   have lt:∀b,decide ((pre.length:Int)+1<t.length)=b→b8 σ .Lt (.d (.int ((pre.length:Int)+1))) (.d (.int t.length))=some b:=fun b q=>congrArg some q
   have ec:st (pre.length+az R suf) (acc.1++[⟨pre.length,pre.length+az R suf,c7 es s⟩],acc.2+1) (some (.d (.int (az R suf))))=⟨(st (pre.length+az R suf) acc (some (.d (.int (az R suf))))).ρ,σ1 (acc.1.map pcD++[pcD ⟨pre.length,pre.length+az R suf,c7 es s⟩]) (acc.2+1)⟩:=by
    simp only [st,cr]
   rw [ec]
   rcases qp R hn with ⟨q1,q2,q3⟩|⟨q1,q2,q3⟩|⟨q1,q3⟩<;>rw [q3]at sn i2 i4 ⊢
   ·exact a9 (.cons s2 (.cons t2 (.cons (i1 _ q1) (.cons tl (.cons (lt true (decide_eq_true (by exact al4 hl q2))) (.cons sn (.cons t2 (.cons i2 (.cons i3 (.cons i4 .nil)))))))))) [.e (.d (.list ((suf.take 2).map .int))) σ,.v (.d (.tuple ((suf.take 2).map .int))),.b true,.v (.d (.int t.length)),.b true,
     .e (.d (.list ((suf.take 2).map .int))) σ,.v (.d (.tuple ((suf.take 2).map .int))),.v (.d (db es)),.v (.d (cq (c7 es s))),.e (.d .none) (σ1 (acc.1.map pcD++[pcD ⟨pre.length,pre.length+2,c7 es s⟩]) (acc.2+1))] (by kernel_rfl)
   ·exact a9 (.cons s2 (.cons t2 (.cons (i1 _ q1) (.cons tl (.cons (lt false (decide_eq_false (by exact anv hl q2))) (.cons sn (.cons t1 (.cons i2 (.cons i3 (.cons i4 .nil)))))))))) [.e (.d (.list ((suf.take 2).map .int))) σ,.v (.d (.tuple ((suf.take 2).map .int))),.b true,.v (.d (.int t.length)),.b false,
     .e (.d (.list ((suf.take 1).map .int))) σ,.v (.d (.tuple ((suf.take 1).map .int))),.v (.d (db es)),.v (.d (cq (c7 es s))),.e (.d .none) (σ1 (acc.1.map pcD++[pcD ⟨pre.length,pre.length+1,c7 es s⟩]) (acc.2+1))] (by kernel_rfl)
   ·exact a9 (.cons s2 (.cons t2 (.cons (i1 _ q1) (.cons sn (.cons t1 (.cons i2 (.cons i3 (.cons i4 .nil)))))))) [.e (.d (.list ((suf.take 2).map .int))) σ,.v (.d (.tuple ((suf.take 2).map .int))),.b false,
     .e (.d (.list ((suf.take 1).map .int))) σ,.v (.d (.tuple ((suf.take 1).map .int))),.v (.d (db es)),.v (.d (cq (c7 es s))),.e (.d .none) (σ1 (acc.1.map pcD++[pcD ⟨pre.length,pre.length+1,c7 es s⟩]) (acc.2+1))] (by kernel_rfl)
 obtain ⟨m',hw⟩:=hw
 exact ab a0s (qe (some (.d (fc R))) (some (.d (al t))) (some (.d (.int s))) none none none) (by kernel_rfl) (.m 0) (st t.length (kf s 0 (seg R t),1+(seg R t).length) m') (.cons hw .nil) [.l .next (st t.length (kf s 0 (seg R t),1+(seg R t).length) m')] (by kernel_rfl) (by kernel_rfl)
theorem a02{f:Stmt→St→Option (Fl×St)}{b:List Stmt}{s s1 s2:St}{fl:Fl}(hb:b=[nth b 0,nth b 1]) (h1:f (nth b 0) s=some (.next,s1)) (h2:f (nth b 1) s1=some (fl,s2)):cc f b s=some (fl,s2):=by
 rw[hb,lb,h1]
 show cc f [nth b 1] s1=_
 rw[lb,h2]
 cases fl<;>rfl
theorem ji{α J:Type}{turn:D→St→Option (Fl×St)}(n:Nat) (emb:Nat→D) (st:α→J→St) (f:α→Nat→α) (Inv:Nat→α→Prop)
  (h:∀i a j,i<n→Inv i a→(∃j',turn (emb i) (st a j)=some (.next,st (f a i) j'))∧Inv (i+1) (f a i)) (a:α) (j:J) (h0:Inv 0 a):∃j',iu turn ((List.range n).map emb) (st a j)=some (.next,st ((List.range n).foldl f a) j'):=by
 have key:∀m k a j,k+m=n→Inv k a→∃j',iu turn ((List.range' k m).map emb) (st a j)=some (.next,st ((List.range' k m).foldl f a) j'):=by
  intro m
  induction m with
  |zero=>intro k a j _ _;exact⟨j,rfl⟩
  |succ m ih=>
   intro k a j hk hi
   refine bk (h k a j (by exact om1 hk) hi) ?_;intro pq0 hi';obtain⟨j',e⟩:=pq0
   rw[List.range'_succ,List.map_cons,gr,e]
   exact ih (k+1) (f a k) j' (by grind) hi'
 rw[List.range_eq_range']
 exact key n 0 a j (by grind) h0
theorem ay{β:Type}(emb:β→D) (l:List β) (i:Nat) (x:β) (h:l[i]?=some x) (σ:Sto):bx σ (.d (.list (l.map emb))) (.d (.int i))=some (.d (emb x)):=by
 have hi:=(List.getElem?_eq_some_iff.mp h).1
 exact vf (a3u (by rw[List.length_map];exact hi)) (by rw[List.getElem?_map,h];rfl)
theorem aq{β:Type}(emb:β→D) (l:List β) (σ:Sto):builtin ("len":Str) σ [.d (.list (l.map emb))]=some (.int l.length):=by
 rw[a3f];exact congrArg (fun n:Nat=>some (D.int n)) (List.length_map ..)
theorem y8:∀A B:Lv,D.beqs (A.map lvD) (B.map lvD)=decide (A=B)
 |[],[]=>rfl
 |[],_::_=>rfl
 |_::_,[]=>rfl
 |x::a,y::b=>by
  show(D.beqs (x.map .int) (y.map .int)&&D.beqs (a.map lvD) (b.map lvD))=_
  rw[y8 a b,mr]
  by_cases h:x=y
  ·subst h;by_cases h2:a=b<;>simp[h2]
  ·simp[h]
theorem agr (A B:Lv) (σ:Sto):b8 σ .Eq (.d (cq A)) (.d (cq B))=some (decide (A=B)):=
 (aas (jk A) (jk B)).trans (congrArg some (y8 A B))
theorem uw (a b:Nat) (h:a≤1000000) (h':b≤1000000) (σ:Sto):a37 [.d (.int a),.d (.int b)] σ=some (((List.range (b-a)).map fun i=>D.int ((a+i:Nat):Int),false),σ):=by
 show(if(small (a:Int)&&small (b:Int)&&decide ((b:Int)-a≤1000000))=true then some ((ee (a:Int) (b:Int),false),σ)else none)=_
 rw[k9 (by exact agb) (by exact om3 h),k9 (by exact agb) (by exact om3 h'),decide_eq_true (by grind)]
 show some ((ee (a:Int) (b:Int),false),σ)=_
 unfold ee
 rw[show((b:Int)-a).toNat=b-a by exact ak9]
 rfl
noncomputable def da (P:List Pc)(w:Lv)(low:Nat)(a:Lv×List (Nat×Nat))(i:Nat):Lv×List (Nat×Nat):=
 let p:=(P[low+i]?).getD ⟨0,0,[]⟩
 let t:=if 0<i then bf a.1 p.lv else a.1
 (t,if t=w∧cw ((P[low]?).getD ⟨0,0,[]⟩).lv=false∧cw p.lv=false then a.2++[(low,low+i+1)]else a.2)
noncomputable def l8 (P:List Pc) (w:Lv) (acc:List (Nat×Nat)) (low:Nat):List (Nat×Nat):=((List.range (P.length-low)).foldl (da P w low) (((P[low]?).getD ⟨0,0,[]⟩).lv,acc)).2
noncomputable def r6 (P:List Pc) (w:Lv):List (Nat×Nat):=(List.range P.length).foldl (l8 P w) []
noncomputable def prD(p:Nat×Nat):D:=.tuple [.int p.1,.int p.2]
noncomputable def j3(P:List Pc):Prop:=P.length≤50∧∀p∈P,p.lv.length≤50∧∀l∈p.lv,l.length≤10
theorem a5n{A B:Lv}{l:List Int}(h:l∈bf A B):∃a∈A,∃b∈B,l=a++b:=by
 refine ar (List.mem_map.mp h) ?_;intro p hp rf2;subst rf2
 exact⟨p.1,(List.of_mem_zip hp).1,p.2,(List.of_mem_zip hp).2,rfl⟩
theorem ad2(A B:Lv):(bf A B).length≤A.length:=by
 unfold bf
 rw[List.length_map,List.length_zip];exact aio
theorem vw (P:List Pc)(w:Lv)(low:Nat)(a:Lv×List (Nat×Nat))(i:Nat):(da P w low a i).2.length≤a.2.length+1:=by
 unfold da
 dsimp only
 generalize (if 0<i then bf a.1 ((P[low+i]?).getD ⟨0,0,[]⟩).lv else a.1)=t
 split
 ·rw[List.length_append];exact Nat.le_refl _
 ·exact Nat.le_succ _
theorem am{Φ:Fx}{muts:List Str}{sc:Scope}{n:Nat}{target:Expr}{b:List Stmt}{x:D}{s:St}{ρ:Rho}{r:Fl×St}(h0:aj 4 target x s.ρ=some ρ) (h:cc (evS Φ muts sc n) b ⟨ρ,s.σ⟩=some r):c9 Φ muts sc n target b x s=some r:=by
 unfold c9;rw[h0];exact h
theorem uq (N:Nat) (P:List Pc) (w:Lv) (hP:j3 P):(fx (N+2)).pure (.fn "_law_stretches") [.list (P.map pcD),cq w]=some (.list ((r6 P w).map prD)):=by
 let F:=ae 100 ["found"]
 let LB:=stB (nth F.body 1)
 let IB:=stB (nth LB 1)
 let ρ:Option V→Option V→Option V→Rho:=fun l t h=>ll (some (.d (.list (P.map pcD)))) (some (.d (cq w))) (some (.m 0)) l t h
 let st:List (Nat×Nat)→(Option V×Option V×Option V)×Nat→St:=fun a j=>⟨ρ j.1.1 j.1.2.1 j.1.2.2,σ1 (a.map prD) j.2⟩
 have inner:∀low,low<P.length→∀acc:List (Nat×Nat),acc.length≤50*low→∀v h,∃v' h' t',iu (c9 (fx (N+1)) F.muts F.scope 18 (stT (nth LB 1)) IB) ((List.range (P.length-low)).map fun i=>D.int ((low+i:Nat):Int)) ⟨ρ (some (.d (.int low))) (some (.d (cq ((P[low]?).getD ⟨0,0,[]⟩).lv))) h,σ1 (acc.map prD) v⟩=
   some (.next,⟨ρ (some (.d (.int low))) t' h',σ1 ((l8 P w acc low).map prD) v'⟩)∧(l8 P w acc low).length≤50*low+50:=by
  intro low hlow acc hacc v h
  obtain⟨p0,hp0⟩:∃p,P[low]?=some p:=⟨_,List.getElem?_eq_getElem hlow⟩
  let st2:Lv×List (Nat×Nat)→Option V×Nat→St:=fun a j=>⟨ρ (some (.d (.int low))) (some (.d (cq a.1))) j.1,σ1 (a.2.map prD) j.2⟩
  have hlen:∀i,((List.range i).foldl (da P w low) (((P[low]?).getD ⟨0,0,[]⟩).lv,acc)).2.length≤acc.length+i:=by
   intro i
   induction i with
   |zero=>exact Nat.le_refl _
   |succ i ih=>
    rw[List.range_succ,List.foldl_append]
    exact Nat.le_trans (vw P w low _ i) (Nat.add_le_add_right ih 1)
  have loop:=ji (turn:=c9 (fx (N+1)) F.muts F.scope 18 (stT (nth LB 1)) IB) (P.length-low) (fun i=>D.int ((low+i:Nat):Int)) st2 (da P w low) (fun i a=>a.1.length≤50∧(∀l∈a.1,l.length≤10*(i+1))∧a.2.length≤50*low+i) (fun i a j hi inv=>?_) (((P[low]?).getD ⟨0,0,[]⟩).lv,acc) (h,v) ?_
  ·refine ex1 loop ?_;clear loop;intro j' e
   exact⟨j'.2,j'.1,_,e,Nat.le_trans (hlen _) (by have:=hP.1;exact ajk hacc this)⟩
  ·obtain⟨t,ac⟩:=a
   obtain⟨hh,v⟩:=j
   refine f5 inv ?_;clear inv;intro n1 n2 n3
   dsimp only at n1 n2 n3
   have hi2:low+i<P.length:=by exact ajm hi
   obtain⟨p,hp⟩:∃p,P[low+i]?=some p:=⟨_,List.getElem?_eq_getElem hi2⟩
   refine bk (hP.2 p (List.mem_of_getElem? hp)) ?_;intro m1 m2
   have hl1:=hP.1
   let t':=if 0<i then bf t p.lv else t
   have ht':t'.length≤50∧∀l∈t',l.length≤10*(i+1+1):=by
    show(if 0<i then bf t p.lv else t).length≤50∧∀l∈(if 0<i then bf t p.lv else t),l.length≤_
    split
    ·refine⟨Nat.le_trans (ad2 _ _) n1,fun l hl=>?_⟩
     obtain⟨x,hx,y,hy,rfl⟩:=a5n hl
     have:=n2 x hx
     have:=m2 y hy
     rw[List.length_append];grind
    ·exact⟨n1,fun l hl=>Nat.le_trans (n2 l hl) (by grind)⟩
   have es:da P w low (t,ac) i=(t',if t'=w∧cw p0.lv=false∧cw p.lv=false then ac++[(low,low+i+1)]else ac):=by
    simp only[da,hp,hp0,Option.getD_some];rfl
   rw[es]
   let σ:=σ1 (ac.map prD) v
   have it0:=ay pcD P low p0 hp0 σ
   have it1:=ay pcD P (low+i) p hp σ
   have s1:evS (fx (N+1)) F.muts F.scope 18 (nth IB 0) ⟨ρ (some (.d (.int low))) (some (.d (cq t))) (some (.d (.int ((low+i:Nat):Int)))),σ⟩=some (.next,⟨ρ (some (.d (.int low))) (some (.d (cq t'))) (some (.d (.int ((low+i:Nat):Int)))),σ⟩):=by
    have gt:∀b,decide ((low:Int)<((low+i:Nat):Int))=b→b8 σ .Gt (.d (.int ((low+i:Nat):Int))) (.d (.int low))=some b:=fun b q=>congrArg some q
    by_cases h0:0<i
    ·have ej:t'=bf t p.lv:=if_pos h0
     rw[ej]
     exact a8 (.cons (gt true (decide_eq_true (by exact akj h0))) (.cons it1 (.cons (a0q N t p.lv (fun l hl=>by have:=n2 l hl;exact an0 hi2 hl1 this) (fun l hl=>by have:=m2 l hl;exact amq this) (by exact om0 n1)) .nil))) [.b true,.v (.d (pcD p)),.v (.d (cq (bf t p.lv)))] (by kernel_rfl)
    ·have ej:t'=t:=if_neg h0
     rw[ej]
     exact a8 (.cons (gt false (decide_eq_false (by exact ao1 h0))) .nil) [.b false] (by kernel_rfl)
   have id0:=kc N (.int p0.a) (.int p0.b) p0.lv (by have:=(hP.2 p0 (List.mem_of_getElem? hp0)).1;exact om0 this)
   have id1:=kc N (.int p.a) (.int p.b) p.lv (by exact om0 m1)
   have eq0:=agr t' w σ
   have ap:=jy (ac.map prD) v (prD (low,low+i+1)) (by rw[List.length_map];exact aj4 n3 hi2 hl1)
   have h0:aj 4 (stT (nth LB 1)) (.int ((low+i:Nat):Int)) (st2 (t,ac) (hh,v)).ρ=some (ρ (some (.d (.int low))) (some (.d (cq t))) (some (.d (.int ((low+i:Nat):Int))))):=by kernel_rfl
   have hb:IB=[nth IB 0,nth IB 1]:=by kernel_rfl
   refine⟨?_,?_⟩
   ·by_cases c0:t'=w
    ·rw[decide_eq_true c0]at eq0
     cases c1:cw p0.lv with
     |true=>
      rw[c1]at id0
      have ec:(if t'=w∧true=false∧cw p.lv=false then ac++[(low,low+i+1)]else ac)=ac:=if_neg fun z=>nomatch z.2.1
      rw[ec]
      exact⟨(some (.d (.int ((low+i:Nat):Int))),v),am h0 (a02 hb s1 (a8 (.cons eq0 (.cons it0 (.cons id0 .nil))) [.b true,.v (.d (pcD p0)),.v (.d (.bool true))] (by kernel_rfl)))⟩
     |false=>
      rw[c1]at id0
      cases c2:cw p.lv with
      |true=>
       rw[c2]at id1
       have ec:(if t'=w∧false=false∧true=false then ac++[(low,low+i+1)]else ac)=ac:=if_neg fun z=>nomatch z.2.2
       rw[ec]
       exact⟨(some (.d (.int ((low+i:Nat):Int))),v),am h0 (a02 hb s1 (a8 (.cons eq0 (.cons it0 (.cons id0 (.cons it1 (.cons id1 .nil))))) [.b true,.v (.d (pcD p0)),.v (.d (.bool false)),.v (.d (pcD p)),.v (.d (.bool true))] (by kernel_rfl)))⟩
      |false=>
       rw[c2]at id1
       have ec:(if t'=w∧false=false∧false=false then ac++[(low,low+i+1)]else ac)=ac++[(low,low+i+1)]:=if_pos ⟨c0,rfl,rfl⟩
       rw[ec]
       have em:st2 (t',ac++[(low,low+i+1)]) (some (.d (.int ((low+i:Nat):Int))),v+1)=⟨ρ (some (.d (.int low))) (some (.d (cq t'))) (some (.d (.int ((low+i:Nat):Int)))),σ1 (ac.map prD++[prD (low,low+i+1)]) (v+1)⟩:=by simp only[st2,cr]
       refine⟨(some (.d (.int ((low+i:Nat):Int))),v+1),?_⟩
       rw[em]
       exact am h0 (a02 hb s1 (a8 (.cons eq0 (.cons it0 (.cons id0 (.cons it1 (.cons id1 (.cons ap .nil)))))) [.b true,.v (.d (pcD p0)),.v (.d (.bool false)),.v (.d (pcD p)),.v (.d (.bool false)),.e (.d .none) (σ1 (ac.map prD++[prD (low,low+i+1)]) (v+1))] (by kernel_rfl)))
    ·rw[decide_eq_false c0]at eq0
     have ec:(if t'=w∧cw p0.lv=false∧cw p.lv=false then ac++[(low,low+i+1)]else ac)=ac:=if_neg fun z=>c0 z.1
     rw[ec]
     exact⟨(some (.d (.int ((low+i:Nat):Int))),v),am h0 (a02 hb s1 (a8 (.cons eq0 .nil) [.b false] (by kernel_rfl)))⟩
   ·refine⟨ht'.1,ht'.2,?_⟩
    show(if t'=w∧cw p0.lv=false∧cw p.lv=false then ac++[(low,low+i+1)]else ac).length≤_
    split
    ·rw[List.length_append];exact Nat.add_le_add_right n3 1
    ·exact alv n3
  ·rw[hp0]
   have:=hP.2 p0 (List.mem_of_getElem? hp0)
   exact⟨this.1,fun l hl=>by have:=this.2 l hl;exact alz this,hacc⟩
 have outer:=ji (turn:=c9 (fx (N+1)) F.muts F.scope 19 (stT (nth F.body 1)) LB) P.length (fun i=>D.int (i:Nat)) st (l8 P w) (fun i a=>a.length≤50*i) (fun i a j hi inv=>?_) [] ((none,none,none),1) (Nat.le_refl _)
 ·refine ex1 outer ?_;clear outer;intro j' e
  exact ab vp (ll (some (.d (.list (P.map pcD)))) (some (.d (cq w))) none none none none) (by kernel_rfl) (.m 0) (st (r6 P w) j') (.cons (aq pcD P (σ1 [] 1)) (.cons (jv (s:=P.length) (by have:=hP.1;exact amt this) (σ1 [] 1)) (.cons e .nil)))
   [.v (.d (.int P.length)),.c ((List.range P.length).map fun i=>D.int (i:Nat)),.l .next (st (r6 P w) j')] (by kernel_rfl) (by kernel_rfl)
 ·obtain⟨⟨l,t,h⟩,v⟩:=j
  refine ro (inner i hi a inv v h) ?_;intro v' h' t' e le
  obtain⟨p,hp⟩:∃p,P[i]?=some p:=⟨_,List.getElem?_eq_getElem hi⟩
  have hl1:=hP.1
  let σ:=σ1 (a.map prD) v
  rw[hp]at e
  refine⟨⟨((some (.d (.int i)),t',h'),v'),am (b:=LB) (ρ:=ρ (some (.d (.int i))) t h) (by kernel_rfl) (a02 (by kernel_rfl)
   (a8 (s':=⟨ρ (some (.d (.int i))) (some (.d (cq p.lv))) h,σ⟩) (.cons (ay pcD P i p hp σ) .nil) [.v (.d (pcD p))] (by kernel_rfl))
   (a8 (.cons (aq pcD P σ) (.cons (uw i P.length (by exact ao7 hi hl1) (by exact amt hl1) σ) (.cons e .nil))) [.v (.d (.int P.length)),.c ((List.range (P.length-i)).map fun k=>D.int ((i+k:Nat):Int)),.l .next ⟨ρ (some (.d (.int i))) t' h',σ1 ((l8 P w a i).map prD) v'⟩] (by kernel_rfl)))⟩,le⟩
theorem cz{β:Type}(emb:β→D) (l:List β) (i:Nat) (x:β) (h:l[i]?=some x) (σ:Sto) (z:Int) (hz:z=i):bx σ (.d (.list (l.map emb))) (.d (.int z))=some (.d (emb x)):=hz▸ay emb l i x h σ
noncomputable def ax (P:List Pc)(i:Nat):Bool:=cw ((P[i]?).getD ⟨0,0,[]⟩).lv
noncomputable def co(P:List Pc):Nat→Nat
 |0=>0
 |l+1=>if ax P l=true then co P l else l+1
noncomputable def upN (P:List Pc):Nat→Nat→Nat
 |0,h=>h
 |k+1,h=>if ax P h=true then upN P k (h+1)else h
theorem an{T:St→Option (Bool×St)}{B:St→Option (Fl×St)}{k:Nat}{s s1:St}(hk:0<k)(h:T s=some (false,s1)):b7 T B k s=some (.next,s1):=by
 obtain⟨k,rfl⟩:∃k',k=k'+1:=⟨k-1,by exact ahq hk⟩
 rw[ie,h];rfl
theorem fq{T:St→Option (Bool×St)}{B:St→Option (Fl×St)}{k:Nat}{s s1 s2:St}{R:Option (Fl×St)}(h:T s=some (true,s1)) (hb:B s1=some (.next,s2)) (r:b7 T B k s2=R):b7 T B (k+1) s=R:=by
 rw[ie,h]
 show(B s1).bind _=_
 rw[hb];exact r
theorem dh{f:Stmt→St→Option (Fl×St)}{b:List Stmt}{s s1:St}{fl:Fl}(hb:b=[nth b 0]) (h1:f (nth b 0) s=some (fl,s1)):cc f b s=some (fl,s1):=by
 rw[hb,lb,h1]
 cases fl<;>rfl
theorem pj (N:Nat){P:List Pc}(hP:j3 P){i:Nat}(hi:i<P.length):∃p,P[i]?=some p∧(fx (N+1)).pure (.fn "_law_is_idle") [pcD p]=some (.bool (ax P i)):=by
 obtain⟨p,hp⟩:∃p,P[i]?=some p:=⟨_,List.getElem?_eq_getElem hi⟩
 refine⟨p,hp,?_⟩
 unfold ax
 rw[hp]
 exact kc N (.int p.a) (.int p.b) p.lv (by have:=(hP.2 p (List.mem_of_getElem? hp)).1;exact om0 this)
theorem a5v (N:Nat) (P:List Pc) (low high:Nat) (hP:j3 P) (hl:low≤P.length) (hh:high≤P.length):(fx (N+2)).pure (.fn "_law_wide") [.list (P.map pcD),.int low,.int high]=some (prD (co P low,upN P (P.length-high) high)):=by
 let F:=ae 101
 let st:Nat→Nat→St:=fun l h=>⟨wc (some (.d (.list (P.map pcD)))) (some (.d (.int l))) (some (.d (.int h))),σ0⟩
 have hlen:=hP.1
 have w1:∀l k,l<k→l≤P.length→b7 (ef (fx (N+1)) F.scope (stE (nth F.body 0))) (cc (evS (fx (N+1)) F.muts F.scope 19) (stB (nth F.body 0))) k (st l high)=some (.next,st (co P l) high):=by
  intro l
  induction l with
  |zero=>
   intro k hk _
   exact an hk (ah (σ':=σ0) (.cons (rfl:b8 σ0 .Gt (.d (.int (0:Nat))) (.d (.int 0))=some false) .nil) [.b false] (by kernel_rfl))
  |succ l ih=>
   intro k hk hl
   obtain⟨k,rfl⟩:∃k',k=k'+1:=⟨k-1,by exact om2 hk⟩
   refine ar (pj N hP (show l<P.length by assumption)) ?_;intro p hp hi
   have gt:b8 σ0 .Gt (.d (.int ((l+1:Nat):Int))) (.d (.int 0))=some true:=congrArg some (decide_eq_true (by exact ahb))
   have it:=cz pcD P l p hp σ0 (((l+1:Nat):Int)-1) (by exact om6)
   have ed:co P (l+1)=if ax P l=true then co P l else l+1:=rfl
   rw[ed]
   cases q:ax P l with
   |false=>
    rw[q]at hi
    exact an (by exact Nat.succ_pos _) (ah (σ':=σ0) (.cons gt (.cons it (.cons hi .nil))) [.b true,.v (.d (pcD p)),.v (.d (.bool false))] (by kernel_rfl))
   |true=>
    rw[q]at hi
    have hb:cc (evS (fx (N+1)) F.muts F.scope 19) (stB (nth F.body 0)) (st (l+1) high)=some (.next,⟨wc (some (.d (.list (P.map pcD)))) (some (.d (.int (((l+1:Nat):Int)-1)))) (some (.d (.int high))),σ0⟩):=a9 .nil [] (by kernel_rfl)
    rw[show((l+1:Nat):Int)-1=(l:Nat)by exact om6]at hb
    exact fq (s1:=st (l+1) high) (ah (σ':=σ0) (.cons gt (.cons it (.cons hi .nil))) [.b true,.v (.d (pcD p)),.v (.d (.bool true))] (by kernel_rfl)) hb (ih k (by exact Nat.lt_of_succ_lt_succ (by assumption)) (by exact Nat.le_of_lt (by assumption)))
 have w2:∀m l h k,m<k→h+m=P.length→b7 (ef (fx (N+1)) F.scope (stE (nth F.body 1))) (cc (evS (fx (N+1)) F.muts F.scope 19) (stB (nth F.body 1))) k (st l h)=some (.next,st l (upN P m h)):=by
  intro m
  induction m with
  |zero=>
   intro l h k hk e
   have lt:b8 σ0 .Lt (.d (.int h)) (.d (.int P.length))=some false:=congrArg some (decide_eq_false (by exact age e))
   exact an (by assumption) (ah (σ':=σ0) (.cons (aq pcD P σ0) (.cons lt .nil)) [.v (.d (.int P.length)),.b false] (by kernel_rfl))
  |succ m ih=>
   intro l h k hk e
   obtain⟨k,rfl⟩:∃k',k=k'+1:=⟨k-1,by exact om2 hk⟩
   refine ar (pj N hP (show h<P.length by exact om1 e)) ?_;intro p hp hi
   have lt:b8 σ0 .Lt (.d (.int h)) (.d (.int P.length))=some true:=congrArg some (decide_eq_true (by exact ahe e))
   have it:=ay pcD P h p hp σ0
   have eu:upN P (m+1) h=if ax P h=true then upN P m (h+1)else h:=rfl
   rw[eu]
   cases q:ax P h with
   |false=>
    rw[q]at hi
    exact an (by exact Nat.succ_pos _) (ah (σ':=σ0) (.cons (aq pcD P σ0) (.cons lt (.cons it (.cons hi .nil)))) [.v (.d (.int P.length)),.b true,.v (.d (pcD p)),.v (.d (.bool false))] (by kernel_rfl))
   |true=>
    rw[q]at hi
    have hb:cc (evS (fx (N+1)) F.muts F.scope 19) (stB (nth F.body 1)) (st l h)=some (.next,st l (h+1)):=a9 .nil [] (by kernel_rfl)
    exact fq (s1:=st l h) (ah (σ':=σ0) (.cons (aq pcD P σ0) (.cons lt (.cons it (.cons hi .nil)))) [.v (.d (.int P.length)),.b true,.v (.d (pcD p)),.v (.d (.bool true))] (by kernel_rfl)) hb (ih l (h+1) k (by exact Nat.lt_of_succ_lt_succ (by assumption)) (by exact om8 e))
 exact ab a53 (st low high).ρ (by kernel_rfl) (.d (prD (co P low,upN P (P.length-high) high))) (st (co P low) (upN P (P.length-high) high)) (.cons (w1 low 100 (by exact ako hl hlen) hl) (.cons (w2 (P.length-high) (co P low) high 100 (by exact om9 hlen) (by exact ahm hh)) .nil))
  [.l .next (st (co P low) high),.l .next (st (co P low) (upN P (P.length-high) high))] (by kernel_rfl) (by kernel_rfl)
theorem a51 (c:Int):∀l:List Int,memD (.int c) (l.map .int)=l.contains c
 |[]=>rfl
 |x::l=>by
  show((x==c)||memD (.int c) (l.map .int))=_
  rw[a51 c l,List.contains_cons,Bool.beq_comm]
theorem a6m (c:Int) (l:List Int) (σ:Sto):b8 σ .NotIn (.d (.int c)) (.d (.list (l.map .int)))=some (!l.contains c):=
 (ag2 (ab1 c) (jb 5 l)).trans (congrArg (fun b=>some (!b)) (a51 c l))
noncomputable def dc (t ms:List Int)(i:Nat):Bool:=decide (i=0)||(decide (i=t.length)||!ms.contains ((t[i]?).getD 0))
noncomputable def dw (ms:List Int):D:=.list (ms.map .int)
theorem gw (σ:Sto) (a b:Nat):b8 σ .Eq (.d (.int a)) (.d (.int b))=some (decide (a=b)):=by
 refine(am4 _ _).trans (congrArg some ?_)
 by_cases h:a=b
 ·subst h;simp
 ·rw[decide_eq_false h,beq_eq_false_iff_ne];grind
theorem qf (N:Nat) (t ms:List Int) (i:Nat) (hi:i≤t.length):(fx (N+1)).pure (.fn "_law_is_end") [al t,.int i,dw ms]=some (.bool (dc t ms i)):=by
 let ρ:=a0f (some (.d (al t))) (some (.d (.int i))) (some (.d (dw ms)))
 have e0:=gw σ0 i 0
 have e1:=gw σ0 i t.length
 have tl:=i9 t σ0
 unfold dc
 by_cases h0:i=0
 ·rw[decide_eq_true h0]at e0 ⊢
  exact ab i5 ρ (by kernel_rfl) (.d (.bool true)) ⟨ρ,σ0⟩ (.cons e0 .nil) [.b true] (by kernel_rfl) (by kernel_rfl)
 ·rw[decide_eq_false h0]at e0 ⊢
  by_cases h1:i=t.length
  ·rw[decide_eq_true h1]at e1 ⊢
   exact ab i5 ρ (by kernel_rfl) (.d (.bool true)) ⟨ρ,σ0⟩ (.cons e0 (.cons tl (.cons e1 .nil))) [.b false,.v (.d (.int t.length)),.b true] (by kernel_rfl) (by kernel_rfl)
  ·rw[decide_eq_false h1]at e1 ⊢
   obtain⟨c,hc⟩:∃c,t[i]?=some c:=⟨_,List.getElem?_eq_getElem (by exact ait hi h1)⟩
   have ni:=a6m c ms σ0
   rw[hc]
   show _=some (D.bool (!ms.contains c))
   cases q:ms.contains c with
   |false=>
    rw[q]at ni
    exact ab i5 ρ (by kernel_rfl) (.d (.bool true)) ⟨ρ,σ0⟩ (.cons e0 (.cons tl (.cons e1 (.cons (ay .int t i c hc σ0) (.cons ni .nil))))) [.b false,.v (.d (.int t.length)),.b false,.v (.d (.int c)),.b true] (by kernel_rfl) (by kernel_rfl)
   |true=>
    rw[q]at ni
    exact ab i5 ρ (by kernel_rfl) (.d (.bool false)) ⟨ρ,σ0⟩ (.cons e0 (.cons tl (.cons e1 (.cons (ay .int t i c hc σ0) (.cons ni .nil))))) [.b false,.v (.d (.int t.length)),.b false,.v (.d (.int c)),.b false] (by kernel_rfl) (by kernel_rfl)
noncomputable def bh(P:List Pc)(i:Nat):Nat:=((P[i]?).getD ⟨0,0,[]⟩).a
noncomputable def c8(P:List Pc)(i:Nat):Nat:=((P[i]?).getD ⟨0,0,[]⟩).b
noncomputable def upW (P:List Pc)(E:Nat→Bool):Nat→Nat→Nat
 |0,h=>h
 |k+1,h=>if(!E (bh P h)&&ax P h)=true then upW P E k (h+1)else h
noncomputable def ko (P:List Pc)(E:Nat→Bool):Nat→Nat
 |0=>0
 |l+1=>if(!E (bh P (l+1))&&ax P l)=true then ko P E l else l+1
noncomputable def on (P:List Pc) (E:Nat→Bool) (low high:Nat):Option (Nat×Nat):=
 let h:=upW P E (P.length-high) high
 let l:=ko P E low
 if(E (bh P l)&&E (c8 P (h-1)))=true then some (l,h)else none
theorem a6y (P:List Pc)(E:Nat→Bool):∀k h,h≤upW P E k h∧upW P E k h≤h+k
 |0,h=>⟨Nat.le_refl _,Nat.le_refl _⟩
 |k+1,h=>by
  have:=a6y P E k (h+1)
  unfold upW
  split<;>lia
theorem zr(P:List Pc)(E:Nat→Bool):∀l,ko P E l≤l
 |0=>Nat.le_refl _
 |l+1=>by
  have:=zr P E l
  unfold ko
  split<;>lia
noncomputable def a3b(P:List Pc)(t:List Int):Prop:=∀p∈P,p.a≤t.length∧p.b≤t.length
noncomputable def ue:Option (Nat×Nat)→D
 |some p=>prD p
 |none=>.none
theorem ui (N:Nat){P:List Pc}{t:List Int}(ms:List Int) (hw:a3b P t){i:Nat}(hi:i<P.length):∃p,P[i]?=some p∧(fx (N+1)).pure (.fn "_law_is_end") [al t,.int p.a,dw ms]=some (.bool (dc t ms (bh P i)))∧
  (fx (N+1)).pure (.fn "_law_is_end") [al t,.int p.b,dw ms]=some (.bool (dc t ms (c8 P i))):=by
 obtain⟨p,hp⟩:∃p,P[i]?=some p:=⟨_,List.getElem?_eq_getElem hi⟩
 refine⟨p,hp,?_⟩
 unfold bh c8
 rw[hp]
 have:=hw p (List.mem_of_getElem? hp)
 exact⟨qf N t ms p.a this.1,qf N t ms p.b this.2⟩
theorem a3q (N:Nat) (P:List Pc) (t ms:List Int) (low high:Nat) (hP:j3 P) (hw:a3b P t) (hl:low<P.length) (h1:1≤high) (hh:high≤P.length):
  (fx (N+2)).pure (.fn "_law_whole") [al t,.list (P.map pcD),.int low,.int high,dw ms]=some (ue (on P (dc t ms) low high)):=by
 let F:=ae 103
 let st:Nat→Nat→Option V→St:=fun l h r=>⟨sj (some (.d (al t))) (some (.d (.list (P.map pcD)))) (some (.d (.int l))) (some (.d (.int h))) (some (.d (dw ms))) r,σ0⟩
 have hlen:=hP.1
 let E:=dc t ms
 have w1:∀m h k,m<k→h+m=P.length→b7 (ef (fx (N+1)) F.scope (stE (nth F.body 0))) (cc (evS (fx (N+1)) F.muts F.scope 19) (stB (nth F.body 0))) k (st low h none)=some (.next,st low (upW P E m h) none):=by
  intro m
  induction m with
  |zero=>
   intro h k hk e
   have lt:b8 σ0 .Lt (.d (.int h)) (.d (.int P.length))=some false:=congrArg some (decide_eq_false (by exact age e))
   exact an (by assumption) (ah (σ':=σ0) (.cons (aq pcD P σ0) (.cons lt .nil)) [.v (.d (.int P.length)),.b false] (by kernel_rfl))
  |succ m ih=>
   intro h k hk e
   obtain⟨k,rfl⟩:∃k',k=k'+1:=⟨k-1,by exact om2 hk⟩
   refine dz (ui N ms hw (show h<P.length by exact om1 e)) ?_;intro p hp he _
   refine ar (pj N hP (show h<P.length by exact om1 e)) ?_;intro p' hp' hi
   obtain rfl:p=p':=Option.some.inj (hp.symm.trans hp')
   have lt:b8 σ0 .Lt (.d (.int h)) (.d (.int P.length))=some true:=congrArg some (decide_eq_true (by exact ahe e))
   have it:=ay pcD P h p hp σ0
   have eu:upW P E (m+1) h=if(!E (bh P h)&&ax P h)=true then upW P E m (h+1)else h:=rfl
   rw[eu]
   cases q1:E (bh P h)with
   |true=>
    rw[show dc t ms (bh P h)=true from q1]at he
    exact an (by exact Nat.succ_pos _) (ah (σ':=σ0) (.cons (aq pcD P σ0) (.cons lt (.cons it (.cons he .nil)))) [.v (.d (.int P.length)),.b true,.v (.d (pcD p)),.v (.d (.bool true))] (by kernel_rfl))
   |false=>
    rw[show dc t ms (bh P h)=false from q1]at he
    cases q:ax P h with
    |false=>
     rw[q]at hi
     exact an (by exact Nat.succ_pos _) (ah (σ':=σ0) (.cons (aq pcD P σ0) (.cons lt (.cons it (.cons he (.cons it (.cons hi .nil)))))) [.v (.d (.int P.length)),.b true,.v (.d (pcD p)),.v (.d (.bool false)),.v (.d (pcD p)),.v (.d (.bool false))] (by kernel_rfl))
    |true=>
     rw[q]at hi
     have hb:cc (evS (fx (N+1)) F.muts F.scope 19) (stB (nth F.body 0)) (st low h none)=some (.next,st low (h+1) none):=a9 .nil [] (by kernel_rfl)
     exact fq (s1:=st low h none) (ah (σ':=σ0) (.cons (aq pcD P σ0) (.cons lt (.cons it (.cons he (.cons it (.cons hi .nil)))))) [.v (.d (.int P.length)),.b true,.v (.d (pcD p)),.v (.d (.bool false)),.v (.d (pcD p)),.v (.d (.bool true))] (by kernel_rfl)) hb (ih (h+1) k (by exact Nat.lt_of_succ_lt_succ (by assumption)) (by exact om8 e))
 have w2:∀l h k,l<k→l<P.length→b7 (ef (fx (N+1)) F.scope (stE (nth F.body 1))) (cc (evS (fx (N+1)) F.muts F.scope 19) (stB (nth F.body 1))) k (st l h none)=some (.next,st (ko P E l) h none):=by
  intro l
  induction l with
  |zero=>exact fun h k hk _=>an hk (ah (σ':=σ0) (.cons (rfl:b8 σ0 .Gt (.d (.int (0:Nat))) (.d (.int 0))=some false) .nil) [.b false] (by kernel_rfl))
  |succ l ih=>
   intro h k hk hl
   obtain⟨k,rfl⟩:∃k',k=k'+1:=⟨k-1,by exact om2 hk⟩
   refine dz (ui N ms hw (show l+1<P.length by assumption)) ?_;intro p hp he _
   refine ar (pj N hP (show l<P.length by exact Nat.le_of_lt (by assumption))) ?_;intro p' hp' hi
   have gt:b8 σ0 .Gt (.d (.int ((l+1:Nat):Int))) (.d (.int 0))=some true:=congrArg some (decide_eq_true (by exact ahb))
   have it:=ay pcD P (l+1) p hp σ0
   have it':=cz pcD P l p' hp' σ0 (((l+1:Nat):Int)-1) (by grind)
   have ed:ko P E (l+1)=if(!E (bh P (l+1))&&ax P l)=true then ko P E l else l+1:=rfl
   rw[ed]
   cases q1:E (bh P (l+1))with
   |true=>
    rw[show dc t ms (bh P (l+1))=true from q1]at he
    exact an (by exact Nat.succ_pos _) (ah (σ':=σ0) (.cons gt (.cons it (.cons he .nil))) [.b true,.v (.d (pcD p)),.v (.d (.bool true))] (by kernel_rfl))
   |false=>
    rw[show dc t ms (bh P (l+1))=false from q1]at he
    cases q:ax P l with
    |false=>
     rw[q]at hi
     exact an (by exact Nat.succ_pos _) (ah (σ':=σ0) (.cons gt (.cons it (.cons he (.cons it' (.cons hi .nil))))) [.b true,.v (.d (pcD p)),.v (.d (.bool false)),.v (.d (pcD p')),.v (.d (.bool false))] (by kernel_rfl))
    |true=>
     rw[q]at hi
     have hb:cc (evS (fx (N+1)) F.muts F.scope 19) (stB (nth F.body 1)) (st (l+1) h none)=some (.next,⟨sj (some (.d (al t))) (some (.d (.list (P.map pcD)))) (some (.d (.int (((l+1:Nat):Int)-1)))) (some (.d (.int h))) (some (.d (dw ms))) none,σ0⟩):=a9 .nil [] (by kernel_rfl)
     rw[show((l+1:Nat):Int)-1=(l:Nat)by grind]at hb
     exact fq (s1:=st (l+1) h none) (ah (σ':=σ0) (.cons gt (.cons it (.cons he (.cons it' (.cons hi .nil))))) [.b true,.v (.d (pcD p)),.v (.d (.bool false)),.v (.d (pcD p')),.v (.d (.bool true))] (by kernel_rfl)) hb (ih h k (by exact Nat.lt_of_succ_lt_succ (by assumption)) (by exact Nat.le_of_lt (by assumption)))
 let h':=upW P E (P.length-high) high
 let l':=ko P E low
 have b1:=a6y P E (P.length-high) high
 have b2:=zr P E low
 refine dz (ui N ms hw (show l'<P.length by exact Nat.lt_of_le_of_lt (by assumption) (by assumption))) ?_;intro p hp he _
 refine dz (ui N ms hw (show h'-1<P.length by omega)) ?_;intro p' hp' _ he'
 have it:=ay pcD P l' p hp σ0
 have it':=cz pcD P (h'-1) p' hp' σ0 ((h':Int)-1) (by omega)
 have W1:=w1 (P.length-high) high 100 (by exact om9 hlen) (by grind)
 have W2:=w2 low h' 100 (by exact aos hl hlen) hl
 have ew:on P (dc t ms) low high=if(dc t ms (bh P l')&&dc t ms (c8 P (h'-1)))=true then some (l',h')else none:=rfl
 rw[ew]
 cases q1:dc t ms (bh P l')with
 |false=>
  rw[q1]at he
  exact ab m6 (st low high none).ρ (by kernel_rfl) (.d .none) (st l' h' (some (.d (.bool false)))) (.cons W1 (.cons W2 (.cons it (.cons he .nil)))) [.l .next (st low h' none),.l .next (st l' h' none),.v (.d (pcD p)),.v (.d (.bool false))] (by kernel_rfl) (by kernel_rfl)
 |true=>
  rw[q1]at he
  cases q2:dc t ms (c8 P (h'-1))with
  |false=>
   rw[q2]at he'
   exact ab m6 (st low high none).ρ (by kernel_rfl) (.d .none) (st l' h' (some (.d (.bool false)))) (.cons W1 (.cons W2 (.cons it (.cons he (.cons it' (.cons he' .nil)))))) [.l .next (st low h' none),.l .next (st l' h' none),.v (.d (pcD p)),.v (.d (.bool true)),.v (.d (pcD p')),.v (.d (.bool false))] (by kernel_rfl) (by kernel_rfl)
  |true=>
   rw[q2]at he'
   exact ab m6 (st low high none).ρ (by kernel_rfl) (.d (prD (l',h'))) (st l' h' (some (.d (.bool true)))) (.cons W1 (.cons W2 (.cons it (.cons he (.cons it' (.cons he' .nil)))))) [.l .next (st low h' none),.l .next (st l' h' none),.v (.d (pcD p)),.v (.d (.bool true)),.v (.d (pcD p')),.v (.d (.bool true))] (by kernel_rfl) (by kernel_rfl)
theorem jz{α β J:Type}{turn:D→St→Option (Fl×St)}(emb:β→D) (st:α→J→St) (f:α→β→α) (Inv:Nat→α→Prop) (xs:List β)
  (h:∀i x a j,x∈xs→i<xs.length→Inv i a→(∃j',turn (emb x) (st a j)=some (.next,st (f a x) j'))∧Inv (i+1) (f a x)) (a:α) (j:J) (h0:Inv 0 a):∃j',iu turn (xs.map emb) (st a j)=some (.next,st (xs.foldl f a) j'):=by
 have key:∀(l:List β) (k:Nat) (a:α) (j:J),(∀x∈l,x∈xs)→k+l.length=xs.length→Inv k a→∃j',iu turn (l.map emb) (st a j)=some (.next,st (l.foldl f a) j'):=by
  intro l
  induction l with
  |nil=>intro k a j _ _ _;exact⟨j,rfl⟩
  |cons x l ih=>
   intro k a j hm hk hi
   rw[List.length_cons]at hk
   refine bk (h k x a j (hm x (.head _)) (by exact om1 hk) hi) ?_;intro pq0 hi';obtain⟨j',e⟩:=pq0
   rw[List.map_cons,gr,e]
   exact ih (k+1) (f a x) j' (fun y hy=>hm y (.tail _ hy)) (by exact om8 hk) hi'
 exact key xs 0 a j (fun _ h=>h) (by exact Nat.add_comm _ _) h0
theorem pd (l:List (Nat×Nat)):(D.list (l.map prD)).plain=true:=by
 show(l.map prD).all (D.plainAt 5)=true
 induction l with
 |nil=>rfl
 |cons p l ih=>rw[List.map_cons,List.all_cons,ih];rfl
noncomputable def d8 (acc:List (Nat×Nat))(p:Nat×Nat):List (Nat×Nat):=match acc.getLast? with
 |none=>acc++[p]
 |some q=>if decide (q.2≤p.1)||decide (p.2≤q.1)then acc++[p]else acc
noncomputable def io (l:List (Nat×Nat)):List (Nat×Nat):=l.foldl d8 []
theorem a0t (l:List (Nat×Nat)) (q:Nat×Nat) (h:l.getLast?=some q) (v:Nat):bx (σ1 (l.map prD) v) (.m 0) (.d (.int (-1)))=some (.d (prD q)):=by
 have hp:0<l.length:=by cases l with|nil=>cases h|cons _ _=>exact Nat.succ_pos _
 refine a72 (xs:=l.map prD) (n:=l.length-1) rfl (by rw[List.length_map];exact a5e hp) ?_
 rw[List.getElem?_map,←List.getLast?_eq_getElem?,h];rfl
theorem a8x (l:List (Nat×Nat)) (v:Nat):b8 (σ1 (l.map prD) v) .Eq (.m 0) (.d (.list []))=some l.isEmpty:=
 (aas (pd l) py).trans (congrArg some ((xg _).trans (ii _ _)))
theorem a71 (σ:Sto) (a b:Nat):b8 σ .LtE (.d (.int a)) (.d (.int b))=some (decide (a≤b)):=congrArg some (by by_cases h:a≤b<;>simp[h])
theorem abj (σ:Sto) (a b:Nat):b8 σ .GtE (.d (.int a)) (.d (.int b))=some (decide (b≤a)):=congrArg some (by by_cases h:b≤a<;>simp[h])
theorem a2e (N:Nat) (l:List (Nat×Nat)) (hl:l.length≤10000):(fx (N+1)).pure (.fn "_law_apart") [.list (l.map prD)]=some (.list ((io l).map prD)):=by
 let F:=ae 104 ["found"]
 let LB:=stB (nth F.body 1)
 let ρ:Option V→Option V→Option V→Rho:=fun f a b=>a2f (some (.d (.list (l.map prD)))) f a b
 let st:List (Nat×Nat)→(Option V×Option V)×Nat→St:=fun acc j=>⟨ρ (some (.m 0)) j.1.1 j.1.2,σ1 (acc.map prD) j.2⟩
 have hb:LB=[nth LB 0]:=by kernel_rfl
 obtain⟨j',e⟩:=jz (turn:=c9 (fx N) F.muts F.scope 19 (stT (nth F.body 1)) LB) prD st d8 (fun i a=>a.length≤i) l (fun i p acc j _ hi inv=>by
  obtain⟨⟨x,y⟩,v⟩:=j
  let σ:=σ1 (acc.map prD) v
  let ρ':=ρ (some (.m 0)) (some (.d (.int p.1))) (some (.d (.int p.2)))
  have h0:aj 4 (stT (nth F.body 1)) (prD p) (st acc ((x,y),v)).ρ=some ρ':=by kernel_rfl
  have em:=a8x acc v
  have ap:=jy (acc.map prD) v (prD p) (by rw[List.length_map];exact aek hl hi inv)
  have snoc:st (acc++[p]) ((some (.d (.int p.1)),some (.d (.int p.2))),v+1)=⟨ρ',σ1 (acc.map prD++[prD p]) (v+1)⟩:=by simp only[st,cr];rfl
  unfold d8
  cases hq:acc.getLast? with
  |none=>
   have:acc=[]:=List.getLast?_eq_none_iff.mp hq
   rw[show acc.isEmpty=true by rw[this];rfl]at em
   refine⟨⟨((some (.d (.int p.1)),some (.d (.int p.2))),v+1),?_⟩,by rw[List.length_append];exact Nat.add_le_add_right inv 1⟩
   dsimp only
   rw[snoc]
   exact am h0 (dh hb (a8 (.cons em (.cons ap .nil)) [.b true,.e (.d .none) (σ1 (acc.map prD++[prD p]) (v+1))] (by kernel_rfl)))
  |some q=>
   have ne:acc.isEmpty=false:=by cases acc with|nil=>cases hq|cons _ _=>rfl
   rw[ne]at em
   have it:=a0t acc q hq v
   have c1:=abj σ p.1 q.2
   have c2:=a71 σ p.2 q.1
   dsimp only
   cases d1:decide (q.2≤p.1)with
   |true=>
    rw[d1]at c1
    refine⟨⟨((some (.d (.int p.1)),some (.d (.int p.2))),v+1),?_⟩,by rw[Bool.true_or,if_pos rfl,List.length_append];exact Nat.add_le_add_right inv 1⟩
    rw[Bool.true_or,if_pos rfl,snoc]
    exact am h0 (dh hb (a8 (.cons em (.cons it (.cons c1 (.cons ap .nil)))) [.b false,.v (.d (prD q)),.b true,.e (.d .none) (σ1 (acc.map prD++[prD p]) (v+1))] (by kernel_rfl)))
   |false=>
    rw[d1]at c1
    cases d2:decide (p.2≤q.1)with
    |true=>
     rw[d2]at c2
     refine⟨⟨((some (.d (.int p.1)),some (.d (.int p.2))),v+1),?_⟩,by rw[Bool.false_or,if_pos rfl,List.length_append];exact Nat.add_le_add_right inv 1⟩
     rw[Bool.false_or,if_pos rfl,snoc]
     exact am h0 (dh hb (a8 (.cons em (.cons it (.cons c1 (.cons it (.cons c2 (.cons ap .nil)))))) [.b false,.v (.d (prD q)),.b false,.v (.d (prD q)),.b true,.e (.d .none) (σ1 (acc.map prD++[prD p]) (v+1))] (by kernel_rfl)))
    |false=>
     rw[d2]at c2
     refine⟨⟨((some (.d (.int p.1)),some (.d (.int p.2))),v),?_⟩,by rw[Bool.false_or,if_neg Bool.false_ne_true];exact akw inv⟩
     rw[Bool.false_or,if_neg Bool.false_ne_true]
     exact am h0 (dh hb (a8 (.cons em (.cons it (.cons c1 (.cons it (.cons c2 .nil))))) [.b false,.v (.d (prD q)),.b false,.v (.d (prD q)),.b false] (by kernel_rfl)))) [] ((none,none),1) (Nat.le_refl _)
 exact ab a2r (ρ none none none) (by kernel_rfl) (.m 0) (st (io l) j') (.cons e .nil) [.l .next (st (io l) j')] (by kernel_rfl) (by kernel_rfl)
inductive Wd where
 |least|wide|whole
noncomputable def Wd.str:Wd→Str
 |.least=>"least"
 |.wide=>"wide"
 |.whole=>"whole"
noncomputable def zj(wd:Wd)(ov back:Bool):D:=.tuple [.str wd.str,.bool ov,.bool back]
noncomputable def mw (l:List (Nat×Nat)):List (Nat×Nat):=(l.zipIdx.filter fun p=>!(l.take p.2).contains p.1).map Prod.fst
noncomputable def lk (P:List Pc) (w:Lv) (E:Nat→Bool):Wd→List (Nat×Nat)
 |.least=>if cw w then[]else r6 P w
 |.wide=>(if cw w then[]else r6 P w).map fun p=>(co P p.1,upN P (P.length-p.2) p.2)
 |.whole=>mw ((if cw w then[]else r6 P w).filterMap fun p=>on P E p.1 p.2)
noncomputable def aa (P:List Pc)(p:Nat×Nat):Nat×Nat:=(bh P p.1,c8 P (p.2-1))
noncomputable def a47 (P:List Pc)(w:Lv)(E:Nat→Bool)(wd:Wd)(ov back:Bool):List (Nat×Nat):=
 let l:=lk P w E wd
 let l:=if back then l.reverse else l
 (if ov then l else io l).map (aa P)
noncomputable def Lie(P:List Pc)(p:Nat×Nat):Prop:=p.1<P.length∧1≤p.2∧p.2≤P.length
theorem lh{α β:Type}(Q:α→Prop) (f:α→β→α):∀(l:List β) (a:α),Q a→(∀x∈l,∀a,Q a→Q (f a x))→Q (l.foldl f a)
 |[],a,h,_=>h
 |x::l,a,h,k=>lh Q f l (f a x) (k x (.head _) a h) fun y hy=>k y (.tail _ hy)
theorem ace (P:List Pc) (w:Lv):∀p∈r6 P w,Lie P p:=by
 refine lh (fun a:List (Nat×Nat)=>∀p∈a,Lie P p) _ _ _ (fun p h=>nomatch h) fun low hl a ha=>?_
 have hl:=List.mem_range.mp hl
 refine lh (fun a:Lv×List (Nat×Nat)=>∀p∈a.2,Lie P p) _ _ _ ha fun i hi a ha=>?_
 have hi:=List.mem_range.mp hi
 unfold da
 dsimp only
 generalize (if 0<i then bf a.1 ((P[low+i]?).getD ⟨0,0,[]⟩).lv else a.1)=t
 intro p hp
 split at hp
 ·rcases List.mem_append.mp hp with hp|hp
  ·exact ha p hp
  ·rw[List.mem_singleton.mp hp];exact⟨hl,by show 1≤low+i+1;grind,by show low+i+1≤_;exact ain hi⟩
 ·exact ha p hp
theorem acj (P:List Pc) (w:Lv) (hP:P.length≤50):(r6 P w).length≤2500:=by
 have inner:∀low acc,(l8 P w acc low).length≤acc.length+(P.length-low):=by
  intro low acc
  have:∀n,((List.range n).foldl (da P w low) (((P[low]?).getD ⟨0,0,[]⟩).lv,acc)).2.length≤acc.length+n:=by
   intro n
   induction n with
   |zero=>exact Nat.le_refl _
   |succ n ih=>
    rw[List.range_succ,List.foldl_append]
    exact Nat.le_trans (vw P w low _ n) (Nat.add_le_add_right ih 1)
  exact this _
 have:∀n,n≤P.length→((List.range n).foldl (l8 P w) []).length≤50*n:=by
  intro n hn
  induction n with
  |zero=>exact Nat.le_refl _
  |succ n ih=>
   rw[List.range_succ,List.foldl_append]
   refine Nat.le_trans (inner n _) ?_
   have:=ih (by exact Nat.le_of_lt (by assumption))
   exact aml hP this
 have:=this P.length (Nat.le_refl _)
 unfold r6
 grind
theorem pv(P:List Pc)(w:Lv):∀p∈(if cw w then[]else r6 P w),Lie P p:=by
 cases cw w
 ·exact ace P w
 ·exact fun p h=>nomatch h
theorem a1i(P:List Pc)(w:Lv)(hP:P.length≤50):(if cw w then[]else r6 P w).length≤2500:=by
 cases cw w
 ·exact acj P w hP
 ·exact Nat.zero_le _
theorem sp(P:List Pc):∀l,co P l≤l
 |0=>Nat.le_refl _
 |l+1=>by
  have:=sp P l
  unfold co
  split<;>lia
theorem a2s (P:List Pc):∀k h,h≤upN P k h∧upN P k h≤h+k
 |0,h=>⟨Nat.le_refl _,Nat.le_refl _⟩
 |k+1,h=>by
  have:=a2s P k (h+1)
  unfold upN
  split<;>lia
theorem a9l{l:List (Nat×Nat)}{p:Nat×Nat}(h:p∈mw l):p∈l:=by
 refine ar (List.mem_map.mp h) ?_;intro q hq rf2;subst rf2
 have:=(List.mem_filter.mp hq).1
 exact List.fst_mem_of_mem_zipIdx this
theorem aay (P:List Pc) (w:Lv) (E:Nat→Bool) (wd:Wd):∀p∈lk P w E wd,Lie P p:=by
 intro p hp
 cases wd with
 |least=>exact pv P w p hp
 |wide=>
  refine ar (List.mem_map.mp hp) ?_;intro q hq rf2;subst rf2
  refine f5 (pv P w q hq) ?_;intro h1 h2 h3
  have:=sp P q.1
  have:=a2s P (P.length-q.2) q.2
  exact⟨by show co P q.1<_;exact afa h1 (by assumption),by show 1≤upN P _ q.2;exact afk h2 this,by show upN P _ q.2≤_;exact afb h3 this⟩
 |whole=>
  refine ar (List.mem_filterMap.mp (a9l hp)) ?_;intro q hq e
  refine f5 (pv P w q hq) ?_;intro h1 h2 h3
  have a1:=zr P E q.1
  have a2:=a6y P E (P.length-q.2) q.2
  unfold on at e
  dsimp only at e
  split at e
  ·cases e
   exact⟨by show ko P E q.1<_;exact afa h1 a1,by show 1≤upW P E _ q.2;exact afk h2 a2,by show upW P E _ q.2≤_;exact afb h3 a2⟩
  ·cases e
theorem abn{α:Type}(f:α→Option (Nat×Nat)):∀l:List α,(l.map f).filterMap (fun o=>o.map prD)=(l.filterMap f).map prD
 |[]=>rfl
 |x::l=>by
  rw[List.map_cons,List.filterMap_cons,List.filterMap_cons,abn f l]
  cases f x<;>rfl
theorem zx:∀(l:List (Nat×Nat))(k:Nat),gj k (l.map prD)=(l.zipIdx k).map fun p=>D.tuple [.int p.2,prD p.1]
 |[],_=>rfl
 |x::l,k=>by
  rw[List.map_cons,List.zipIdx_cons,List.map_cons,←zx l (k+1)];rfl
theorem a3n (p q:Nat×Nat):D.beq (prD p) (prD q)=(p==q):=by
 show(((p.1:Int)==(q.1:Int))&&(((p.2:Int)==(q.2:Int))&&true))=((p.1==q.1)&&(p.2==q.2))
 rw[Bool.and_true]
 congr 1<;>(rw[Bool.eq_iff_iff,beq_iff_eq,beq_iff_eq];grind)
theorem a8m (p:Nat×Nat):∀l:List (Nat×Nat),memD (prD p) (l.map prD)=l.contains p
 |[]=>rfl
 |x::l=>by
  show(D.beq (prD x) (prD p)||memD (prD p) (l.map prD))=_
  rw[a8m p l,List.contains_cons,a3n,Bool.beq_comm]
theorem a9u (p:Nat×Nat) (l:List (Nat×Nat)) (σ:Sto):b8 σ .NotIn (.d (prD p)) (.d (.list (l.map prD)))=some (!l.contains p):=
 (ag2 rfl (pd l)).trans (congrArg (fun b=>some (!b)) (a8m p l))
theorem ac3 (l:List (Nat×Nat)) (i:Nat) (hi:i≤1000000) (σ:Sto):d3 (some (.list (l.map prD))) none (some (i:Int)) none σ=some (.d (.list ((l.take i).map prD)),σ):=by
 unfold d3
 rw[Option.all_some,ku (by exact Int.natCast_nonneg _) (by exact om3 hi),List.map_take]
 rfl
theorem lj{β:Type}(emb:β→D) (l:List β) (σ:Sto):d3 (some (.list (l.map emb))) none none (some (-1)) σ=some (.d (.list (l.reverse.map emb)),σ):=by
 rw[List.map_reverse];rfl
theorem a9m (l:List (Nat×Nat)):(mw l).length≤l.length:=by
 unfold mw
 rw[List.length_map]
 exact Nat.le_trans (List.length_filter_le _ _) (by rw[List.length_zipIdx];exact Nat.le_refl _)
theorem a0x (P:List Pc) (w:Lv) (E:Nat→Bool) (wd:Wd) (hP:P.length≤50):(lk P w E wd).length≤2500:=by
 have b:=a1i P w hP
 cases wd with
 |least=>exact b
 |wide=>show(List.map _ _).length≤_;rw[List.length_map];exact b
 |whole=>exact Nat.le_trans (a9m _) (Nat.le_trans (List.length_filterMap_le _ _) b)
theorem a1k (l:List (Nat×Nat)):(io l).length≤l.length:=by
 have:∀(l a:List (Nat×Nat)),(l.foldl d8 a).length≤a.length+l.length:=by
  intro l
  induction l with
  |nil=>intro a;exact Nat.le_refl _
  |cons x l ih=>
   intro a
   have h1:(d8 a x).length≤a.length+1:=by
    unfold d8
    split
    ·rw[List.length_append];exact Nat.le_refl _
    ·split
     ·rw[List.length_append];exact Nat.le_refl _
     ·exact Nat.le_succ _
   have:=ih (d8 a x)
   rw[List.foldl_cons,List.length_cons]
   grind
 have:=this l []
 rw[List.length_nil,Nat.zero_add]at this
 exact this
theorem a9s{l:List (Nat×Nat)}{p:Nat×Nat}(h:p∈io l):p∈l:=by
 refine lh (fun a:List (Nat×Nat)=>∀p∈a,p∈l) d8 l [] (fun p h=>nomatch h) (fun x hx a ha p hp=>?_) p h
 unfold d8 at hp
 have key:∀{p},p∈a++[x]→p∈l:=fun hp=>(List.mem_append.mp hp).elim (ha _) fun q=>List.mem_singleton.mp q▸hx
 split at hp
 ·exact key hp
 ·split at hp
  ·exact key hp
  ·exact ha p hp
theorem dn{β:Type}(l:List β)(d:β){i:Nat}(h:i<l.length):l[i]?=some ((l[i]?).getD d):=by
 rw[List.getElem?_eq_getElem h];rfl
theorem i8 (p:Nat×Nat) (σ:Sto):b8 σ .IsNot (.d (prD p)) (.d .none)=some true:=rfl
theorem xh (σ:Sto):b8 σ .IsNot (.d D.none) (.d .none)=some false:=rfl
theorem a7u (N:Nat) (P:List Pc) (w:Lv) (t ms:List Int) (wd:Wd) (ov back:Bool) (hP:j3 P) (hw:a3b P t) (hwl:w.length≤1000):
  (fx (N+4)).pure (.fn "_law_due") [al t,.list (P.map pcD),cq w,zj wd ov back,dw ms]=some (.list ((a47 P w (dc t ms) wd ov back).map prD)):=by
 let F:=ae 105
 let E:=dc t ms
 let Φ:=fx (N+3)
 let ρ:Option V→Rho:=fun s=>a87 (some (.d (al t))) (some (.d (.list (P.map pcD)))) (some (.d (cq w))) (some (.d (zj wd ov back))) (some (.d (dw ms))) s
 let L:List (Nat×Nat)→Option V:=fun l=>some (.d (.list (l.map prD)))
 have hlen:=hP.1
 let base:=if cw w then[] else r6 P w
 have s0:evS Φ F.muts F.scope 20 (nth F.body 0) ⟨ρ none,σ0⟩=some (.next,⟨ρ (L base),σ0⟩):=by
  have hc:be (bq Φ 36 (ρ none) 0 (sub (sub (stE (nth F.body 0)) 0) 0)) (w.map lvD) σ0=_:=q5 w σ0 fun l b hb=>by
   cases b with|false=>exact b6 (.cons hb .nil) [.b false] (by kernel_rfl)|true=>exact b6 (.cons hb .nil) [.b true] (by kernel_rfl)
  have hr:=bc lvD w (by exact Nat.le_trans (by assumption) (by decide))
  have ne:b8 σ0 .NotEq (.d (.list ((w.filter fun l=>!l.isEmpty).map lvD))) (.d (.list []))=some (!cw w):=(adi σ0 (jk _)).trans (by rw[ii,w0])
  show _=some (Fl.next,(⟨ρ (L (if cw w then[] else r6 P w)),σ0⟩:St))
  cases q:cw w with
  |true=>
   rw[q] at ne
   exact a8 (.cons hr (.cons hc (.cons ne .nil))) [.c ((w.filter fun l=>!l.isEmpty).map lvD),.b false] (by kernel_rfl)
  |false=>
   rw[q] at ne
   exact a8 (.cons hr (.cons hc (.cons ne (.cons (uq (N+1) P w hP) .nil)))) [.c ((w.filter fun l=>!l.isEmpty).map lvD),.b true,.v (.d (.list ((r6 P w).map prD)))] (by kernel_rfl)
 have hbl:base.length≤2500:=a1i P w hlen
 have hbi:∀p∈base,Lie P p:=pv P w
 have s1:evS Φ F.muts F.scope 20 (nth F.body 1) ⟨ρ (L base),σ0⟩=some (.next,⟨ρ (L (lk P w E wd)),σ0⟩):=by
  let W:Expr:=stE (nth (stB (nth F.body 1)) 0)
  let C1:Expr:=stE (nth (stB (nth (stO (nth F.body 1)) 0)) 0)
  let C2:Expr:=stE (nth (stB (nth (stO (nth F.body 1)) 0)) 1)
  have iw:b8 σ0 .Eq (.d (.str wd.str)) (.d (.str "wide"))=some (match wd with|.wide=>true|_=>false):=by cases wd<;>kernel_rfl
  have iv:b8 σ0 .Eq (.d (.str wd.str)) (.d (.str "whole"))=some (match wd with|.whole=>true|_=>false):=by cases wd<;>kernel_rfl
  cases wd with
  |least=>exact a8 (.cons iw (.cons iv .nil)) [.b false,.b false] (by kernel_rfl)
  |wide=>
   have hc:be (bq Φ 39 (ρ (L base)) 0 W) (base.map prD) σ0=some (base.map fun p=>prD (co P p.1,upN P (P.length-p.2) p.2),σ0):=bn prD (fun p=>prD (co P p.1,upN P (P.length-p.2) p.2)) base fun p hp=>by
    refine f5 (hbi p hp) ?_;intro h1 h2 h3
    exact b6 (.cons (a5v (N+1) P p.1 p.2 hP (by exact Nat.le_of_lt (by assumption)) h3) .nil) [.v (.d (prD (co P p.1,upN P (P.length-p.2) p.2)))] (by kernel_rfl)
   have e:L (lk P w E .wide)=some (.d (.list (base.map fun p=>prD (co P p.1,upN P (P.length-p.2) p.2)))):=congrArg (fun l=>some (V.d (.list l))) (List.map_map ..)
   rw[e]
   exact a8 (.cons iw (.cons (bc prD base (by exact Nat.le_trans (by assumption) (by decide))) (.cons hc .nil))) [.b true,.c (base.map fun p=>prD (co P p.1,upN P (P.length-p.2) p.2))] (by kernel_rfl)
  |whole=>
   let g:Nat×Nat→Option (Nat×Nat):=fun p=>on P E p.1 p.2
   let f1:=base.filterMap g
   have hc1:be (bq Φ 37 (ρ (L base)) 0 (uy C1)) (base.map prD) σ0=some ((base.map g).map ue,σ0):=by
    rw[List.map_map]
    exact bn prD (ue∘g) base fun p hp=>by
     refine f5 (hbi p hp) ?_;intro h1 h2 h3
     exact b6 (.cons (a3q (N+1) P t ms p.1 p.2 hP hw h1 h2 h3) .nil) [.v (.d (ue (g p)))] (by kernel_rfl)
   have hc2:be (bq Φ 39 (ρ (L base)) 0 C1) ((base.map g).map ue) σ0=some (f1.map prD,σ0):=by
    rw[show f1.map prD=(base.map g).filterMap (fun o=>o.map prD) from(abn g base).symm]
    exact r7 ue (fun o=>o.map prD) (base.map g) fun o _=>by
     cases o with
     |none=>exact b6 (.cons (xh σ0) .nil) [.b false] (by kernel_rfl)
     |some p=>exact b6 (.cons (i8 p σ0) .nil) [.b true] (by kernel_rfl)
   have hf:f1.length≤2500:=Nat.le_trans (List.length_filterMap_le _ _) hbl
   have hc3:be (bq Φ 39 (ρ (L f1)) 0 C2) (gj 0 (f1.map prD)) σ0=some ((mw f1).map prD,σ0):=by
    rw[zx,show(mw f1).map prD=(f1.zipIdx.filter fun p=>!(f1.take p.2).contains p.1).map fun p=>prD p.1 from List.map_map ..]
    exact kt (fun p:(Nat×Nat)×Nat=>D.tuple [.int p.2,prD p.1]) (fun p=>!(f1.take p.2).contains p.1) (fun p=>prD p.1) f1.zipIdx fun p hp=>by
     have h1:p.2<f1.length:=by have:=List.snd_lt_of_mem_zipIdx hp;exact ai6 this
     have ni:=a9u p.1 (f1.take p.2) σ0
     have sl:=ac3 f1 p.2 (by exact ajo hf h1) σ0
     cases q:(!(f1.take p.2).contains p.1) with
     |false=>
      rw[q] at ni
      exact b6 (.cons sl (.cons ni .nil)) [.e (.d (.list ((f1.take p.2).map prD))) σ0,.b false] (by kernel_rfl)
     |true=>
      rw[q] at ni
      exact b6 (.cons sl (.cons ni .nil)) [.e (.d (.list ((f1.take p.2).map prD))) σ0,.b true] (by kernel_rfl)
   have hr2:fe (gj 0 (f1.map prD)).length=true:=by rw[zx];exact bc _ _ (by rw[List.length_zipIdx];exact aku hf)
   exact a8 (.cons iw (.cons iv (.cons (bc prD base (by exact Nat.le_trans (by assumption) (by decide))) (.cons hc1 (.cons (bc ue (base.map g) (by rw[List.length_map];exact aku hbl)) (.cons hc2 (.cons hr2 (.cons hc3 .nil)))))))) [.b false,.b true,.c ((base.map g).map ue),.c (f1.map prD),.c ((mw f1).map prD)] (by kernel_rfl)
 let l1:=lk P w E wd
 let l2:=if back then l1.reverse else l1
 have s2:evS Φ F.muts F.scope 20 (nth F.body 2) ⟨ρ (L l1),σ0⟩=some (.next,⟨ρ (L l2),σ0⟩):=by
  show _=some (Fl.next,(⟨ρ (L (if back then l1.reverse else l1)),σ0⟩:St))
  cases back with
  |false=>exact a8 .nil [] (by kernel_rfl)
  |true=>exact a8 (.cons (lj prD l1 σ0) .nil) [.e (.d (.list (l1.reverse.map prD))) σ0] (by kernel_rfl)
 let l3:=if ov then l2 else io l2
 have hl1:l1.length≤2500:=a0x P w E wd hlen
 have hl2:l2.length≤2500:=by show(if back then l1.reverse else l1).length≤_;cases back;exact hl1;rw[if_pos rfl,List.length_reverse];exact hl1
 have hm2:∀p∈l2,Lie P p:=by
  intro p hp
  refine aay P w E wd p ?_
  replace hp:p∈(if back then l1.reverse else l1):=hp
  cases back
  ·exact hp
  ·exact List.mem_reverse.mp hp
 have s3:evS Φ F.muts F.scope 20 (nth F.body 3) ⟨ρ (L l2),σ0⟩=some (.next,⟨ρ (L l3),σ0⟩):=by
  show _=some (Fl.next,(⟨ρ (L (if ov then l2 else io l2)),σ0⟩:St))
  cases ov with
  |true=>exact a8 .nil [] (by kernel_rfl)
  |false=>exact a8 (.cons (a2e (N+2) l2 (by exact Nat.le_trans (by assumption) (by decide))) .nil) [.v (.d (.list ((io l2).map prD)))] (by kernel_rfl)
 have hm3:∀p∈l3,Lie P p:=by
  intro p hp
  replace hp:p∈(if ov then l2 else io l2):=hp
  cases ov
  ·exact hm2 p (a9s hp)
  ·exact hm2 p hp
 have hl3:l3.length≤2500:=by
  show(if ov then l2 else io l2).length≤_
  cases ov
  ·exact Nat.le_trans (a1k l2) hl2
  ·exact hl2
 have hc4:be (bq Φ 39 (ρ (L l3)) 0 (stE (nth F.body 4))) (l3.map prD) σ0=some ((l3.map (aa P)).map prD,σ0):=by
  rw[List.map_map]
  exact bn prD (prD∘aa P) l3 fun p hp=>by
   refine f5 (hm3 p hp) ?_;intro h1 h2 h3
   exact b6 (.cons (ay pcD P p.1 _ (dn P ⟨0,0,[]⟩ h1) σ0) (.cons (cz pcD P (p.2-1) _ (dn P ⟨0,0,[]⟩ (by exact aj6 h2 h3)) σ0 ((p.2:Int)-1) (by exact om7 h2)) .nil)) [.v (.d (pcD ((P[p.1]?).getD ⟨0,0,[]⟩))),.v (.d (pcD ((P[p.2-1]?).getD ⟨0,0,[]⟩)))] (by kernel_rfl)
 have s4:evS Φ F.muts F.scope 20 (nth F.body 4) ⟨ρ (L l3),σ0⟩=some (.ret (.d (.list ((l3.map (aa P)).map prD))),⟨ρ (L l3),σ0⟩):=a8 (.cons (bc prD l3 (by exact Nat.le_trans (by assumption) (by decide))) (.cons hc4 .nil)) [.c ((l3.map (aa P)).map prD)] (by kernel_rfl)
 have hb:F.body=[nth F.body 0,nth F.body 1,nth F.body 2,nth F.body 3,nth F.body 4]:=by kernel_rfl
 have run:cc (evS Φ F.muts F.scope 20) F.body ⟨ρ none,σ0⟩=some (.ret (.d (.list ((l3.map (aa P)).map prD))),⟨ρ (L l3),σ0⟩):=by
  rw[hb]
  exact b9 s0 (b9 s1 (b9 s2 (b9 s3 (a2p s4))))
 exact z8 a79 (ρ none) (by kernel_rfl) run (by kernel_rfl)
theorem pe{α β:Type}(f:α→β):∀(l:List α) (a:List β),l.foldl (fun a x=>a++[f x]) a=a++l.map f
 |[],a=>(List.append_nil a).symm
 |x::l,a=>by rw[List.foldl_cons,pe f l,List.append_assoc];rfl
noncomputable def ah6(e:El):Int:=if 0<e.1+e.2.1+e.2.2 then 65535 else 0
noncomputable def wD (e:El):D:=.tuple [.int e.1,.int e.2.1,.int e.2.2,.int (ah6 e)]
theorem vr (N:Nat) (es:List El) (hl:es.length≤10000):(fx (N+1)).pure (.fn "weighted") [db es,.str "non-ignorable"]=some (.list (es.map wD)):=by
 let F:=ae 31 ["found"]
 let LB:=stB (nth F.body 4)
 let J:=Option V×Option V×Option V×Option V×Nat
 let st:List El→J→St:=fun acc j=>⟨z9 (some (.d (db es))) (some (.d (.str "non-ignorable"))) (some (.d (.int 1))) (some (.d (.int 65535))) (some (.m 0)) j.1 j.2.1 j.2.2.1 j.2.2.2.1,σ1 (acc.map wD) j.2.2.2.2⟩
 have hb:LB=[nth LB 0]:=by kernel_rfl
 obtain⟨j',e⟩:=jz (turn:=c9 (fx N) F.muts F.scope 19 (stT (nth F.body 4)) LB) elD st (fun acc x=>acc++[x]) (fun i a=>a.length=i) es (fun i x acc j _ hi inv=>by
  let σ:=σ1 (acc.map wD) j.2.2.2.2
  let j':J:=(some (.d (.int x.1)),some (.d (.int x.2.1)),some (.d (.int x.2.2)),some (.d (.bool false)),j.2.2.2.2+1)
  have h0:aj 4 (stT (nth F.body 4)) (elD x) (st acc j).ρ=some (st acc j').ρ:=by kernel_rfl
  have ap:=jy (acc.map wD) j.2.2.2.2 (wD x) (by rw[List.length_map];exact ak7 hl hi inv)
  have cg:∀b,decide (0<x.1+x.2.1+x.2.2)=b→b8 σ .Gt (.d (.int (x.1+x.2.1+x.2.2))) (.d (.int 0))=some b:=fun b q=>congrArg some q
  have snoc:st (acc++[x]) j'=⟨(st acc j').ρ,σ1 (acc.map wD++[wD x]) (j.2.2.2.2+1)⟩:=by simp only[st,cr];rfl
  refine⟨⟨j',?_⟩,by rw[List.length_append];exact congrArg (·+1) inv⟩
  rw[snoc]
  by_cases q:0<x.1+x.2.1+x.2.2
  ·have tw:wD x=.tuple [.int x.1,.int x.2.1,.int x.2.2,.int 65535]:=by unfold wD ah6;rw[if_pos q]
   rw[tw] at ap ⊢
   exact am h0 (dh hb (a8 (.cons (cg true (decide_eq_true q)) (.cons ap .nil)) [.b true,.e (.d .none) (σ1 (acc.map wD++[.tuple [.int x.1,.int x.2.1,.int x.2.2,.int 65535]]) (j.2.2.2.2+1))] (by kernel_rfl)))
  ·have tw:wD x=.tuple [.int x.1,.int x.2.1,.int x.2.2,.int 0]:=by unfold wD ah6;rw[if_neg q]
   rw[tw] at ap ⊢
   exact am h0 (dh hb (a8 (.cons (cg false (decide_eq_false q)) (.cons ap .nil)) [.b false,.e (.d .none) (σ1 (acc.map wD++[.tuple [.int x.1,.int x.2.1,.int x.2.2,.int 0]]) (j.2.2.2.2+1))] (by kernel_rfl)))) [] (none,none,none,none,1) rfl
 rw[show es.foldl (fun acc x=>acc++[x]) []=es by rw[pe (fun x=>x),List.nil_append,List.map_id''];exact fun _=>rfl] at e
 have n1:b8 σ0 .Eq (.d (.str "non-ignorable")) (.d (.str "blanked"))=some false:=by kernel_rfl
 have n2:b8 σ0 .NotEq (.d (.str "non-ignorable")) (.d (.str "non-ignorable"))=some false:=by kernel_rfl
 have n0:f9 .Mult (.int 65535) (.int 1)=some (.int 65535):=by kernel_rfl
 exact ab a7a (z9 (some (.d (db es))) (some (.d (.str "non-ignorable"))) (some (.d (.int 1))) none none none none none none) (by kernel_rfl) (.m 0) (st es j') (.cons n0 (.cons n1 (.cons n2 (.cons e .nil))))
  [.v (.d (.int 65535)),.b false,.b false,.l .next (st es j')] (by kernel_rfl) (by kernel_rfl)
theorem lx (N:Nat) (es:List El) (s:Nat) (he:es.length≤10000) (hs:s≤3):(fx (N+1)).pure (.fn "search_levels") [.list (es.map wD),.int s]=some (cq (c7 es s)):=by
 let F:=ae 35 ["levels"]
 let LB:=stB (nth F.body 1)
 let W:D:=.list (es.map wD)
 let st:Lv→Option V×Nat→St:=fun acc j=>⟨n6 (some (.d W)) (some (.d (.int s))) (some (.m 0)) j.1,σ1 (acc.map lvD) j.2⟩
 let lv:Nat→List Int:=fun k=>(es.map fun e=>e.at k).filter fun x=>!(x==0)
 have hb:LB=[nth LB 0]:=by kernel_rfl
 obtain⟨j',e⟩:=ji (turn:=c9 (fx N) F.muts F.scope 19 (stT (nth F.body 1)) LB) s (fun i=>D.int ((i:Nat):Int)) st (fun acc k=>acc++[lv k]) (fun i a=>a.length=i) (fun k acc j hk inv=>by
  let σ:=σ1 (acc.map lvD) j.2
  let ρ':Rho:=(st acc (some (.d (.int k)),j.2+1)).ρ
  have h0:aj 4 (stT (nth F.body 1)) (.int k) (st acc j).ρ=some ρ':=by kernel_rfl
  have hc:be (bq (fx N) 38 ρ' 0 (sub (stE (nth LB 0)) 1)) (es.map wD) σ=some (((es.filter fun e=>!(e.at k==0))).map fun e=>D.int (e.at k),σ):=
   kt wD (fun e=>!(e.at k==0)) (fun e=>.int (e.at k)) es fun e _=>by
    have hb:∀k b,(!(e.at k==0))=b→b8 σ .NotEq (.d (.int (e.at k))) (.d (.int 0))=some b:=fun k b q=>congrArg some q
    rcases lv3 hs hk with rfl|rfl|rfl
    ·cases q:(!(e.at 0==0)) with|false=>exact b6 (.cons (hb 0 _ q) .nil) [.b false] (by kernel_rfl)|true=>exact b6 (.cons (hb 0 _ q) .nil) [.b true] (by kernel_rfl)
    ·cases q:(!(e.at 1==0)) with|false=>exact b6 (.cons (hb 1 _ q) .nil) [.b false] (by kernel_rfl)|true=>exact b6 (.cons (hb 1 _ q) .nil) [.b true] (by kernel_rfl)
    ·cases q:(!(e.at 2==0)) with|false=>exact b6 (.cons (hb 2 _ q) .nil) [.b false] (by kernel_rfl)|true=>exact b6 (.cons (hb 2 _ q) .nil) [.b true] (by kernel_rfl)
  have e2:lvD (lv k)=.list (((es.filter fun e=>!(e.at k==0))).map fun e=>D.int (e.at k)):=by
   show lvD ((es.map fun e=>e.at k).filter fun x=>!(x==0))=_
   unfold lvD;rw[List.filter_map,List.map_map];rfl
  have ap:=jy (acc.map lvD) j.2 (lvD (lv k)) (by rw[List.length_map];exact alb hs hk inv)
  have snoc:st (acc++[lv k]) (some (.d (.int k)),j.2+1)=⟨ρ',σ1 (acc.map lvD++[lvD (lv k)]) (j.2+1)⟩:=by simp only[st,cr];rfl
  refine⟨⟨(some (.d (.int k)),j.2+1),?_⟩,by rw[List.length_append];exact congrArg (·+1) inv⟩
  rw[snoc]
  rw[e2] at ap ⊢
  exact am h0 (dh hb (a8 (.cons (bc wD es (by exact Nat.le_trans (by assumption) (by decide))) (.cons hc (.cons ap .nil))) [.c (((es.filter fun e=>!(e.at k==0))).map fun e=>D.int (e.at k)),.e (.d .none) (σ1 (acc.map lvD++[.list (((es.filter fun e=>!(e.at k==0))).map fun e=>D.int (e.at k))]) (j.2+1))] (by kernel_rfl)))) [] (none,1) rfl
 rw[show(List.range s).foldl (fun acc k=>acc++[lv k]) []=c7 es s by rw[pe lv,List.nil_append];rfl] at e
 have hm:builtin "min" σ0 [.d (.int s),.d (.int 4)]=some (.int s):=by
  rcases(by grind:s=0∨s=1∨s=2∨s=3) with rfl|rfl|rfl|rfl<;>kernel_rfl
 exact ab x9 (n6 (some (.d W)) (some (.d (.int s))) none none) (by kernel_rfl) (.m 0) (st (c7 es s) j') (.cons hm (.cons (jv (s:=s) (by exact Nat.le_trans (by assumption) (by decide)) (σ1 [] 1)) (.cons e .nil)))
  [.v (.d (.int s)),.c ((List.range s).map fun i=>D.int ((i:Nat):Int)),.l .next (st (c7 es s) j')] (by kernel_rfl) (by kernel_rfl)
theorem ym (N:Nat) (p:Pc):(fx (N+1)).pure (.fn "SearchPiece") [.int p.a,.int p.b,cq p.lv]=some (spD p):=
 adp (Nat.succ_pos _) a0p (by kernel_rfl)
theorem y6 (N:Nat) (p:Pc) (hL:p.lv.length≤1000):(fx (N+1)).pure (.meth "SearchPiece" "is_idle") [spD p]=some (.bool (cw p.lv)):=by
 let ρ:=n9 (some (.d (spD p)))
 have hc:be (bq (fx N) 38 ρ 0 (sub (stE (nth (d0 34 1).body 0)) 0)) (p.lv.map lvD) σ0=_:=q5 p.lv σ0 fun l b hb=>by cases b with|false=>exact b6 (.cons hb .nil) [.b false] (by kernel_rfl)|true=>exact b6 (.cons hb .nil) [.b true] (by kernel_rfl)
 exact ab n8 ρ (by kernel_rfl) (.d (.bool (cw p.lv))) ⟨ρ,σ0⟩ (.cons (bc lvD p.lv (by exact aj1 hL)) (.cons hc (.cons (a34 p.lv σ0) .nil))) [.c ((p.lv.filter fun l=>!l.isEmpty).map lvD),.b (cw p.lv)] (by kernel_rfl) (by kernel_rfl)
noncomputable def cx (part whole:List Int):Bool:=decide (whole.take part.length=part)
theorem akq (σ:Sto) (a b:List Int):b8 σ .Eq (.d (lvD a)) (.d (lvD b))=some (decide (a=b)):=
 (aas (a1y a) (a1y b)).trans (congrArg some (mr a b))
theorem acz (l:List Int) (n:Nat) (h:n≤1000000) (σ:Sto):d3 (some (lvD l)) none (some (n:Int)) none σ=some (.d (lvD (l.take n)),σ):=by
 unfold d3 lvD
 rw[Option.all_some,ku (by exact amp h) (by exact om3 h),List.map_take]
 rfl
theorem vn (N:Nat) (a b:List Int) (h:a.length≤1000000):(fx (N+1)).pure (.fn "search_begins") [lvD a,lvD b]=some (.bool (cx a b)):=by
 let ρ:=x8 (some (.d (lvD a))) (some (.d (lvD b)))
 exact ab wz ρ (by kernel_rfl) (.d (.bool (cx a b))) ⟨ρ,σ0⟩ (.cons (aq D.int a σ0) (.cons (acz b a.length h σ0) (.cons (akq σ0 (b.take a.length) a) .nil))) [.v (.d (.int a.length)),.e (.d (lvD (b.take a.length))) σ0,.b (cx a b)] (by kernel_rfl) (by kernel_rfl)
noncomputable abbrev Gr:=List El×Nat×Nat
noncomputable def gD(g:Gr):D:=.tuple [db g.1,.int g.2.1,.int g.2.2]
noncomputable def ly(a:List Nat×Option Nat)(g:Gr):List Nat×Option Nat:=
 let m:=match a.2 with|none=>g.2.1|some b=>if g.2.1<b then g.2.1 else b
 (a.1++[m],some m)
noncomputable def a3v (G:List Gr):List Nat:=(G.reverse.foldl ly ([],none)).1.reverse
noncomputable def a56(least:List Nat)(a:List Nat×Nat)(p:Gr×Nat):List Nat×Nat:=
 (if a.2≤(least[p.2]?).getD 0 then a.1++[p.2]else a.1,if a.2<p.1.2.2 then p.1.2.2 else a.2)
noncomputable def a5q (G:List Gr):List Nat:=(G.zipIdx.foldl (a56 (a3v G)) ([],0)).1
noncomputable def aw(n:Nat):D:=.int n
noncomputable def onD:Option Nat→D
 |none=>.none
 |some n=>.int n
theorem lf{β:Type}(emb:β→D):∀(l:List β)(k:Nat),gj k (l.map emb)=(l.zipIdx k).map fun p=>D.tuple [.int p.2,emb p.1]
 |[],_=>rfl
 |x::l,k=>by
  rw[List.map_cons,List.zipIdx_cons,List.map_cons,←lf emb l (k+1)];rfl
theorem a28:∀(l:List Gr)(a:List Nat×Option Nat),(l.foldl ly a).1.length=a.1.length+l.length
 |[],_=>rfl
 |x::l,a=>by
  rw[List.foldl_cons,a28 l]
  show(a.1++_).length+_=_
  rw[List.length_append,List.length_cons,List.length_cons,List.length_nil];grind
theorem y7 (N:Nat) (G:List Gr) (hl:G.length≤10000):(fx (N+1)).pure (.fn "search_cuts") [.list (G.map gD)]=some (.list ((a5q G).map aw)):=by
 let F:=ae 36 ["least","cuts"]
 let J:=Option V×Option V×Option V×Nat
 let GD:Option V:=some (.d (.list (G.map gD)))
 let LB:=stB (nth F.body 1)
 let st:List Nat×Option Nat→J→St:=fun a j=>⟨i0 GD (some (.m 0)) (some (.d (onD a.2))) j.1 j.2.1 j.2.2.1 none none none,σ1 (a.1.map aw) j.2.2.2⟩
 have hb:LB=[nth LB 0,nth LB 1]:=by kernel_rfl
 obtain ⟨j1,e1⟩:=jz (turn:=c9 (fx N) F.muts F.scope 19 (stT (nth F.body 1)) LB) gD st ly (fun i a=>a.1.length=i) G.reverse (fun i g a j _ hi inv=>by
  obtain ⟨acc,b⟩:=a
  rw [List.length_reverse] at hi
  replace inv:acc.length=_:=inv
  let j':J:=(some (.d (db g.1)),some (.d (.int g.2.1)),some (.d (.int g.2.2)),j.2.2.2+1)
  let ρ':Option Nat→Rho:=fun b=>(st (acc,b) j').ρ
  have h0:aj 4 (stT (nth F.body 1)) (gD g) (st (acc,b) j).ρ=some (ρ' b):=by kernel_rfl
  have go:∀m:Nat,dm (σ1 (acc.map aw) j.2.2.2) (.m 0) ("append":Str) [.d (aw m)]=some (.d .none,σ1 (acc.map aw++[aw m]) (j.2.2.2+1)):=fun m=>jy (acc.map aw) j.2.2.2 (aw m) (by rw [List.length_map];exact ak7 hl hi inv)
  have snoc:∀m:Nat,st (acc++[m],some m) j'=⟨ρ' (some m),σ1 (acc.map aw++[aw m]) (j.2.2.2+1)⟩:=fun m=>by simp only [st,cr];rfl
  refine ⟨⟨j',?_⟩,by show (acc++_).length=_;rw [List.length_append];exact congrArg (·+1) inv⟩
  cases b with
  |none=>
   have n:b8 (σ1 (acc.map aw) j.2.2.2) .Is (.d .none) (.d .none)=some true:=rfl
   show _=some (Fl.next,st (acc++[g.2.1],some g.2.1) j')
   rw [snoc]
   exact am h0 (a9 (.cons n (.cons (go g.2.1) .nil)) [.b true,.e (.d .none) (σ1 (acc.map aw++[aw g.2.1]) (j.2.2.2+1))] (by kernel_rfl))
  |some b=>
   let m:=if g.2.1<b then g.2.1 else b
   have n:b8 (σ1 (acc.map aw) j.2.2.2) .Is (.d (.int b)) (.d .none)=some false:=rfl
   have mn:builtin "min" (σ1 (acc.map aw) j.2.2.2) [.d (.int b),.d (.int g.2.1)]=some (.int m):=by
    rw [af5]
    show _=some (D.int ((if g.2.1<b then g.2.1 else b:Nat):Int))
    by_cases q:g.2.1<b
    ·rw [if_pos q,if_pos (by exact agt q)]
    ·rw [if_neg q,if_neg (by exact ajc q)]
   show _=some (Fl.next,st (acc++[m],some m) j')
   rw [snoc]
   exact am h0 (a9 (.cons n (.cons mn (.cons (go m) .nil))) [.b false,.v (.d (.int m)),.e (.d .none) (σ1 (acc.map aw++[aw m]) (j.2.2.2+1))] (by kernel_rfl))) ([],none) (none,none,none,1) rfl
 let a1:=G.reverse.foldl ly ([],none)
 let L:=a3v G
 let σ2:List Nat→Nat→Sto:=fun cs v=>⟨[.list (a1.1.map aw),.list (L.map aw),.list (cs.map aw)],v⟩
 let B:Option V:=some (.d (onD a1.2))
 let LC:=stB (nth F.body 4)
 let st2:List Nat×Nat→Option V×J→St:=fun a j=>⟨i0 GD (some (.m 1)) B j.2.1 j.2.2.1 j.2.2.2.1 (some (.m 2)) (some (.d (.int a.2))) j.1,σ2 a.1 j.2.2.2.2⟩
 have hc:LC=[nth LC 0,nth LC 1]:=by kernel_rfl
 have hL:L.length=G.length:=by
  show (G.reverse.foldl ly ([],none)).1.reverse.length=_
  rw [List.length_reverse,a28,List.length_reverse,List.length_nil,Nat.zero_add]
 obtain ⟨j2,e2⟩:=jz (turn:=c9 (fx N) F.muts F.scope 19 (stT (nth F.body 4)) LC) (fun p:Gr×Nat=>D.tuple [.int p.2,gD p.1]) st2 (a56 L) (fun i a=>a.1.length≤i) G.zipIdx (fun i p a j hp hi inv=>by
  obtain ⟨cs,r⟩:=a
  obtain ⟨g,k⟩:=p
  have hk:k<G.length:=by have:=List.snd_lt_of_mem_zipIdx hp;omega
  rw [List.length_zipIdx] at hi
  replace inv:cs.length≤_:=inv
  let ρ':Nat→Rho:=fun r=>i0 GD (some (.m 1)) B (some (.d (db g.1))) (some (.d (.int g.2.1))) (some (.d (.int g.2.2))) (some (.m 2)) (some (.d (.int r))) (some (.d (.int k)))
  let j':Nat→Option V×J:=fun v=>(some (.d (.int k)),some (.d (db g.1)),some (.d (.int g.2.1)),some (.d (.int g.2.2)),v)
  let v:=j.2.2.2.2
  have h0:aj 4 (stT (nth F.body 4)) (D.tuple [.int k,gD g]) (st2 (cs,r) j).ρ=some (ρ' r):=by kernel_rfl
  let low:=(L[k]?).getD 0
  have it:∀cs v,bx (σ2 cs v) (.m 1) (.d (.int k))=some (.d (aw low)):=fun cs v=>a72 (xs:=L.map aw) (n:=k) rfl (by rw [List.length_map];exact a3u (by exact aks hL hk)) (by rw [List.getElem?_map,dn L 0 (by exact aks hL hk:k<L.length)];rfl)
  have le:=a71 (σ2 cs v) r low
  let r':=if r<g.2.2 then g.2.2 else r
  have mx:∀cs v,builtin "max" (σ2 cs v) [.d (.int r),.d (.int g.2.2)]=some (.int r'):=fun cs v=>by
   rw [ae0]
   show _=some (D.int ((if r<g.2.2 then g.2.2 else r:Nat):Int))
   by_cases q:r<g.2.2
   ·rw [if_pos q,if_pos (by exact agt q)]
   ·rw [if_neg q,if_neg (by exact ajc q)]
  have ap:dm (σ2 cs v) (.m 2) ("append":Str) [.d (aw k)]=some (.d .none,⟨[.list (a1.1.map aw),.list (L.map aw),.list (cs.map aw++[aw k])],v+1⟩):=yj rfl (by rw [List.length_map];exact aek hl hi inv)
  have snoc:∀v,st2 (cs++[k],r') (j' v)=⟨ρ' r',⟨[.list (a1.1.map aw),.list (L.map aw),.list (cs.map aw++[aw k])],v⟩⟩:=fun v=>by simp only [st2,σ2,cr];rfl
  unfold a56
  cases q:decide (r≤low) with
  |true=>
   rw [q] at le
   refine ⟨⟨j' (v+1),?_⟩,by dsimp only;rw [if_pos (of_decide_eq_true q),List.length_append];exact Nat.add_le_add_right inv 1⟩
   dsimp only
   rw [if_pos (of_decide_eq_true q)]
   rw [snoc]
   have mx':=mx (cs++[k]) (v+1)
   simp only [σ2,cr] at mx'
   exact am h0 (a9 (.cons (it cs v) (.cons le (.cons ap (.cons mx' .nil)))) [.v (.d (aw low)),.b true,.e (.d .none) ⟨[.list (a1.1.map aw),.list (L.map aw),.list (cs.map aw++[aw k])],v+1⟩,.v (.d (.int r'))] (by kernel_rfl))
  |false=>
   rw [q] at le
   refine ⟨⟨j' v,?_⟩,by dsimp only;rw [if_neg (of_decide_eq_false q)];exact akw inv⟩
   dsimp only
   rw [if_neg (of_decide_eq_false q)]
   exact am h0 (a9 (.cons (it cs v) (.cons le (.cons (mx cs v) .nil))) [.v (.d (aw low)),.b false,.v (.d (.int r'))] (by kernel_rfl))) ([],0) (none,j1.1,j1.2.1,j1.2.2.1,j1.2.2.2+2) (Nat.le_refl _)
 rw [←lf gD G 0] at e2
 let s2:=st2 (G.zipIdx.foldl (a56 L) ([],0)) j2
 exact ab a0a (i0 GD none none none none none none none none) (by kernel_rfl) (.m 2) s2
  (.cons (lj gD G (σ1 [] 1)) (.cons e1 (.cons (lj aw a1.1 (σ1 (a1.1.map aw) j1.2.2.2)) (.cons e2 .nil))))
  [.e (.d (.list (G.reverse.map gD))) (σ1 [] 1),.l .next (st a1 j1),.e (.d (.list (L.map aw))) (σ1 (a1.1.map aw) j1.2.2.2),.l .next s2] (by kernel_rfl) (by kernel_rfl)
theorem xq{α β J:Type}{turn:D→St→Option (Fl×St)}(emb:β→D) (st:α→J→St) (f:α→β→α) (Inv:Nat→α→Prop) (xs:List β)
  (h:∀i x a j,xs[i]?=some x→i<xs.length→Inv i a→(∃j',turn (emb x) (st a j)=some (.next,st (f a x) j'))∧Inv (i+1) (f a x)) (a:α) (j:J) (h0:Inv 0 a):∃j',iu turn (xs.map emb) (st a j)=some (.next,st (xs.foldl f a) j'):=by
 have key:∀(l pre:List β) (a:α) (j:J),xs=pre++l→Inv pre.length a→∃j',iu turn (l.map emb) (st a j)=some (.next,st (l.foldl f a) j'):=by
  intro l
  induction l with
  |nil=>intro k a j _ _;exact⟨j,rfl⟩
  |cons x l ih=>
   intro pre a j hk hi
   refine bk (h pre.length x a j (by rw[hk];simp) (by rw[hk,List.length_append,List.length_cons];grind) hi) ?_;intro pq0 hi';obtain⟨j',e⟩:=pq0
   rw[List.map_cons,gr,e]
   exact ih (pre++[x]) (f a x) j' (by rw[hk,List.append_assoc];rfl) (by rw[List.length_append];exact hi')
 exact key xs [] a j rfl h0
theorem ac1 (xs ys:List D) (v:Nat) (h:xs.length+ys.length≤1000000):dm (σ1 xs v) (.m 0) ("extend":Str) [.d (.list ys)]=some (.d .none,σ1 (xs++ys) (v+1)):=abo rfl h
noncomputable def gg(G:List Gr)(s:Nat):List Pc:=G.map fun g=>⟨g.2.1,g.2.2,c7 g.1 s⟩
noncomputable def cp (G:List Gr):List El:=G.flatMap (·.1)
theorem yg:∀(G:List Gr) (a:List El),G.foldl (fun a g=>a++g.1) a=a++cp G
 |[],a=>(List.append_nil a).symm
 |g::G,a=>by rw[List.foldl_cons,yg G,List.append_assoc];rfl
theorem a78{G:List Gr}{k:Nat}(h:k<G.length)(g:Gr)(hg:G[k]?=some g):cp G=cp (G.take k)++(g.1++cp (G.drop (k+1)))∧cp (G.take (k+1))=cp (G.take k)++g.1:=by
 have e:=(List.getElem?_eq_some_iff.mp hg).2
 have d:G.drop k=g::G.drop (k+1):=by rw[List.drop_eq_getElem_cons h,e]
 constructor
 ·have h2:cp G=cp (G.take k++G.drop k):=by rw[List.take_append_drop]
  rw[h2,d];unfold cp;rw[List.flatMap_append,List.flatMap_cons]
 ·rw[List.take_succ,hg];unfold cp;rw[List.flatMap_append];show _++(g.1++[])=_;rw[List.append_nil]
theorem a7c (G:List Gr)(k:Nat):(cp (G.take k)).length≤(cp G).length:=by
 have e:cp G=cp (G.take k++G.drop k):=by rw[List.take_append_drop]
 rw[e];unfold cp;rw[List.flatMap_append,List.length_append];grind
theorem a9q{α β:Type}(φ:α→β)(d:α)(l:List α):((List.range l.length).map fun k=>φ ((l[k]?).getD d))=l.map φ:=by
 refine List.ext_getElem? fun k=>?_
 rw[List.getElem?_map,List.getElem?_map]
 by_cases h:k<l.length
 ·rw[List.getElem?_range h,List.getElem?_eq_getElem h]
  show some (φ ((l[k]?).getD d))=_
  rw[List.getElem?_eq_getElem h];rfl
 ·rw[List.getElem?_eq_none (by rw[List.length_range];exact ajz h),List.getElem?_eq_none (by exact ajz h)];rfl
theorem a62{α β γ:Type}(φ:γ→β) (ψ:List β×α→γ→α):∀(l:List γ) (p:List β×α),(l.foldl (fun p k=>(p.1++[φ k],ψ p k)) p).1=p.1++l.map φ
 |[],p=>(List.append_nil _).symm
 |x::l,p=>by rw[List.foldl_cons,a62 φ ψ l,List.append_assoc];rfl
theorem aa8{β:Type}(emb:β→D) (l:List β) (k:Nat) (g:β) (h:l[k]?=some g) (hk:k≤1000000) (σ:Sto):d3 (some (.list (l.map emb))) (some (k:Int)) (some ((k+1:Nat):Int)) none σ=some (.d (.list [emb g]),σ):=by
 have hl:=(List.getElem?_eq_some_iff.mp h)
 have e:l=l.take k++(g::l.drop (k+1)):=by
  refine ex1 hl ?_;clear hl;intro h1 h2
  rw[←h2,←List.drop_eq_getElem_cons h1,List.take_append_drop]
 unfold d3
 rw[Option.all_some,Option.all_some,ku (i:=(k:Int)) (by exact Int.natCast_nonneg _) (by exact om3 hk),ku (i:=((k+1:Nat):Int)) (by exact Int.natCast_nonneg _) (by exact al2 hk)]
 have c:cut (l.map emb) (some (k:Int)) (some ((k+1:Nat):Int))=[emb g]:=by
  rw[a35,e]
  have h3:(l.take k).length=k:=by rw[List.length_take];(refine ex1 hl ?_;clear hl;intro h1 _);exact amz h1
  rw[a7x (l.take k) (g::l.drop (k+1)) 1 _ _ (by rw[h3]) (by rw[h3];grind)]
  rfl
 show some (V.d (.list (cut (l.map emb) (some (k:Int)) (some ((k+1:Nat):Int)))),σ)=_
 rw[c]
theorem aa0 (pre suf:List El) (n:Nat) (rest:List El) (h:pre.length+n≤1000000) (hn:suf.length=n) (σ:Sto):d3 (some (.list ((pre++(suf++rest)).map wD))) (some (pre.length:Int)) (some ((pre.length+n:Nat):Int)) none σ=some (.d (.list (suf.map wD)),σ):=by
 unfold d3
 rw[Option.all_some,Option.all_some,ku (i:=(pre.length:Int)) (by exact Int.natCast_nonneg _) (by exact am3 h),ku (i:=((pre.length+n:Nat):Int)) (by exact Int.natCast_nonneg _) (by exact alp h)]
 show some (V.d (.list (cut _ (some (pre.length:Int)) (some ((pre.length+n:Nat):Int)))),σ)=_
 rw[a35,a7x pre (suf++rest) n _ _ rfl (by rfl),List.take_append,hn,Nat.sub_self,List.take_zero,List.append_nil,List.take_of_length_le (by exact Nat.le_of_eq (by assumption))]
theorem ael (n:Nat)(h:n≤1000000)(σ:Sto):builtin "sum" σ [.d (.list [.int n])]=some (.int n):=by
 have e:builtin "sum" σ [.d (.list [.int n])]=if fe 1&&[(n:Int)].all (fun i=>decide (0≤i)&&decide (i≤1000000))then some (.int [(n:Int)].sum)else none:=by kernel_rfl
 rw[e,List.all_cons,List.all_nil,decide_eq_true (by exact Int.natCast_nonneg _),decide_eq_true (by exact amv h)]
 show some (D.int ((n:Int)+0))=_
 rw[Int.add_zero]
noncomputable def TD(a b c d:D):D:=.inst "Elements" [("table",a),("longest",b),("factors",c),("bases",d)]
theorem vi (N:Nat) (a b c d dat:D) (t:D) (s:Nat) (G:List Gr) (hs:s≤3) (hG:G.length≤100) (hE:(cp G).length≤1000) (hc:a5q G=List.range G.length)
  (hloc:(fx (N+2)).pure (.meth "Elements" "located") [TD a b c d,t,dat]=some (.list (G.map gD))):
  (fx (N+3)).pure (.fn "search_pieces") [t,TD a b c d,dat,.int s,.str "non-ignorable"]=some (.list ((gg G s).map spD)):=by
 let F:=ae 37 ["elements","pieces"]
 let Φ:=fx (N+2)
 let LB:=stB (nth F.body 2)
 let T:=TD a b c d
 let GD:D:=.list (G.map gD)
 let JA:=Option V×Option V×Option V×Nat
 let st:List El→JA→St:=fun acc j=>⟨fu (some (.d t)) (some (.d T)) (some (.d dat)) (some (.d (.int s))) (some (.d (.str "non-ignorable"))) (some (.d GD)) (some (.m 0)) j.1 j.2.1 j.2.2.1 none none none none none none none none,σ1 (acc.map elD) j.2.2.2⟩
 have hb:LB=[nth LB 0]:=by kernel_rfl
 obtain ⟨j1,e1⟩:=xq (turn:=c9 Φ F.muts F.scope 19 (stT (nth F.body 2)) LB) gD st (fun acc g=>acc++g.1) (fun i acc=>acc=cp (G.take i)) G (fun i g acc j hg hi inv=>by
  refine bk (a78 hi g hg) ?_;intro _ q
  have bd:=a7c G (i+1)
  rw [q,List.length_append,←inv] at bd
  let j':JA:=(some (.d (db g.1)),some (.d (.int g.2.1)),some (.d (.int g.2.2)),j.2.2.2+1)
  have h0:aj 4 (stT (nth F.body 2)) (gD g) (st acc j).ρ=some (st acc j').ρ:=by kernel_rfl
  have ex:=ac1 (acc.map elD) (g.1.map elD) j.2.2.2 (by rw [List.length_map,List.length_map];exact agj hE bd)
  have snoc:st (acc++g.1) j'=⟨(st acc j').ρ,σ1 (acc.map elD++g.1.map elD) (j.2.2.2+1)⟩:=by simp only [st,List.map_append];rfl
  refine ⟨⟨j',?_⟩,by rw [q,inv]⟩
  rw [snoc]
  exact am h0 (dh hb (a8 (.cons ex .nil) [.e (.d .none) (σ1 (acc.map elD++g.1.map elD) (j.2.2.2+1))] (by kernel_rfl)))) [] (none,none,none,1) rfl
 rw [yg,List.nil_append] at e1
 let E:=cp G
 let WD:D:=.list (E.map wD)
 let n:=G.length
 let CD:D:=.list ((List.range (n+1)).map aw)
 let LC:=stB (nth F.body 5)
 let JB:=Option V×Option V×Option V×Option V×Nat
 let σ2:List D→Nat→Sto:=fun l v=>⟨[.frozen (.list (E.map elD)),.list l],v⟩
 let st2:List Pc×Nat→JB→St:=fun p j=>⟨fu (some (.d t)) (some (.d T)) (some (.d dat)) (some (.d (.int s))) (some (.d (.str "non-ignorable"))) (some (.d GD)) (some (.m 0)) j1.1 j1.2.1 j1.2.2.1 (some (.d WD)) (some (.d (.int p.2))) (some (.m 1)) (some (.d CD)) j.1 j.2.1 j.2.2.1 j.2.2.2.1,σ2 (p.1.map spD) j.2.2.2.2⟩
 let f:List Pc×Nat→Nat→List Pc×Nat:=fun p k=>let g:=(G[k]?).getD ([],0,0);(p.1++[⟨g.2.1,g.2.2,c7 g.1 s⟩],p.2+g.1.length)
 have ci:∀k,k≤n→∀σ,bx σ (.d CD) (.d (.int (k:Nat)))=some (.d (.int k)):=fun k hk σ=>ay aw (List.range (n+1)) k k (by rw [List.getElem?_range (by exact Nat.succ_le_succ (by assumption))]) σ
 obtain ⟨j2,e2⟩:=ji (turn:=c9 Φ F.muts F.scope 19 (stT (nth F.body 5)) LC) n (fun i=>D.int ((i:Nat):Int)) st2 f (fun k p=>p.2=(cp (G.take k)).length∧p.1.length=k) (fun k p j hk inv=>by
  obtain ⟨acc,at_⟩:=p
  refine bk inv ?_;clear inv;intro i1 i2
  replace i2:acc.length=k:=i2
  have hg:=dn G ([],0,0) hk
  let g:=(G[k]?).getD ([],0,0)
  refine bk (a78 hk g hg) ?_;intro q1 q2
  have bd:=a7c G (k+1)
  rw [q2,List.length_append] at bd
  let v:=j.2.2.2.2
  let σ:=σ2 (acc.map spD) v
  let pt:D:=.list [gD g]
  let pl:D:=.tuple [.int g.2.1,.int g.2.2]
  let j':JB:=(some (.d (.int k)),some (.d pt),some (.d (.int g.1.length)),some (.d pl),v+1)
  let piece:Pc:=⟨g.2.1,g.2.2,c7 g.1 s⟩
  let ρ1:Option V→Option V→Rho:=fun m p=>fu (some (.d t)) (some (.d T)) (some (.d dat)) (some (.d (.int s))) (some (.d (.str "non-ignorable"))) (some (.d GD)) (some (.m 0)) j1.1 j1.2.1 j1.2.2.1 (some (.d WD)) (some (.d (.int at_))) (some (.m 1)) (some (.d CD)) (some (.d (.int k))) (some (.d pt)) m p
  have h0:aj 4 (stT (nth F.body 5)) (.int k) (st2 (acc,at_) j).ρ=some (st2 (acc,at_) (some (.d (.int k)),j.2.1,j.2.2.1,j.2.2.2.1,v)).ρ:=by kernel_rfl
  have r1:fe [gD g].length=true:=rfl
  have c1:be (bq Φ 38 (ρ1 j.2.2.1 j.2.2.2.1) 0 (sub (stE (nth LC 1)) 1)) [gD g] σ=some ([.int g.1.length],σ):=bn gD (fun g=>.int g.1.length) [g] fun g _=>b6 (.cons (aq elD g.1 σ) .nil) [.v (.d (.int g.1.length))] (by kernel_rfl)
  have c2:be (bq Φ 37 (ρ1 (some (.d (.int g.1.length))) j.2.2.2.1) 0 (sub (sub (stE (nth LC 2)) 0) 1)) [gD g] σ=some ([.int g.2.1],σ):=bn gD (fun g=>.int g.2.1) [g] fun g _=>b6 .nil [] (by kernel_rfl)
  have c3:be (bq Φ 37 (ρ1 (some (.d (.int g.1.length))) j.2.2.2.1) 0 (sub (sub (stE (nth LC 2)) 1) 1)) [gD g] σ=some ([.int g.2.2],σ):=bn gD (fun g=>.int g.2.2) [g] fun g _=>b6 .nil [] (by kernel_rfl)
  have mn:builtin "min" σ [.d (.list [.int g.2.1])]=some (.int g.2.1):=by kernel_rfl
  have mx:builtin "max" σ [.d (.list [.int g.2.2])]=some (.int g.2.2):=by kernel_rfl
  replace i1:at_=_:=i1
  have sl:=aa0 (cp (G.take k)) g.1 g.1.length (cp (G.drop (k+1))) (by exact agj hE bd) rfl σ
  rw [←q1,←i1] at sl
  have ap:dm σ (.m 1) ("append":Str) [.d (spD piece)]=some (.d .none,σ2 (acc.map spD++[spD piece]) (v+1)):=yj rfl (by rw [List.length_map];omega)
  have snoc:st2 (acc++[piece],at_+g.1.length) j'=⟨(st2 (acc++[piece],at_+g.1.length) j').ρ,σ2 (acc.map spD++[spD piece]) (v+1)⟩:=by simp only [st2,cr];rfl
  refine ⟨⟨j',?_⟩,⟨by show at_+g.1.length=_;rw [q2,List.length_append,i1],by show (acc++_).length=_;rw [List.length_append,i2];rfl⟩⟩
  show _=some (Fl.next,st2 (acc++[piece],at_+g.1.length) j')
  rw [snoc]
  exact am h0 (a9 (.cons (ci k (by exact Nat.le_of_lt (by assumption)) σ) (.cons (ci (k+1) (by assumption) σ) (.cons (aa8 gD G k g hg (by omega) σ) (.cons r1 (.cons c1 (.cons (ael g.1.length (by exact aj2 hE bd) σ) (.cons r1 (.cons c2 (.cons mn (.cons r1 (.cons c3 (.cons mx
   (.cons sl (.cons (lx (N+1) g.1 s (by exact aoq hE bd) hs) (.cons (ym (N+1) piece) (.cons ap .nil))))))))))))))))
   [.v (.d (.int k)),.v (.d (.int (k+1:Nat))),.e (.d pt) σ,.c [.int g.1.length],.v (.d (.int g.1.length)),.c [.int g.2.1],.v (.d (.int g.2.1)),.c [.int g.2.2],.v (.d (.int g.2.2)),
    .e (.d (.list (g.1.map wD))) σ,.v (.d (cq (c7 g.1 s))),.v (.d (spD piece)),.e (.d .none) (σ2 (acc.map spD++[spD piece]) (v+1))] (by kernel_rfl))) ([],0) (none,none,none,none,j1.2.2.2+2) ⟨rfl,rfl⟩
 have e3:((List.range n).foldl f ([],0)).1=gg G s:=(a62 (fun k=>(⟨((G[k]?).getD ([],0,0)).2.1,((G[k]?).getD ([],0,0)).2.2,c7 ((G[k]?).getD ([],0,0)).1 s⟩:Pc)) (fun p k=>p.2+((G[k]?).getD ([],0,0)).1.length) (List.range n) ([],0)).trans (a9q (fun g:Gr=>(⟨g.2.1,g.2.2,c7 g.1 s⟩:Pc)) ([],0,0) G)
 generalize (List.range n).foldl f ([],0)=p2 at e2 e3
 obtain ⟨P2,at2⟩:=p2
 replace e3:P2=_:=e3
 subst e3
 have we:=vr (N+1) E (by show (cp G).length≤_;exact ajp hE)
 have cu:=y7 (N+1) G (by exact Nat.le_trans (by assumption) (by decide))
 rw [hc] at cu
 have lg:∀σ,builtin "len" σ [.d GD]=some (.int n):=aq gD G
 have ct:f9 .Add (.list ((List.range n).map aw)) (.list [.int n])=some CD:=(adh (by rw [List.length_map,List.length_range];show n+1≤_;omega)).trans (by show _=some (D.list ((List.range (n+1)).map aw));rw [List.range_succ,List.map_append];rfl)
 have lc:∀σ,builtin "len" σ [.d CD]=some (.int (n+1:Nat)):=fun σ=>(aq aw (List.range (n+1)) σ).trans (by rw [List.length_range])
 let σE:=σ1 (E.map elD) j1.2.2.2
 let σF:=σ2 [] (j1.2.2.2+2)
 have rg:a37 [.d (.int (((n+1:Nat):Int)-1))] σF=some (((List.range n).map fun i=>D.int ((i:Nat):Int),false),σF):=by
  have:=jv (s:=n) (by show G.length≤_;exact ahf hG) σF
  rw [show ((n:Nat):Int)=((n+1:Nat):Int)-1 by grind] at this
  exact this
 exact ab wo (fu (some (.d t)) (some (.d T)) (some (.d dat)) (some (.d (.int s))) (some (.d (.str "non-ignorable"))) none none none none none none none none none none none none none) (by kernel_rfl) (.m 1) (st2 (gg G s,at2) j2)
  (.cons hloc (.cons e1 (.cons we (.cons cu (.cons (lg σF) (.cons ct (.cons (lc σF) (.cons rg (.cons e2 .nil)))))))))
  [.v (.d GD),.l .next (st E j1),.v (.d WD),.v (.d (.list ((List.range n).map aw))),.v (.d (.int n)),.v (.d CD),.v (.d (.int (n+1:Nat))),.c ((List.range n).map fun i=>D.int ((i:Nat):Int)),.l .next (st2 (gg G s,at2) j2)] (by kernel_rfl) (by kernel_rfl)
theorem ur (N:Nat) (a b c d dat p:D) (s:Nat) (es:List El) (hs:s≤3) (he:es.length≤1000) (hel:(fx (N+1)).pure (.meth "Elements" "elements_of") [TD a b c d,p,dat]=some (db es)):
  (fx (N+2)).pure (.fn "search_wanted") [p,TD a b c d,dat,.int s,.str "non-ignorable"]=some (cq (c7 es s)):=by
 let ρ:=wk (some (.d p)) (some (.d (TD a b c d))) (some (.d dat)) (some (.d (.int s))) (some (.d (.str "non-ignorable")))
 exact ab x4 ρ (by kernel_rfl) (.d (cq (c7 es s))) ⟨ρ,σ0⟩ (.cons hel (.cons (vr N es (by exact Nat.le_trans (by assumption) (by decide))) (.cons (lx N es s (by exact Nat.le_trans (by assumption) (by decide)) hs) .nil))) [.v (.d (db es)),.v (.d (.list (es.map wD))),.v (.d (cq (c7 es s)))] (by kernel_rfl) (by kernel_rfl)
noncomputable def a6w (k:Nat):D×V:=(.int k,.d (.bool true))
noncomputable def abi(k:Nat):D×D:=(.int k,.bool true)
noncomputable def p9 (ks:List Nat):D:=.dict .int (ks.map abi)
noncomputable def o0 (br:Nat→Bool)(ks:List Nat)(i:Nat):List Nat:=if br (1+i)then ks++[1+i]else ks
noncomputable def o3 (br:Nat→Bool) (n:Nat):List Nat:=(List.range (n-1)).foldl (o0 br) [0,n]
theorem un (f:Sto→V→Option (D×Sto)) (hf:∀σ x,f σ (.d x)=some (x,σ)):∀(ks:List Nat) (σ:Sto),kn f (ks.map a6w) σ=some (ks.map abi,σ)
 |[],σ=>rfl
 |k::ks,σ=>by
  show(f σ (.d (.bool true))).bind _=_
  rw[hf]
  show(kn f (ks.map a6w) σ).map _=_
  rw[un f hf ks σ];rfl
theorem oh{β:Type}(k:D) (v:β):∀l:List (D×β),(∀p∈l,D.beq p.1 k=false)→setKey k v l=l++[(k,v)]
 |[],_=>rfl
 |(k',v')::l,h=>by
  show(if D.beq k' k then(k',v)::l else(k',v')::setKey k v l)=_
  rw[h (k',v') (.head _),oh k v l fun p hp=>h p (.tail _ hp)];rfl
theorem a97 (a b:Nat):D.beq (.int a) (.int b)=decide (a=b):=by
 show((a:Int)==(b:Int))=_
 rw[Bool.eq_iff_iff,beq_iff_eq,decide_eq_true_iff];grind
theorem zh (br:Nat→Bool) (n:Nat):∀i,∀k∈(List.range i).foldl (o0 br) [0,n],k<1+i∨k=n
 |0,k,h=>by
  rcases List.mem_cons.mp h with rfl|h
  ·exact .inl (by exact Nat.le_refl _)
  ·exact .inr (List.mem_singleton.mp h)
 |i+1,k,h=>by
  rw [List.range_succ,List.foldl_append]at h
  replace h:k∈o0 br ((List.range i).foldl (o0 br) [0,n]) i:=h
  unfold o0 at h
  split at h
  ·rcases List.mem_append.mp h with h|h
   ·rcases zh br n i k h with h|h<;>omega
   ·rw [List.mem_singleton.mp h];grind
  ·rcases zh br n i k h with h|h<;>omega
noncomputable def stG:Stmt→Expr
 |.Assign [t] _ _=>t
 |_=>.Constant .none 0 ⟨0,0,0,0⟩
theorem a68{σ:Sto}{i:Nat}{kd kd':Kd}{kvs:List (D×V)}{k:D}{v:V}(h:σ.objs[i]?=some (.dict kd kvs)) (hr:kvs.length≤1000000) (ht:kd.takes k=some kd'):i6 σ (.m i) (.d k) v=some (σ.put i (.dict kd' (setKey k v kvs))):=by
 unfold i6
 dsimp only
 rw[h]
 show(if fe kvs.length=true then(kd.takes k).map fun kd'=>σ.put i (.dict kd' (setKey k v kvs))else none)=_
 rw[if_pos (a2m hr),ht];rfl
theorem yl (N:Nat) (t:List Int) (dat:D) (br:Nat→Bool) (h1:1≤t.length) (ht:t.length≤100) (hb:∀i,1≤i→i<t.length→(fx N).pure (.fn "cluster_break") [al t,.int i,dat]=some (.bool (br i))):
  (fx (N+1)).pure (.fn "search_ends") [al t,dat]=some (p9 (o3 br t.length)):=by
 let F:=ae 39
 let LB:=stB (nth F.body 1)
 let σd:List Nat→Nat→Sto:=fun ks v=>⟨[.dict .int (ks.map a6w)],v⟩
 let st:List Nat→Option V×Nat→St:=fun ks j=>⟨fk (some (.d (al t))) (some (.d dat)) (some (.m 0)) j.1,σd ks j.2⟩
 have hbd:LB=[nth LB 0]:=by kernel_rfl
 have hd:evE (fx N) 40 F.scope (fk (some (.d (al t))) (some (.d dat)) none none) (stE (nth F.body 0)) σ0=some (.m 0,σd [0,t.length] 1):=by
  have key:∀xs:List D,1≤xs.length→evE (fx N) 40 F.scope (fk (some (.d (.list xs))) (some (.d dat)) none none) (stE (nth F.body 0)) σ0=some (.m 0,σd [0,xs.length] 1):=fun xs h=>by
   cases xs with
   |nil=>cases h
   |cons x xs=>kernel_rfl
  have:=key (t.map .int) (by rw [List.length_map];exact h1)
  rw [List.length_map] at this
  exact this
 obtain ⟨j',e⟩:=ji (turn:=c9 (fx N) F.muts F.scope 19 (stT (nth F.body 1)) LB) (t.length-1) (fun i=>D.int ((1+i:Nat):Int)) st (o0 br) (fun i ks=>ks=(List.range i).foldl (o0 br) [0,t.length]) (fun i ks j hi inv=>by
  have hm:∀k∈ks,k<1+i∨k=t.length:=inv▸zh br t.length i
  have hkl:ks.length≤2+i:=by
   rw [inv]
   have:∀i,((List.range i).foldl (o0 br) [0,t.length]).length≤2+i:=by
    intro i
    induction i with
    |zero=>exact Nat.le_refl _
    |succ i ih=>
     rw [List.range_succ,List.foldl_append]
     show (o0 br _ i).length≤_
     unfold o0
     split
     ·rw [List.length_append];exact Nat.succ_le_succ ih
     ·exact Nat.le_succ_of_le ih
   exact this i
  let ρ':Rho:=fk (some (.d (al t))) (some (.d dat)) (some (.m 0)) (some (.d (.int (1+i:Nat))))
  have h0:aj 4 (stT (nth F.body 1)) (.int (1+i:Nat)) (st ks j).ρ=some ρ':=by kernel_rfl
  have cb:=hb (1+i) (by exact Nat.le_add_right _ _) (by exact akk hi)
  have nx:(List.range (i+1)).foldl (o0 br) [0,t.length]=o0 br ks i:=by rw [List.range_succ,List.foldl_append,←inv];rfl
  cases q:br (1+i) with
  |false=>
   rw [q] at cb
   refine ⟨⟨(some (.d (.int (1+i:Nat))),j.2),?_⟩,nx.symm⟩
   unfold o0
   rw [q]
   exact am h0 (dh hbd (a8 (.cons cb .nil) [.v (.d (.bool false))] (by kernel_rfl)))
  |true=>
   rw [q] at cb
   let s':St:=st (ks++[1+i]) (some (.d (.int (1+i:Nat))),j.2+1)
   have sk:setKey (D.int (1+i:Nat)) (V.d (.bool true)) (ks.map a6w)=(ks++[1+i]).map a6w:=by
    rw [oh]
    ·rw [cr];rfl
    ·intro p hp
     refine ar (List.mem_map.mp hp) ?_;intro k hk rf2;subst rf2
     show D.beq (.int k) (.int (1+i:Nat))=false
     rw [a97]
     exact decide_eq_false (by rcases hm k hk with h|h<;>omega)
   have g1:(ch (fx N) 40 F.scope (stG (nth (stB (nth LB 0)) 0)) (.d (.bool true)) ⟨ρ',σd ks j.2⟩).map (fun s=>((.next,s):Fl×St))=((i6 (σd ks j.2) (.m 0) (.d (.int (1+i:Nat))) (.d (.bool true))).map fun σ=>(⟨ρ',σ⟩:St)).map (fun s=>((.next,s):Fl×St)):=by kernel_rfl
   have st1:(ch (fx N) 40 F.scope (stG (nth (stB (nth LB 0)) 0)) (.d (.bool true)) ⟨ρ',σd ks j.2⟩).map (fun s=>((.next,s):Fl×St))=some (.next,s'):=by
    rw [g1,a68 (σ:=σd ks j.2) (i:=0) rfl (by rw [List.length_map];exact aol ht hi hkl) (rfl:Kd.takes .int (D.int (1+i:Nat))=some .int),sk];rfl
   refine ⟨⟨(some (.d (.int (1+i:Nat))),j.2+1),?_⟩,nx.symm⟩
   unfold o0
   rw [q]
   exact am h0 (dh hbd (a8 (.cons cb (.cons st1 .nil)) [.v (.d (.bool true)),.l .next s'] (by kernel_rfl)))) [0,t.length] (none,1) rfl
 let E:=o3 br t.length
 have hfin:(toD (σd E j'.2) (norm (σd E j'.2) (.m 0))).map (·.1)=some (p9 E):=by
  have:kn (oz 7) (E.map a6w) (σd E j'.2)=_:=un (oz 7) (fun σ x=>rfl) E (σd E j'.2)
  show ((kn (oz 7) (E.map a6w) (σd E j'.2)).bind _).map _=_
  rw [this];rfl
 exact ab a06 (fk (some (.d (al t))) (some (.d dat)) none none) (by kernel_rfl) (.m 0) (st E j') (.cons hd (.cons (i9 t (σd [0,t.length] 1)) (.cons (uw 1 t.length (by exact Nat.succ_pos _) (by exact Nat.le_trans (by assumption) (by decide)) (σd [0,t.length] 1)) (.cons e .nil))))
  [.e (.m 0) (σd [0,t.length] 1),.v (.d (.int t.length)),.c ((List.range (t.length-1)).map fun i=>D.int ((1+i:Nat):Int)),.l .next (st E j')] (by kernel_rfl) hfin
noncomputable def a2x (Φ:Fx)(n:Nat)(ρ:Rho)(ver:Nat):Expr→D→Sto→Option (Option D×Sto)
 |.ListComp elt [⟨target,_,ifs,_⟩] csc _=>nu Φ n csc ρ elt target ifs true ver
 |_=>fun _ _=>none
theorem aab{Φ:Fx}{n:Nat}{csc:Scope}{ρ:Rho}{elt target:Expr}{ifs:List Expr}{ver:Nat}{x:D}{σ:Sto}{r:Option D}{σ':Sto}(h:nu Φ n csc ρ elt target ifs false ver x σ=some (r,σ'))(hv:σ'.ver=ver):nu Φ n csc ρ elt target ifs true ver x σ=some (r,σ'):=by
 unfold nu at h ⊢
 refine bj h ?_;clear h;intro ρc h1 h
 refine bj h ?_;clear h;intro t h2 h
 refine Option.bind_eq_some_iff.mpr ⟨ρc,h1,Option.bind_eq_some_iff.mpr ⟨t,h2,?_⟩⟩
 cases q:t.1 with
 |true=>
  rw[q]at h
  refine bj h ?_;clear h;intro u h3 h
  refine bj h ?_;clear h;intro w h4 h
  cases h
  refine Option.bind_eq_some_iff.mpr ⟨u,h3,Option.bind_eq_some_iff.mpr ⟨w,h4,?_⟩⟩
  rw[hv]
  simp
 |false=>
  rw[q]at h
  cases h
  rw[hv]
  simp
theorem a91{Φ:Fx}{n:Nat}{ρ:Rho}{ver:Nat}{e:Expr}{x:D}{σ:Sto}{r:Option D}{σ':Sto}(h:bq Φ n ρ ver e x σ=some (r,σ'))(hv:σ'.ver=ver):a2x Φ n ρ ver e x σ=some (r,σ'):=by
 cases e with
 |ListComp elt gens csc p=>cases gens with
  |nil=>exact no h
  |cons g gs=>cases g with
   |mk t i ifs a=>cases gs with
    |nil=>exact aab h hv
    |cons=>exact no h
 |_=>exact no h
noncomputable def qi{α β:Type}(g:α→β→α ⊕ D):List β→α→α ⊕ D
 |[],a=>.inl a
 |x::l,a=>match g a x with|.inl a'=>qi g l a'|.inr r=>.inr r
noncomputable def a8t{α J:Type}(st:α→J→St)(Inv:α→Prop)(o:Option (Fl×St)):α ⊕ D→Prop
 |.inl a=>(∃j,o=some (.next,st a j))∧Inv a
 |.inr r=>∃s,o=some (.ret (.d r),s)
theorem a9k{α β J:Type}{turn:D→St→Option (Fl×St)}(emb:β→D) (st:α→J→St) (g:α→β→α ⊕ D) (Inv:Nat→α→Prop) (xs:List β)
  (h:∀i x a j,xs[i]?=some x→i<xs.length→Inv i a→a8t st (Inv (i+1)) (turn (emb x) (st a j)) (g a x)) (a:α) (j:J) (h0:Inv 0 a):a8t st (fun _=>True) (iu turn (xs.map emb) (st a j)) (qi g xs a):=by
 have key:∀(l pre:List β) (a:α) (j:J),xs=pre++l→Inv pre.length a→a8t st (fun _=>True) (iu turn (l.map emb) (st a j)) (qi g l a):=by
  intro l
  induction l with
  |nil=>intro pre a j _ _;exact⟨⟨j,rfl⟩,trivial⟩
  |cons x l ih=>
   intro pre a j hk hi
   have t:=h pre.length x a j (by rw[hk];simp) (by rw[hk,List.length_append,List.length_cons];grind) hi
   show a8t st _ _ (match g a x with|.inl a'=>qi g l a'|.inr r=>.inr r)
   cases q:g a x with
   |inl a'=>
    rw[q]at t
    obtain⟨⟨j',e⟩,hi'⟩:=t
    rw[List.map_cons,gr,e]
    exact ih (pre++[x]) a' j' (by rw[hk,List.append_assoc];rfl) (by rw[List.length_append];exact hi')
   |inr r=>
    rw[q]at t
    obtain⟨s,e⟩:=t
    rw[List.map_cons,gr,e]
    exact⟨s,rfl⟩
 exact key xs [] a j rfl h0
noncomputable def a4y (acc:Lv)(p:List Int×Nat):Lv:=acc.set p.2 (((acc[p.2]?).getD [])++p.1)
theorem a5z:∀(A B pre:Lv),A.length=B.length→(B.zipIdx pre.length).foldl a4y (pre++A)=pre++bf A B
 |[],[],pre,_=>rfl
 |[],_::_,_,h=>nomatch h
 |_::_,[],_,h=>nomatch h
 |a::A,b::B,pre,h=>by
  rw[List.zipIdx_cons,List.foldl_cons]
  have e:a4y (pre++a::A) (b,pre.length)=(pre++[a++b])++A:=by
   unfold a4y
   dsimp only
   rw[List.getElem?_append_right (Nat.le_refl _),Nat.sub_self,List.set_append_right _ _ (Nat.le_refl _),Nat.sub_self,List.append_assoc]
   rfl
  rw[e]
  have:=a5z A B (pre++[a++b]) (Nat.succ.inj h)
  rw[List.length_append]at this
  exact this.trans (by rw[List.append_assoc];rfl)
theorem a60 (L:List D) (rest:List MO) (xs:List D) (i v:Nat) (hi:i<L.length):
  i6 ⟨MO.list L::(rest++[MO.list xs]),v⟩ (.m 0) (.d (.int i)) (.m (rest.length+1))=some ⟨MO.list (L.set i (.list xs))::(rest++[MO.frozen (.list xs)]),v+2⟩:=by
 let σ:Sto:=⟨MO.list L::(rest++[MO.list xs]),v⟩
 have h0:σ.objs[rest.length+1]?=some (.list xs):=by
  show(rest++[MO.list xs])[rest.length]?=_
  rw[List.getElem?_append_right (Nat.le_refl _),Nat.sub_self];rfl
 have h1:=abt h0
 have h2:σ.put (rest.length+1) (.frozen (.list xs))=⟨MO.list L::(rest++[MO.frozen (.list xs)]),v+1⟩:=by
  show(⟨MO.list L::(rest++[MO.list xs]).set rest.length (.frozen (.list xs)),v+1⟩:Sto)=_
  rw[List.set_append_right _ _ (Nat.le_refl _),Nat.sub_self];rfl
 rw[h2]at h1
 show((toD σ (.m (rest.length+1))).bind fun p=>match p.2.objs[0]? with|some (MO.list ys)=>(if 0≤(i:Int)∧(i:Int)<ys.length then some (p.2.put 0 (.list (ys.set (i:Int).toNat p.1)))else none)|_=>none)=_
 rw[h1]
 show(if 0≤(i:Int)∧(i:Int)<L.length then some (⟨MO.list (L.set i (.list xs))::(rest++[MO.frozen (.list xs)]),v+1+1⟩:Sto)else none)=_
 rw[if_pos (by exact aoi hi)]
noncomputable def dq (A w:Lv):Bool:=A.zipIdx.all fun p=>cx p.1 ((w[p.2]?).getD [])
noncomputable def ad3(low high:Nat):D:=.tuple [.int low,.int high]
noncomputable def qh (P:List Pc)(w:Lv)(low:Nat)(A:Lv)(i:Nat):Lv ⊕ D:=
 let A':=bf A ((P[low+i]?).getD ⟨0,0,[]⟩).lv
 if A'=w then .inr (ad3 low (low+i+1))else if dq A' w then .inl A' else .inr .none
noncomputable def bare(w:Lv):Lv:=w.map fun _=>[]
noncomputable def uf (P:List Pc) (w:Lv) (low:Nat):D:=if ax P low then .none else
 match qi (qh P w low) (List.range (P.length-low)) (bare w)with|.inl _=>.none|.inr r=>r
theorem a17{β:Type}(f:β→Bool):∀(l:List β),mj (l.map fun x=>D.bool (f x))=some (l.map f)
 |[]=>rfl
 |x::l=>by
  show(mj (l.map fun x=>D.bool (f x))).map _=_
  rw[a17 f l];rfl
theorem ug (N:Nat) (P:List Pc) (w:Lv) (low:Nat) (hP:j3 P) (hw:w.length≤10) (hlv:∀p∈P,p.lv.length=w.length) (hl:low<P.length):
  (fx (N+2)).pure (.fn "search_stretch") [.list (P.map spD),.int low,cq w]=some (uf P w low):=by
 let F:=ae 41 ["levels"]
 let Φ:=fx (N+1)
 let PD:D:=.list (P.map spD)
 let ρ:=ux (some (.d PD)) (some (.d (.int low))) (some (.d (cq w)))
 have hp:=dn P ⟨0,0,[]⟩ hl
 let p0:=(P[low]?).getD ⟨0,0,[]⟩
 have hid:Φ.pure (.meth "SearchPiece" "is_idle") [spD p0]=some (.bool (cw p0.lv)):=y6 N p0 (by rw [hlv p0 (List.mem_of_getElem? hp)];exact amq hw)
 unfold uf
 cases q:ax P low with
 |true=>
  rw [show cw p0.lv=true from q] at hid
  exact ab gu (ρ none none none none) (by kernel_rfl) (.d .none) ⟨ρ none none none none,σ0⟩ (.cons (ay spD P low p0 hp σ0) (.cons hid .nil)) [.v (.d (spD p0)),.v (.d (.bool true))] (by kernel_rfl) (by kernel_rfl)
 |false=>
  rw [show cw p0.lv=false from q] at hid
  let LB:=stB (nth F.body 2)
  let IB:=stB (nth LB 0)
  have hb:LB=[nth LB 0,nth LB 1,nth LB 2]:=by kernel_rfl
  have hib:IB=[nth IB 0]:=by kernel_rfl
  have c0:be (bq Φ 38 (ρ none none none none) 0 (stE (nth F.body 1))) (w.map lvD) σ0=some ((bare w).map lvD,σ0):=by
   show _=some ((w.map fun _=>[]).map lvD,σ0)
   rw [List.map_map]
   exact bn lvD _ w fun l _=>b6 .nil [] (by kernel_rfl)
  let J:=Option V×Option V×Option V×List MO×Nat
  let st:Lv→J→St:=fun A j=>⟨ρ (some (.m 0)) j.1 j.2.1 j.2.2.1,⟨.list (A.map lvD)::j.2.2.2.1,j.2.2.2.2⟩⟩
  have inner:∀(A:Lv) (p:Pc) (j:J),A.length=w.length→p.lv.length=w.length→(∀l∈A,l.length≤500)→(∀l∈p.lv,l.length≤10)→∃j':J,j'.1=j.1∧iu (c9 Φ F.muts F.scope 18 (stT (nth LB 0)) IB) (gj 0 (p.lv.map lvD)) (st A j)=some (.next,st (bf A p.lv) j'):=by
   intro A p j hA hpl bA bp
   have e:=xq (turn:=c9 Φ F.muts F.scope 18 (stT (nth LB 0)) IB) (fun p:List Int×Nat=>D.tuple [.int p.2,lvD p.1]) (fun acc (j':{j':J // j'.1=j.1})=>st acc j'.1) a4y (fun i acc=>acc.length=w.length∧∀l∈acc,l.length≤500+10*i) p.lv.zipIdx (fun i x acc jj hx hi inv=>by
    obtain ⟨⟨j0,ja,jm,rest,v⟩,hj⟩:=jj
    obtain ⟨l,k⟩:=x
    have hlm:l∈p.lv:=List.fst_mem_of_mem_zipIdx (List.mem_of_getElem? hx)
    have hk:k<acc.length:=by have:=List.snd_lt_of_mem_zipIdx (List.mem_of_getElem? hx);lia
    have hki:=dn acc [] hk
    rw [List.length_zipIdx] at hi
    let a:=(acc[k]?).getD []
    have ba:=inv.2 a (List.mem_of_getElem? hki)
    have bl:=bp l hlm
    let ρ':=ρ (some (.m 0)) j0 (some (.d (.int k))) (some (.d (lvD l)))
    have h0:aj 4 (stT (nth LB 0)) (D.tuple [.int k,lvD l]) (st acc (j0,ja,jm,rest,v)).ρ=some ρ':=by kernel_rfl
    let σ:Sto:=⟨.list (acc.map lvD)::rest,v⟩
    have it:bx σ (.m 0) (.d (.int k))=some (.d (lvD a)):=a72 (xs:=acc.map lvD) (n:=k) rfl (by rw [List.length_map];exact a3u hk) (by rw [List.getElem?_map,hki];rfl)
    have ct:=abg (a:=a) (b:=l) (by grind)
    let j1:J:=(j0,some (.d (.int k)),some (.d (lvD l)),rest++[.frozen (lvD (a++l))],v+3)
    let s':=st (a4y acc (l,k)) j1
    have g1:(ch Φ 40 F.scope (stG (nth IB 0)) (.m (rest.length+1)) ⟨ρ',⟨MO.list (acc.map lvD)::(rest++[MO.list ((a++l).map .int)]),v+1⟩⟩).map (fun s=>((.next,s):Fl×St))=((i6 ⟨MO.list (acc.map lvD)::(rest++[MO.list ((a++l).map .int)]),v+1⟩ (.m 0) (.d (.int k)) (.m (rest.length+1))).map fun σ=>(⟨ρ',σ⟩:St)).map (fun s=>((.next,s):Fl×St)):=by kernel_rfl
    rw [a60 (acc.map lvD) rest ((a++l).map .int) k (v+1) (by rw [List.length_map];exact hk),show (acc.map lvD).set k (.list ((a++l).map .int))=(a4y acc (l,k)).map lvD from (List.map_set ..).symm] at g1
    refine ⟨⟨⟨j1,hj⟩,?_⟩,?_⟩
    ·exact am h0 (dh hib (a8 (.cons it (.cons ct (.cons g1 .nil))) [.v (.d (lvD a)),.v (.d (lvD (a++l))),.l .next s'] (by kernel_rfl)))
    ·refine ⟨by unfold a4y;rw [List.length_set];exact inv.1,fun l' hl'=>?_⟩
     rcases List.mem_or_eq_of_mem_set hl' with h|h
     ·have:=inv.2 l' h;exact ajj this
     ·rw [h]
      show (a++l).length≤_
      rw [List.length_append];grind) A ⟨j,rfl⟩ ⟨hA,fun l h=>by have:=bA l h;exact aiy this⟩
   refine ex1 e ?_;clear e;intro pq0 e;obtain ⟨j',hj'⟩:=pq0
   have fs:=a5z A p.lv [] (by grind)
   rw [List.nil_append,List.nil_append] at fs
   rw [←lf lvD p.lv 0] at e
   exact ⟨j',hj',e.trans (by rw [show p.lv.zipIdx.foldl a4y A=bf A p.lv from fs])⟩
  let n:=P.length-low
  have outer:=a9k (turn:=c9 Φ F.muts F.scope 19 (stT (nth F.body 2)) LB) (fun i=>D.int ((low+i:Nat):Int)) st (qh P w low) (fun i A=>A.length=w.length∧∀l∈A,l.length≤10*i) (List.range n) (fun i k A j hk hi inv=>by
   rw [List.length_range] at hi
   obtain rfl:i=k:=by rw [List.getElem?_range hi] at hk;exact Option.some.inj hk
   have hn:n≤50:=by have:=hP.1;show P.length-low≤50;exact aow this
   have hpi:low+i<P.length:=by show _;have:n=P.length-low:=rfl;exact ake hi this
   have hg:=dn P ⟨0,0,[]⟩ hpi
   let p:=(P[low+i]?).getD ⟨0,0,[]⟩
   have hm:p∈P:=List.mem_of_getElem? hg
   refine ar (inner A p (some (.d (.int (low+i:Nat))),j.2) inv.1 (hlv p hm) (fun l h=>by have:=inv.2 l h;exact ajr hi hn this) (hP.2 p hm).2) ?_;intro j1 hj1 e1
   let A':=bf A p.lv
   have hA':A'.length=w.length:=by
    show ((A.zip p.lv).map _).length=_
    rw [List.length_map,List.length_zip,inv.1,hlv p hm,Nat.min_self]
   have bA':∀l∈A',l.length≤10*(i+1):=by
    intro l hl
    obtain ⟨a,ha,b,hb,rfl⟩:=a5n hl
    have:=inv.2 a ha
    have:=(hP.2 p hm).2 b hb
    rw [List.length_append];grind
   obtain ⟨jn,ja,jm,rest,v⟩:=j1
   replace hj1:jn=some (.d (.int (low+i:Nat))):=hj1
   subst hj1
   let s1:St:=st A' (some (.d (.int (low+i:Nat))),ja,jm,rest,v)
   have h0:aj 4 (stT (nth F.body 2)) (.int (low+i:Nat)) (st A j).ρ=some (st A (some (.d (.int (low+i:Nat))),j.2)).ρ:=by kernel_rfl
   have it:=ay spD P (low+i) p hg (st A (some (.d (.int (low+i:Nat))),j.2)).σ
   have ew:b8 s1.σ .Eq (.m 0) (.d (cq w))=some (decide (A'=w)):=(aas (jk A') (jk w)).trans (congrArg some (y8 A' w))
   have g:qh P w low A i=if A'=w then .inr (ad3 low (low+i+1)) else if dq A' w then .inl A' else .inr .none:=rfl
   rw [g]
   by_cases q1:A'=w
   ·rw [if_pos q1]
    rw [decide_eq_true q1] at ew
    exact ⟨s1,am h0 (a9 (.cons it (.cons e1 (.cons ew .nil))) [.v (.d (spD p)),.l .next s1,.b true] (by kernel_rfl))⟩
   ·rw [if_neg q1]
    rw [decide_eq_false q1] at ew
    have hc:be (a2x Φ 36 s1.ρ v (sub (sub (stE (nth LB 2)) 0) 1)) (gj 0 (A'.map lvD)) s1.σ=some (A'.zipIdx.map fun p=>D.bool (cx p.1 ((w[p.2]?).getD [])),s1.σ):=by
     rw [lf]
     exact bn (fun p:List Int×Nat=>D.tuple [.int p.2,lvD p.1]) (fun p=>D.bool (cx p.1 ((w[p.2]?).getD []))) A'.zipIdx fun x hx=>by
      have hk:x.2<w.length:=by have:=List.snd_lt_of_mem_zipIdx hx;exact aig hA' this
      have hl:=bA' x.1 (List.fst_mem_of_mem_zipIdx hx)
      refine a91 ?_ rfl
      exact b6 (.cons (ay lvD w x.2 _ (dn w [] hk) s1.σ) (.cons (vn N x.1 ((w[x.2]?).getD []) (by exact akx hi hn hl)) .nil)) [.v (.d (lvD ((w[x.2]?).getD []))),.v (.d (.bool (cx x.1 ((w[x.2]?).getD []))))] (by kernel_rfl)
    have hr:fe (gj 0 (A'.map lvD)).length=true:=by rw [lf];exact bc _ _ (by rw [List.length_zipIdx];exact aog hw hA')
    have ba:builtin "all" s1.σ [.d (.list (A'.zipIdx.map fun p=>D.bool (cx p.1 ((w[p.2]?).getD []))))]=some (.bool (dq A' w)):=by
     rw [agm,a17]
     show some (D.bool ((List.map _ _).all id))=_
     rw [List.all_map];rfl
    cases q2:dq A' w with
    |true=>
     rw [q2] at ba
     refine ⟨⟨(some (.d (.int (low+i:Nat))),ja,jm,rest,v),?_⟩,hA',bA'⟩
     exact am h0 (a9 (.cons it (.cons e1 (.cons ew (.cons hr (.cons hc (.cons ba .nil)))))) [.v (.d (spD p)),.l .next s1,.b false,.c (A'.zipIdx.map fun p=>D.bool (cx p.1 ((w[p.2]?).getD []))),.v (.d (.bool true))] (by kernel_rfl))
    |false=>
     rw [q2] at ba
     exact ⟨s1,am h0 (a9 (.cons it (.cons e1 (.cons ew (.cons hr (.cons hc (.cons ba .nil)))))) [.v (.d (spD p)),.l .next s1,.b false,.c (A'.zipIdx.map fun p=>D.bool (cx p.1 ((w[p.2]?).getD []))),.v (.d (.bool false))] (by kernel_rfl))⟩) (bare w) (none,none,none,[],1) ⟨by show (w.map _).length=_;rw [List.length_map],fun l h=>by (refine ar (List.mem_map.mp h) ?_;intro _ _ rf2;subst rf2);exact Nat.zero_le _⟩
  have hlen:P.length≤50:=hP.1
  let ρ0:=ρ none none none none
  let σa:Sto:=⟨[.list ((bare w).map lvD)],1⟩
  have rg:=uw low P.length (by exact ao7 hl hlen) (by exact Nat.le_trans (by assumption) (by decide)) σa
  have ln:=aq spD P σa
  have rm:=bc lvD w (by exact akc hw)
  have sc:=ay spD P low p0 hp σ0
  cases q3:qi (qh P w low) (List.range n) (bare w) with
  |inl A=>
   rw [q3] at outer
   refine bk outer ?_;clear outer;intro pq0 _;obtain ⟨j',e⟩:=pq0
   exact ab gu ρ0 (by kernel_rfl) (.d .none) (st A j') (.cons sc (.cons hid (.cons rm (.cons c0 (.cons ln (.cons rg (.cons e .nil)))))))
    [.v (.d (spD p0)),.v (.d (.bool false)),.c ((bare w).map lvD),.v (.d (.int P.length)),.c ((List.range n).map fun i=>D.int ((low+i:Nat):Int)),.l .next (st A j')] (by kernel_rfl) (by kernel_rfl)
  |inr r=>
   rw [q3] at outer
   refine ex1 outer ?_;clear outer;intro s' e
   exact ab gu ρ0 (by kernel_rfl) (.d r) s' (.cons sc (.cons hid (.cons rm (.cons c0 (.cons ln (.cons rg (.cons e .nil)))))))
    [.v (.d (spD p0)),.v (.d (.bool false)),.c ((bare w).map lvD),.v (.d (.int P.length)),.c ((List.range n).map fun i=>D.int ((low+i:Nat):Int)),.l (.ret (.d r)) s'] (by kernel_rfl) (by kernel_rfl)
theorem jf (N:Nat){P:List Pc}(hP:j3 P){i:Nat}(hi:i<P.length):∃p,P[i]?=some p∧(fx (N+1)).pure (.meth "SearchPiece" "is_idle") [spD p]=some (.bool (ax P i)):=by
 obtain⟨p,hp⟩:∃p,P[i]?=some p:=⟨_,List.getElem?_eq_getElem hi⟩
 refine⟨p,hp,?_⟩
 unfold ax
 rw[hp]
 exact y6 N p (by have:=(hP.2 p (List.mem_of_getElem? hp)).1;exact om0 this)
theorem vl (N:Nat) (P:List Pc) (low high:Nat) (hP:j3 P) (hl:low≤P.length) (hh:high≤P.length):(fx (N+2)).pure (.fn "search_widest") [.list (P.map spD),prD (low,high)]=some (prD (co P low,upN P (P.length-high) high)):=by
 let F:=ae 42
 let st:Nat→Nat→St:=fun l h=>⟨ip (some (.d (.list (P.map spD)))) (some (.d (prD (low,high)))) (some (.d (.int l))) (some (.d (.int h))),σ0⟩
 have hlen:=hP.1
 have w1:∀l k,l<k→l≤P.length→b7 (ef (fx (N+1)) F.scope (stE (nth F.body 1))) (cc (evS (fx (N+1)) F.muts F.scope 19) (stB (nth F.body 1))) k (st l high)=some (.next,st (co P l) high):=by
  intro l
  induction l with
  |zero=>
   intro k hk _
   exact an hk (ah (σ':=σ0) (.cons (rfl:b8 σ0 .Gt (.d (.int (0:Nat))) (.d (.int 0))=some false) .nil) [.b false] (by kernel_rfl))
  |succ l ih=>
   intro k hk hl
   obtain⟨k,rfl⟩:∃k',k=k'+1:=⟨k-1,by exact om2 hk⟩
   refine ar (jf N hP (show l<P.length by assumption)) ?_;intro p hp hi
   have gt:b8 σ0 .Gt (.d (.int ((l+1:Nat):Int))) (.d (.int 0))=some true:=congrArg some (decide_eq_true (by exact ahb))
   have it:=cz spD P l p hp σ0 (((l+1:Nat):Int)-1) (by exact om6)
   have ed:co P (l+1)=if ax P l=true then co P l else l+1:=rfl
   rw[ed]
   cases q:ax P l with
   |false=>
    rw[q]at hi
    exact an (by exact Nat.succ_pos _) (ah (σ':=σ0) (.cons gt (.cons it (.cons hi .nil))) [.b true,.v (.d (spD p)),.v (.d (.bool false))] (by kernel_rfl))
   |true=>
    rw[q]at hi
    have hb:cc (evS (fx (N+1)) F.muts F.scope 19) (stB (nth F.body 1)) (st (l+1) high)=some (.next,⟨ip (some (.d (.list (P.map spD)))) (some (.d (prD (low,high)))) (some (.d (.int (((l+1:Nat):Int)-1)))) (some (.d (.int high))),σ0⟩):=a9 .nil [] (by kernel_rfl)
    rw[show((l+1:Nat):Int)-1=(l:Nat)by exact om6]at hb
    exact fq (s1:=st (l+1) high) (ah (σ':=σ0) (.cons gt (.cons it (.cons hi .nil))) [.b true,.v (.d (spD p)),.v (.d (.bool true))] (by kernel_rfl)) hb (ih k (by exact Nat.lt_of_succ_lt_succ (by assumption)) (by exact Nat.le_of_lt (by assumption)))
 have w2:∀m l h k,m<k→h+m=P.length→b7 (ef (fx (N+1)) F.scope (stE (nth F.body 2))) (cc (evS (fx (N+1)) F.muts F.scope 19) (stB (nth F.body 2))) k (st l h)=some (.next,st l (upN P m h)):=by
  intro m
  induction m with
  |zero=>
   intro l h k hk e
   have lt:b8 σ0 .Lt (.d (.int h)) (.d (.int P.length))=some false:=congrArg some (decide_eq_false (by exact age e))
   exact an (by assumption) (ah (σ':=σ0) (.cons (aq spD P σ0) (.cons lt .nil)) [.v (.d (.int P.length)),.b false] (by kernel_rfl))
  |succ m ih=>
   intro l h k hk e
   obtain⟨k,rfl⟩:∃k',k=k'+1:=⟨k-1,by exact om2 hk⟩
   refine ar (jf N hP (show h<P.length by exact om1 e)) ?_;intro p hp hi
   have lt:b8 σ0 .Lt (.d (.int h)) (.d (.int P.length))=some true:=congrArg some (decide_eq_true (by exact ahe e))
   have it:=ay spD P h p hp σ0
   have eu:upN P (m+1) h=if ax P h=true then upN P m (h+1)else h:=rfl
   rw[eu]
   cases q:ax P h with
   |false=>
    rw[q]at hi
    exact an (by exact Nat.succ_pos _) (ah (σ':=σ0) (.cons (aq spD P σ0) (.cons lt (.cons it (.cons hi .nil)))) [.v (.d (.int P.length)),.b true,.v (.d (spD p)),.v (.d (.bool false))] (by kernel_rfl))
   |true=>
    rw[q]at hi
    have hb:cc (evS (fx (N+1)) F.muts F.scope 19) (stB (nth F.body 2)) (st l h)=some (.next,st l (h+1)):=a9 .nil [] (by kernel_rfl)
    exact fq (s1:=st l h) (ah (σ':=σ0) (.cons (aq spD P σ0) (.cons lt (.cons it (.cons hi .nil)))) [.v (.d (.int P.length)),.b true,.v (.d (spD p)),.v (.d (.bool true))] (by kernel_rfl)) hb (ih l (h+1) k (by exact Nat.lt_of_succ_lt_succ (by assumption)) (by exact om8 e))
 exact ab x0 (ip (some (.d (.list (P.map spD)))) (some (.d (prD (low,high)))) none none) (by kernel_rfl) (.d (prD (co P low,upN P (P.length-high) high))) (st (co P low) (upN P (P.length-high) high)) (.cons (w1 low 100 (by exact ako hl hlen) hl) (.cons (w2 (P.length-high) (co P low) high 100 (by exact om9 hlen) (by exact ahm hh)) .nil))
  [.l .next (st (co P low) high),.l .next (st (co P low) (upN P (P.length-high) high))] (by kernel_rfl) (by kernel_rfl)
theorem px{T:St→Option (Bool×St)}{B:St→Option (Fl×St)}{k:Nat}{s s1 s2:St}{v:V}(hk:0<k)(h:T s=some (true,s1))(hb:B s1=some (.ret v,s2)):b7 T B k s=some (.ret v,s2):=by
 obtain⟨k,rfl⟩:∃k',k=k'+1:=⟨k-1,by exact ahq hk⟩
 rw[ie,h]
 show(B s1).bind _=_
 rw[hb];rfl
theorem a0z (a:Nat):∀ks:List Nat,a6 (D.int a) (ks.map abi)=if ks.contains a then some (D.bool true)else none
 |[]=>rfl
 |k::ks=>by
  show(if D.beq (.int k) (.int a)then some (D.bool true)else a6 (D.int a) (ks.map abi))=_
  rw[a97,a0z a ks,List.contains_cons]
  by_cases h:k=a
  ·subst h;simp
  ·have h2:(a==k)=false:=by rw[beq_eq_false_iff_ne];exact fun e=>h e.symm
   rw[h2,if_neg (by simp[h]),Bool.false_or]
theorem mf (a:Nat) (ks:List Nat) (σ:Sto):b8 σ .NotIn (.d (.int a)) (.d (p9 ks))=some (!ks.contains a):=by
 show some (a6 (D.int a) (ks.map abi)).isNone=_
 rw[a0z]
 cases ks.contains a<;>rfl
noncomputable def iy (P:List Pc)(E:Nat→Bool):Nat→Option Nat
 |0=>if E (bh P 0)then some 0 else none
 |l+1=>if E (bh P (l+1))then some (l+1)else if ax P l then iy P E l else none
noncomputable def upS (P:List Pc)(E:Nat→Bool):Nat→Nat→Option Nat
 |0,h=>if E (c8 P (h-1))then some h else none
 |k+1,h=>if E (c8 P (h-1))then some h else if ax P h then upS P E k (h+1)else none
noncomputable def m7 (P:List Pc) (E:Nat→Bool) (low high:Nat):Option (Nat×Nat):=match iy P E low with
 |none=>none
 |some l=>match upS P E (P.length-high) high with
  |none=>none
  |some h=>some (l,h)
theorem wv (N:Nat) (P:List Pc) (ks:List Nat) (low high:Nat) (hP:j3 P) (hl:low<P.length) (h1:1≤high) (hh:high≤P.length):
  (fx (N+2)).pure (.fn "search_whole") [.list (P.map spD),prD (low,high),p9 ks]=some (ue (m7 P ks.contains low high)):=by
 let F:=ae 43
 let Φ:=fx (N+1)
 let st:Nat→Nat→St:=fun l h=>⟨jx (some (.d (.list (P.map spD)))) (some (.d (prD (low,high)))) (some (.d (p9 ks))) (some (.d (.int l))) (some (.d (.int h))),σ0⟩
 let E:=ks.contains
 have hlen:=hP.1
 let T1:=ef Φ F.scope (stE (nth F.body 1))
 let B1:=cc (evS Φ F.muts F.scope 19) (stB (nth F.body 1))
 let T2:=ef Φ F.scope (stE (nth F.body 2))
 let B2:=cc (evS Φ F.muts F.scope 19) (stB (nth F.body 2))
 have w1:∀l k,l<k→l<P.length→match iy P E l with|some l'=>b7 T1 B1 k (st l high)=some (.next,st l' high)|none=>∃s,b7 T1 B1 k (st l high)=some (.ret (.d .none),s):=by
  intro l
  induction l with
  |zero=>
   intro k hk hl
   have hp:=dn P ⟨0,0,[]⟩ hl
   let p:=(P[0]?).getD ⟨0,0,[]⟩
   have it:=ay spD P 0 p hp σ0
   have ni:=mf p.a ks σ0
   unfold iy
   cases q:E (bh P 0)with
   |true=>
    rw[show ks.contains p.a=true from q]at ni
    exact an hk (ah (σ':=σ0) (.cons it (.cons ni .nil)) [.v (.d (spD p)),.b false] (by kernel_rfl))
   |false=>
    rw[show ks.contains p.a=false from q]at ni
    have z:b8 σ0 .Eq (.d (.int (0:Nat))) (.d (.int 0))=some true:=rfl
    exact⟨st 0 high,px hk (ah (σ':=σ0) (.cons it (.cons ni .nil)) [.v (.d (spD p)),.b true] (by kernel_rfl)) (a9 (.cons z .nil) [.b true] (by kernel_rfl))⟩
  |succ l ih=>
   intro k hk hl
   obtain⟨k,rfl⟩:∃k',k=k'+1:=⟨k-1,by exact om2 hk⟩
   have hp:=dn P ⟨0,0,[]⟩ hl
   let p:=(P[l+1]?).getD ⟨0,0,[]⟩
   have it:=ay spD P (l+1) p hp σ0
   have ni:=mf p.a ks σ0
   refine ar (jf N hP (show l<P.length by exact Nat.le_of_lt (by assumption))) ?_;intro p' hp' hi
   have it':=cz spD P l p' hp' σ0 (((l+1:Nat):Int)-1) (by exact om6)
   have z:b8 σ0 .Eq (.d (.int (l+1:Nat))) (.d (.int 0))=some false:=(gw σ0 (l+1) 0).trans (congrArg some (decide_eq_false (Nat.succ_ne_zero l)))
   unfold iy
   cases q:E (bh P (l+1))with
   |true=>
    rw[show ks.contains p.a=true from q]at ni
    exact an (by exact Nat.succ_pos _) (ah (σ':=σ0) (.cons it (.cons ni .nil)) [.v (.d (spD p)),.b false] (by kernel_rfl))
   |false=>
    rw[show ks.contains p.a=false from q]at ni
    have ck:T1 (st (l+1) high)=some (true,st (l+1) high):=ah (σ':=σ0) (.cons it (.cons ni .nil)) [.v (.d (spD p)),.b true] (by kernel_rfl)
    cases q2:ax P l with
    |false=>
     rw[q2]at hi
     exact⟨st (l+1) high,px (by exact Nat.succ_pos _) ck (a9 (.cons z (.cons it' (.cons hi .nil))) [.b false,.v (.d (spD p')),.v (.d (.bool false))] (by kernel_rfl))⟩
    |true=>
     rw[q2]at hi
     have hb:B1 (st (l+1) high)=some (.next,⟨jx (some (.d (.list (P.map spD)))) (some (.d (prD (low,high)))) (some (.d (p9 ks))) (some (.d (.int (((l+1:Nat):Int)-1)))) (some (.d (.int high))),σ0⟩):=a9 (.cons z (.cons it' (.cons hi .nil))) [.b false,.v (.d (spD p')),.v (.d (.bool true))] (by kernel_rfl)
     rw[show((l+1:Nat):Int)-1=(l:Nat)by exact om6]at hb
     have go:∀R,b7 T1 B1 k (st l high)=R→b7 T1 B1 (k+1) (st (l+1) high)=R:=fun R h=>fq ck hb h
     have:=ih k (by exact Nat.lt_of_succ_lt_succ (by assumption)) (by exact Nat.le_of_lt (by assumption))
     show match iy P E l with|some l'=>b7 T1 B1 (k+1) (st (l+1) high)=some (.next,st l' high)|none=>∃s,b7 T1 B1 (k+1) (st (l+1) high)=some (.ret (.d .none),s)
     cases q3:iy P E l with
     |none=>rw[q3]at this;exact this.imp fun s h=>go _ h
     |some l'=>rw[q3]at this;exact go _ this
 have w2:∀m l h k,m<k→h+m=P.length→1≤h→match upS P E m h with|some h'=>b7 T2 B2 k (st l h)=some (.next,st l h')|none=>∃s,b7 T2 B2 k (st l h)=some (.ret (.d .none),s):=by
  intro m
  induction m with
  |zero=>
   intro l h k hk e h1
   have hp:=dn P ⟨0,0,[]⟩ (show h-1<P.length by exact aov e h1)
   let p:=(P[h-1]?).getD ⟨0,0,[]⟩
   have it:=cz spD P (h-1) p hp σ0 ((h:Int)-1) (by exact om7 h1)
   have ni:=mf p.b ks σ0
   unfold upS
   cases q:E (c8 P (h-1))with
   |true=>
    rw[show ks.contains p.b=true from q]at ni
    exact an (by assumption) (ah (σ':=σ0) (.cons it (.cons ni .nil)) [.v (.d (spD p)),.b false] (by kernel_rfl))
   |false=>
    rw[show ks.contains p.b=false from q]at ni
    have z:b8 σ0 .Eq (.d (.int h)) (.d (.int P.length))=some true:=(gw σ0 h P.length).trans (congrArg some (decide_eq_true (by assumption)))
    exact⟨st l h,px (by assumption) (ah (σ':=σ0) (.cons it (.cons ni .nil)) [.v (.d (spD p)),.b true] (by kernel_rfl)) (a9 (.cons (aq spD P σ0) (.cons z .nil)) [.v (.d (.int P.length)),.b true] (by kernel_rfl))⟩
  |succ m ih=>
   intro l h k hk e h1
   obtain⟨k,rfl⟩:∃k',k=k'+1:=⟨k-1,by exact om2 hk⟩
   have hp:=dn P ⟨0,0,[]⟩ (show h-1<P.length by exact ajf e)
   let p:=(P[h-1]?).getD ⟨0,0,[]⟩
   have it:=cz spD P (h-1) p hp σ0 ((h:Int)-1) (by exact om7 h1)
   have ni:=mf p.b ks σ0
   refine ar (jf N hP (show h<P.length by exact om1 e)) ?_;intro p' hp' hi
   have it':=ay spD P h p' hp' σ0
   have z:b8 σ0 .Eq (.d (.int h)) (.d (.int P.length))=some false:=(gw σ0 h P.length).trans (congrArg some (decide_eq_false (by exact ai4 e)))
   unfold upS
   cases q:E (c8 P (h-1))with
   |true=>
    rw[show ks.contains p.b=true from q]at ni
    exact an (by exact Nat.succ_pos _) (ah (σ':=σ0) (.cons it (.cons ni .nil)) [.v (.d (spD p)),.b false] (by kernel_rfl))
   |false=>
    rw[show ks.contains p.b=false from q]at ni
    have ck:T2 (st l h)=some (true,st l h):=ah (σ':=σ0) (.cons it (.cons ni .nil)) [.v (.d (spD p)),.b true] (by kernel_rfl)
    cases q2:ax P h with
    |false=>
     rw[q2]at hi
     exact⟨st l h,px (by exact Nat.succ_pos _) ck (a9 (.cons (aq spD P σ0) (.cons z (.cons it' (.cons hi .nil)))) [.v (.d (.int P.length)),.b false,.v (.d (spD p')),.v (.d (.bool false))] (by kernel_rfl))⟩
    |true=>
     rw[q2]at hi
     have hb:B2 (st l h)=some (.next,st l (h+1)):=a9 (.cons (aq spD P σ0) (.cons z (.cons it' (.cons hi .nil)))) [.v (.d (.int P.length)),.b false,.v (.d (spD p')),.v (.d (.bool true))] (by kernel_rfl)
     have go:∀R,b7 T2 B2 k (st l (h+1))=R→b7 T2 B2 (k+1) (st l h)=R:=fun R h=>fq ck hb h
     have:=ih l (h+1) k (by exact Nat.lt_of_succ_lt_succ (by assumption)) (by exact om8 e) (by exact Nat.succ_pos _)
     show match upS P E m (h+1)with|some h'=>b7 T2 B2 (k+1) (st l h)=some (.next,st l h')|none=>∃s,b7 T2 B2 (k+1) (st l h)=some (.ret (.d .none),s)
     cases q3:upS P E m (h+1)with
     |none=>rw[q3]at this;exact this.imp fun s h=>go _ h
     |some l'=>rw[q3]at this;exact go _ this
 let ρ0:=jx (some (.d (.list (P.map spD)))) (some (.d (prD (low,high)))) (some (.d (p9 ks))) none none
 have a1:=w1 low 100 (by exact aos hl hlen) hl
 unfold m7
 cases q1:iy P E low with
 |none=>
  rw[q1]at a1
  refine ex1 a1 ?_;clear a1;intro s a1
  exact ab jq ρ0 (by kernel_rfl) (.d .none) s (.cons a1 .nil) [.l (.ret (.d .none)) s] (by kernel_rfl) (by kernel_rfl)
 |some l=>
  rw[q1]at a1
  have a2:=w2 (P.length-high) l high 100 (by exact om9 hlen) (by exact ahm hh) h1
  dsimp only
  cases q2:upS P E (P.length-high) high with
  |none=>
   rw[q2]at a2
   refine ex1 a2 ?_;clear a2;intro s a2
   exact ab jq ρ0 (by kernel_rfl) (.d .none) s (.cons a1 (.cons a2 .nil)) [.l .next (st l high),.l (.ret (.d .none)) s] (by kernel_rfl) (by kernel_rfl)
  |some h=>
   rw[q2]at a2
   exact ab jq ρ0 (by kernel_rfl) (.d (prD (l,h))) (st l h) (.cons a1 (.cons a2 .nil)) [.l .next (st l high),.l .next (st l h)] (by kernel_rfl) (by kernel_rfl)
noncomputable def wn (P:List Pc)(w:Lv)(low:Nat):List Nat→Lv→Option (Nat×Nat)
 |[],_=>none
 |i::l,A=>
  let A':=bf A ((P[low+i]?).getD ⟨0,0,[]⟩).lv
  if A'=w then some (low,low+i+1)else if dq A' w then wn P w low l A' else none
noncomputable def cj (P:List Pc) (w:Lv) (low:Nat):Option (Nat×Nat):=if ax P low then none else wn P w low (List.range (P.length-low)) (bare w)
theorem adl (P:List Pc) (w:Lv) (low:Nat):∀(l:List Nat) (A:Lv),(match qi (qh P w low) l A with|.inl _=>D.none|.inr r=>r)=ue (wn P w low l A)
 |[],_=>rfl
 |i::l,A=>by
  let A':=bf A ((P[low+i]?).getD ⟨0,0,[]⟩).lv
  have hs:qh P w low A i=if A'=w then .inr (ad3 low (low+i+1))else if dq A' w then .inl A' else .inr .none:=rfl
  have hr:wn P w low (i::l) A=if A'=w then some (low,low+i+1)else if dq A' w then wn P w low l A' else none:=rfl
  have hf:qi (qh P w low) (i::l) A=match qh P w low A i with|.inl a'=>qi (qh P w low) l a'|.inr r=>.inr r:=by rw[qi];cases qh P w low A i<;>rfl
  rw[hf,hr,hs]
  by_cases q1:A'=w
  ·rw[if_pos q1,if_pos q1];rfl
  ·rw[if_neg q1,if_neg q1]
   cases q2:dq A' w with
   |true=>exact adl P w low l A'
   |false=>rfl
theorem a6x (P:List Pc)(w:Lv)(low:Nat):uf P w low=ue (cj P w low):=by
 unfold uf cj
 cases ax P low
 ·exact adl P w low _ _
 ·rfl
theorem a8w (P:List Pc) (w:Lv) (low:Nat):∀(l:List Nat) (A:Lv) (p:Nat×Nat),(∀i∈l,low+i<P.length)→wn P w low l A=some p→p.1=low∧low<p.2∧p.2≤P.length
 |[],_,p,_,h=>nomatch h
 |i::l,A,p,hm,h=>by
  unfold wn at h
  dsimp only at h
  split at h
  ·cases h;have:=hm i (.head _);exact⟨rfl,by show low<low+i+1;grind,by show low+i+1≤_;exact akr this⟩
  ·split at h
   ·exact a8w P w low l _ p (fun i hi=>hm i (.tail _ hi)) h
   ·cases h
theorem oe (P:List Pc) (w:Lv) (low:Nat) (p:Nat×Nat) (h:cj P w low=some p):p.1=low∧low<p.2∧p.2≤P.length:=by
 unfold cj at h
 split at h
 ·cases h
 ·exact a8w P w low _ _ p (fun i hi=>by have:=List.mem_range.mp hi;exact ajm this) h
noncomputable def sq:Option (List Nat)→D
 |none=>.none
 |some ks=>p9 ks
noncomputable def gy (P:List Pc) (eo:Option (List Nat)) (wide:Bool) (p:Nat×Nat):Option (Nat×Nat):=
 if wide then some (co P p.1,upN P (P.length-p.2) p.2)else match eo with
 |none=>some p
 |some ks=>m7 P ks.contains p.1 p.2
theorem yk (P:List Pc)(E:Nat→Bool):∀l l',iy P E l=some l'→l'≤l
 |0,l',h=>by unfold iy at h;split at h<;>cases h;exact Nat.le_refl _
 |l+1,l',h=>by
  unfold iy at h
  split at h
  ·cases h;exact Nat.le_refl _
  ·split at h
   ·exact Nat.le_succ_of_le (yk P E l l' h)
   ·cases h
theorem a7v (P:List Pc) (E:Nat→Bool):∀k h h',upS P E k h=some h'→h≤h'∧h'≤h+k
 |0,h,h',e=>by unfold upS at e;split at e<;>cases e;exact⟨Nat.le_refl _,Nat.le_refl _⟩
 |k+1,h,h',e=>by
  unfold upS at e
  split at e
  ·cases e;exact⟨Nat.le_refl _,Nat.le_add_right _ _⟩
  ·split at e
   ·have:=a7v P E k (h+1) h' e;exact aj7 this
   ·cases e
theorem yq (P:List Pc) (eo:Option (List Nat)) (wide:Bool) (p q:Nat×Nat) (hp:Lie P p) (h:gy P eo wide p=some q):Lie P q:=by
 refine f5 hp ?_;clear hp;intro h1 h2 h3
 unfold gy at h
 split at h
 ·cases h
  have:=sp P p.1
  have:=a2s P (P.length-p.2) p.2
  exact⟨by show co P p.1<_;exact afa h1 (by assumption),by show 1≤upN P _ p.2;exact afk h2 this,by show upN P _ p.2≤_;exact afb h3 this⟩
 ·split at h
  ·cases h;exact⟨h1,h2,h3⟩
  ·unfold m7 at h
   split at h
   ·cases h
   ·rename_i l' e1
    split at h
    ·cases h
    ·rename_i h' e2
     cases h
     have:=yk P _ _ _ e1
     have:=a7v P _ _ _ _ e2
     exact⟨by show l'<_;exact afa h1 (by assumption),by show 1≤h';exact afk h2 this,by show h'≤_;exact afb h3 this⟩
theorem vc (N:Nat) (P:List Pc) (eo:Option (List Nat)) (wide:Bool) (p:Nat×Nat) (hP:j3 P) (hp:Lie P p) (hx:wide=true→eo=none):
  (fx (N+3)).pure (.fn "search_chosen") [.list (P.map spD),prD p,sq eo,.bool wide]=some (ue (gy P eo wide p)):=by
 refine f5 hp ?_;clear hp;intro h1 h2 h3
 let ρ:=fun s=>dy (some (.d (.list (P.map spD)))) (some (.d s)) (some (.d (sq eo))) (some (.d (.bool wide)))
 cases wide with
 |true=>
  rw[hx rfl]
  have wi:=vl N P p.1 p.2 hP (by exact Nat.le_of_lt (by assumption)) h3
  exact ab ir (dy (some (.d (.list (P.map spD)))) (some (.d (prD p))) (some (.d .none)) (some (.d (.bool true)))) (by kernel_rfl) (.d (prD (co P p.1,upN P (P.length-p.2) p.2))) ⟨dy (some (.d (.list (P.map spD)))) (some (.d (prD (co P p.1,upN P (P.length-p.2) p.2)))) (some (.d .none)) (some (.d (.bool true))),σ0⟩
   (.cons wi (.cons (rfl:b8 σ0 .Is (.d .none) (.d .none)=some true) .nil)) [.v (.d (prD (co P p.1,upN P (P.length-p.2) p.2))),.b true] (by kernel_rfl) (by kernel_rfl)
 |false=>cases eo with
  |none=>
   let ρ0:=dy (some (.d (.list (P.map spD)))) (some (.d (prD p))) (some (.d .none)) (some (.d (.bool false)))
   exact ab ir ρ0 (by kernel_rfl) (.d (prD p)) ⟨ρ0,σ0⟩ (.cons (rfl:b8 σ0 .Is (.d .none) (.d .none)=some true) .nil) [.b true] (by kernel_rfl) (by kernel_rfl)
  |some ks=>
   let ρ0:=dy (some (.d (.list (P.map spD)))) (some (.d (prD p))) (some (.d (p9 ks))) (some (.d (.bool false)))
   exact ab ir ρ0 (by kernel_rfl) (.d (ue (m7 P ks.contains p.1 p.2))) ⟨ρ0,σ0⟩ (.cons (rfl:b8 σ0 .Is (.d (p9 ks)) (.d .none)=some false) (.cons (wv N P ks p.1 p.2 hP h1 h2 h3) .nil)) [.b false,.v (.d (ue (m7 P ks.contains p.1 p.2)))] (by kernel_rfl) (by kernel_rfl)
noncomputable def kg (P:List Pc)(p:Nat×Nat):Nat×Nat:=(bh P p.1,c8 P (p.2-1))
noncomputable def n5 (acc:List (Nat×Nat))(pl:Nat×Nat):List (Nat×Nat):=if acc.getLast?=some pl then acc else acc++[pl]
noncomputable def a2h (P:List Pc)(w:Lv)(eo:Option (List Nat))(wide:Bool)(acc:List (Nat×Nat))(start:Nat):List (Nat×Nat):=
 match(cj P w start).bind (gy P eo wide)with
 |none=>acc
 |some p=>n5 acc (kg P p)
noncomputable def a0l (P:List Pc) (w:Lv) (eo:Option (List Nat)) (wide:Bool):List (Nat×Nat):=
 if cw w then[]else(List.range P.length).foldl (a2h P w eo wide) []
theorem agw (p q:Nat×Nat) (σ:Sto):b8 σ .NotEq (.d (prD p)) (.d (prD q))=some (!(p==q)):=
 congrArg (fun b=>some (!b)) (a3n p q)
theorem a6e (acc:List (Nat×Nat))(pl:Nat×Nat):(n5 acc pl).length≤acc.length+1:=by
 unfold n5
 split
 ·exact Nat.le_succ _
 ·rw[List.length_append];exact Nat.le_refl _
theorem a0b (N:Nat) (P:List Pc) (w:Lv) (eo:Option (List Nat)) (wide:Bool) (hP:j3 P) (hw:w.length≤10) (hlv:∀p∈P,p.lv.length=w.length) (hx:wide=true→eo=none):
  (fx (N+4)).pure (.fn "search_all") [.list (P.map spD),cq w,sq eo,.bool wide]=some (.list ((a0l P w eo wide).map prD)):=by
 let F:=ae 46 ["found"]
 let Φ:=fx (N+3)
 let LB:=stB (nth F.body 2)
 have hlen:=hP.1
 let ρ:=a2n (some (.d (.list (P.map spD)))) (some (.d (cq w))) (some (.d (sq eo))) (some (.d (.bool wide)))
 let J:=Option V×Option V×Option V×Nat
 let st:List (Nat×Nat)→J→St:=fun acc j=>⟨ρ (some (.m 0)) j.1 j.2.1 j.2.2.1,σ1 (acc.map prD) j.2.2.2⟩
 have hb:LB=[nth LB 0,nth LB 1,nth LB 2]:=by kernel_rfl
 have hc:be (bq Φ 37 (ρ (some (.m 0)) none none none) 0 (sub (stE (nth F.body 1)) 0)) (w.map lvD) (σ1 [] 1)=_:=q5 w (σ1 [] 1) fun l b hb=>by
  cases b with|false=>exact b6 (.cons hb .nil) [.b false] (by kernel_rfl)|true=>exact b6 (.cons hb .nil) [.b true] (by kernel_rfl)
 have hi:=a34 w (σ1 [] 1)
 have hr:=bc lvD w (by exact Nat.le_trans (by assumption) (by decide))
 let ρ0:=ρ none none none none
 unfold a0l
 cases q:cw w with
 |true=>
  rw[q] at hi
  exact ab u7 ρ0 (by kernel_rfl) (.m 0) ⟨ρ (some (.m 0)) none none none,σ1 [] 1⟩ (.cons hr (.cons hc (.cons hi .nil))) [.c ((w.filter fun l=>!l.isEmpty).map lvD),.b true] (by kernel_rfl) (by kernel_rfl)
 |false=>
  rw[q] at hi
  obtain⟨j',e⟩:=ji (turn:=c9 Φ F.muts F.scope 19 (stT (nth F.body 2)) LB) P.length (fun i=>D.int ((i:Nat):Int)) st (a2h P w eo wide) (fun i acc=>acc.length≤i) (fun i acc j hi' inv=>by
   let v:=j.2.2.2
   let σ:=σ1 (acc.map prD) v
   have ss:=ug (N+1) P w i hP hw hlv hi'
   rw[a6x] at ss
   have h0:aj 4 (stT (nth F.body 2)) (.int i) (st acc j).ρ=some (st acc (some (.d (.int i)),j.2)).ρ:=by kernel_rfl
   unfold a2h
   cases q1:cj P w i with
   |none=>
    rw[q1] at ss
    refine⟨⟨(some (.d (.int i)),some (.d .none),j.2.2),?_⟩,Nat.le_succ_of_le inv⟩
    exact am h0 (a9 (.cons ss (.cons (xh σ) (.cons (xh σ) .nil))) [.v (.d .none),.b false,.b false] (by kernel_rfl))
   |some p=>
    rw[q1] at ss
    refine f5 (oe P w i p q1) ?_;intro l1 l2 l3
    have lp:Lie P p:=⟨by rw[l1];exact hi',by exact Nat.zero_lt_of_lt (by assumption),l3⟩
    have sc:=vc N P eo wide p hP lp hx
    show(∃j',c9 Φ F.muts F.scope 19 (stT (nth F.body 2)) LB (.int i) (st acc j)=some (.next,st (match gy P eo wide p with|none=>acc|some p=>n5 acc (kg P p)) j'))∧(match gy P eo wide p with|none=>acc|some p=>n5 acc (kg P p)).length≤i+1
    cases q2:gy P eo wide p with
    |none=>
     rw[q2] at sc
     refine⟨⟨(some (.d (.int i)),some (.d .none),j.2.2),?_⟩,Nat.le_succ_of_le inv⟩
     exact am h0 (a9 (.cons ss (.cons (i8 p σ) (.cons sc (.cons (xh σ) .nil)))) [.v (.d (prD p)),.b true,.v (.d .none),.b false] (by kernel_rfl))
    |some c=>
     rw[q2] at sc
     refine f5 (yq P eo wide p c lp q2) ?_;intro m1 m2 m3
     refine⟨?_,Nat.le_trans (a6e acc _) (Nat.succ_le_succ inv)⟩
     let pl:=kg P c
     let a:=(P[c.1]?).getD ⟨0,0,[]⟩
     let b:=(P[c.2-1]?).getD ⟨0,0,[]⟩
     have ia:=ay spD P c.1 a (dn P ⟨0,0,[]⟩ m1) σ
     have ib:=cz spD P (c.2-1) b (dn P ⟨0,0,[]⟩ (by exact aj6 m2 m3)) σ ((c.2:Int)-1) (by exact om7 m2)
     have em:=a8x acc v
     have ap:=jy (acc.map prD) v (prD pl) (by rw[List.length_map];exact an4 hlen hi' inv)
     let j1:J:=(some (.d (.int i)),some (.d (prD c)),some (.d (prD pl)),v+1)
     let j0:J:=(some (.d (.int i)),some (.d (prD c)),some (.d (prD pl)),v)
     have snoc:st (acc++[pl]) j1=⟨(st acc j1).ρ,σ1 (acc.map prD++[prD pl]) (v+1)⟩:=by simp only[st,cr];rfl
     show∃j',_=some (Fl.next,st (n5 acc pl) j')
     unfold n5
     cases hq:acc.getLast? with
     |none=>
      have:acc=[]:=List.getLast?_eq_none_iff.mp hq
      rw[show acc.isEmpty=true by rw[this];rfl] at em
      rw[if_neg (by intro h;cases h),]
      refine⟨j1,?_⟩
      rw[snoc]
      exact am h0 (a9 (.cons ss (.cons (i8 p σ) (.cons sc (.cons (i8 c σ) (.cons ia (.cons ib (.cons em (.cons ap .nil)))))))) [.v (.d (prD p)),.b true,.v (.d (prD c)),.b true,.v (.d (spD a)),.v (.d (spD b)),.b true,.e (.d .none) (σ1 (acc.map prD++[prD pl]) (v+1))] (by kernel_rfl))
     |some l=>
      have ne:acc.isEmpty=false:=by cases acc with|nil=>cases hq|cons _ _=>rfl
      rw[ne] at em
      have it:=a0t acc l hq v
      have nq:=agw l pl σ
      by_cases h:l=pl
      ·rw[show(l==pl)=true from beq_iff_eq.mpr h] at nq
       rw[if_pos (by rw[h])]
       refine⟨j0,?_⟩
       exact am h0 (a9 (.cons ss (.cons (i8 p σ) (.cons sc (.cons (i8 c σ) (.cons ia (.cons ib (.cons em (.cons it (.cons nq .nil))))))))) [.v (.d (prD p)),.b true,.v (.d (prD c)),.b true,.v (.d (spD a)),.v (.d (spD b)),.b false,.v (.d (prD l)),.b false] (by kernel_rfl))
      ·rw[show(l==pl)=false from beq_eq_false_iff_ne.mpr h] at nq
       rw[if_neg (fun e=>h (Option.some.inj e))]
       refine⟨j1,?_⟩
       rw[snoc]
       exact am h0 (a9 (.cons ss (.cons (i8 p σ) (.cons sc (.cons (i8 c σ) (.cons ia (.cons ib (.cons em (.cons it (.cons nq (.cons ap .nil)))))))))) [.v (.d (prD p)),.b true,.v (.d (prD c)),.b true,.v (.d (spD a)),.v (.d (spD b)),.b false,.v (.d (prD l)),.b true,.e (.d .none) (σ1 (acc.map prD++[prD pl]) (v+1))] (by kernel_rfl))) [] (none,none,none,1) (Nat.zero_le _)
  let R:=(List.range P.length).foldl (a2h P w eo wide) []
  exact ab u7 ρ0 (by kernel_rfl) (.m 0) (st R j') (.cons hr (.cons hc (.cons hi (.cons (aq spD P (σ1 [] 1)) (.cons (jv (s:=P.length) (by exact Nat.le_trans (by assumption) (by decide)) (σ1 [] 1)) (.cons e .nil)))))) [.c ((w.filter fun l=>!l.isEmpty).map lvD),.b false,.v (.d (.int P.length)),.c ((List.range P.length).map fun i=>D.int ((i:Nat):Int)),.l .next (st R j')] (by kernel_rfl) (by kernel_rfl)
noncomputable def apF (a:List (Nat×Nat)×Nat)(p:Nat×Nat):List (Nat×Nat)×Nat:=if a.2≤p.1 then(a.1++[p],p.2)else a
noncomputable def apN (l:List (Nat×Nat)):List (Nat×Nat):=(l.foldl apF ([],0)).1
noncomputable def t5 (a:List (Nat×Nat)×Option Nat)(p:Nat×Nat):List (Nat×Nat)×Option Nat:=match a.2 with
 |none=>(a.1++[p],some p.1)
 |some r=>if p.2≤r then(a.1++[p],some p.1)else a
noncomputable def acv (l:List (Nat×Nat)):List (Nat×Nat):=(l.reverse.foldl t5 ([],none)).1
theorem wx (N:Nat) (l:List (Nat×Nat)) (hl:l.length≤10000):(fx (N+1)).pure (.fn "search_apart") [.list (l.map prD)]=some (.list ((apN l).map prD)):=by
 let F:=ae 47 ["apart"]
 let LB:=stB (nth F.body 1)
 let ρ:=yy (some (.d (.list (l.map prD))))
 let J:=Option V×Option V×Nat
 let st:List (Nat×Nat)×Nat→J→St:=fun a j=>⟨ρ (some (.m 0)) (some (.d (.int a.2))) j.1 j.2.1,σ1 (a.1.map prD) j.2.2⟩
 have hb:LB=[nth LB 0]:=by kernel_rfl
 obtain⟨j',e⟩:=jz (turn:=c9 (fx N) F.muts F.scope 19 (stT (nth F.body 1)) LB) prD st apF (fun i a=>a.1.length≤i) l (fun i p a j _ hi inv=>by
  obtain⟨acc,r⟩:=a
  replace inv:acc.length≤i:=inv
  let v:=j.2.2
  let j':Nat→J:=fun v=>(some (.d (.int p.1)),some (.d (.int p.2)),v)
  have h0:aj 4 (stT (nth F.body 1)) (prD p) (st (acc,r) j).ρ=some (st (acc,r) (j' v)).ρ:=by kernel_rfl
  have ge:=abj (σ1 (acc.map prD) v) p.1 r
  have ap:=jy (acc.map prD) v (prD p) (by rw[List.length_map];exact aek hl hi inv)
  have snoc:st (acc++[p],p.2) (j' (v+1))=⟨(st (acc,p.2) (j' v)).ρ,σ1 (acc.map prD++[prD p]) (v+1)⟩:=by simp only[st,cr];rfl
  unfold apF
  by_cases q:r≤p.1
  ·rw[decide_eq_true q]at ge
   dsimp only
   rw[if_pos q]
   refine⟨⟨j' (v+1),?_⟩,by show(acc++[p]).length≤_;rw[List.length_append];exact Nat.succ_le_succ inv⟩
   rw[snoc]
   exact am h0 (dh hb (a8 (.cons ge (.cons ap .nil)) [.b true,.e (.d .none) (σ1 (acc.map prD++[prD p]) (v+1))] (by kernel_rfl)))
  ·rw[decide_eq_false q]at ge
   dsimp only
   rw[if_neg q]
   refine⟨⟨j' v,?_⟩,Nat.le_succ_of_le inv⟩
   exact am h0 (dh hb (a8 (.cons ge .nil) [.b false] (by kernel_rfl)))) ([],0) (none,none,1) (Nat.zero_le _)
 exact ab y4 (ρ none none none none) (by kernel_rfl) (.m 0) (st (l.foldl apF ([],0)) j') (.cons e .nil) [.l .next (st (l.foldl apF ([],0)) j')] (by kernel_rfl) (by kernel_rfl)
theorem nv (N:Nat) (l:List (Nat×Nat)) (hl:l.length≤10000):(fx (N+1)).pure (.fn "search_apart_back") [.list (l.map prD)]=some (.list ((acv l).map prD)):=by
 let F:=ae 48 ["apart"]
 let LB:=stB (nth F.body 1)
 let ρ:=q6 (some (.d (.list (l.map prD))))
 let J:=Option V×Option V×Nat
 let st:List (Nat×Nat)×Option Nat→J→St:=fun a j=>⟨ρ (some (.m 0)) (some (.d (onD a.2))) j.1 j.2.1,σ1 (a.1.map prD) j.2.2⟩
 have hb:LB=[nth LB 0]:=by kernel_rfl
 obtain⟨j',e⟩:=jz (turn:=c9 (fx N) F.muts F.scope 19 (stT (nth F.body 1)) LB) prD st t5 (fun i a=>a.1.length≤i) l.reverse (fun i p a j _ hi inv=>by
  rw[List.length_reverse]at hi
  obtain⟨acc,r⟩:=a
  replace inv:acc.length≤i:=inv
  let v:=j.2.2
  let j':Nat→J:=fun v=>(some (.d (.int p.1)),some (.d (.int p.2)),v)
  have h0:aj 4 (stT (nth F.body 1)) (prD p) (st (acc,r) j).ρ=some (st (acc,r) (j' v)).ρ:=by kernel_rfl
  have ap:=jy (acc.map prD) v (prD p) (by rw[List.length_map];exact aek hl hi inv)
  have snoc:st (acc++[p],some p.1) (j' (v+1))=⟨(st (acc,some p.1) (j' v)).ρ,σ1 (acc.map prD++[prD p]) (v+1)⟩:=by simp only[st,cr];rfl
  have grow:(acc++[p]).length≤i+1:=by rw[List.length_append];exact Nat.succ_le_succ inv
  unfold t5
  cases r with
  |none=>
   refine⟨⟨j' (v+1),?_⟩,grow⟩
   dsimp only
   rw[snoc]
   exact am h0 (dh hb (a8 (.cons (rfl:b8 (σ1 (acc.map prD) v) .Is (.d .none) (.d .none)=some true) (.cons ap .nil)) [.b true,.e (.d .none) (σ1 (acc.map prD++[prD p]) (v+1))] (by kernel_rfl)))
  |some r=>
   have nn:b8 (σ1 (acc.map prD) v) .Is (.d (.int r)) (.d .none)=some false:=rfl
   have le:=a71 (σ1 (acc.map prD) v) p.2 r
   by_cases q:p.2≤r
   ·rw[decide_eq_true q]at le
    dsimp only
    rw[if_pos q]
    refine⟨⟨j' (v+1),?_⟩,grow⟩
    rw[snoc]
    exact am h0 (dh hb (a8 (.cons nn (.cons le (.cons ap .nil))) [.b false,.b true,.e (.d .none) (σ1 (acc.map prD++[prD p]) (v+1))] (by kernel_rfl)))
   ·rw[decide_eq_false q]at le
    dsimp only
    rw[if_neg q]
    refine⟨⟨j' v,?_⟩,Nat.le_succ_of_le inv⟩
    exact am h0 (dh hb (a8 (.cons nn (.cons le .nil)) [.b false,.b false] (by kernel_rfl)))) ([],none) (none,none,1) (Nat.zero_le _)
 let R:=l.reverse.foldl t5 ([],none)
 exact ab q7 (ρ none none none none) (by kernel_rfl) (.m 0) (st R j') (.cons (lj prD l (σ1 [] 1)) (.cons e .nil)) [.e (.d (.list (l.reverse.map prD))) (σ1 [] 1),.l .next (st R j')] (by kernel_rfl) (by kernel_rfl)
theorem ae3 (P:List Pc) (w:Lv) (eo:Option (List Nat)) (wide:Bool):(a0l P w eo wide).length≤P.length:=by
 unfold a0l
 cases cw w
 ·have:∀n,((List.range n).foldl (a2h P w eo wide) []).length≤n:=by
   intro n
   induction n with
   |zero=>exact Nat.le_refl _
   |succ n ih=>
    rw[List.range_succ,List.foldl_append]
    show(a2h P w eo wide _ n).length≤_
    unfold a2h
    split
    ·exact Nat.le_succ_of_le ih
    ·exact Nat.le_trans (a6e _ _) (Nat.succ_le_succ ih)
  exact this _
 ·exact Nat.zero_le _
noncomputable def uz (l:List (Nat×Nat))(ov back:Bool):List (Nat×Nat):=if back then(if ov then l.reverse else acv l)else if ov then l else apN l
theorem a6s (N:Nat) (a b c d dat p:D) (t:List Int) (s:Nat) (G:List Gr) (es:List El) (br:Nat→Bool) (whole wide ov back:Bool) (hs:s≤3) (hG:G.length≤50) (hE:(cp G).length≤1000) (hc:a5q G=List.range G.length)
  (hP:j3 (gg G s)) (he:es.length≤1000) (h1:1≤t.length) (ht:t.length≤100) (hx:wide=true→whole=false)
  (hloc:(fx (N+3)).pure (.meth "Elements" "located") [TD a b c d,al t,dat]=some (.list (G.map gD)))
  (hel:(fx (N+3)).pure (.meth "Elements" "elements_of") [TD a b c d,p,dat]=some (db es))
  (hbr:whole=true→∀i,1≤i→i<t.length→(fx (N+3)).pure (.fn "cluster_break") [al t,.int i,dat]=some (.bool (br i))):
  (fx (N+5)).pure (.fn "matches") [p,al t,TD a b c d,dat,.int s,.str "non-ignorable",.bool whole,.bool wide,.bool ov,.bool back]=
   some (.list ((uz (a0l (gg G s) (c7 es s) (if whole then some (o3 br t.length)else none) wide) ov back).map prD)):=by
 let F:=agu 49
 let Φ:=fx (N+4)
 let P:=gg G s
 let w:=c7 es s
 let eo:Option (List Nat):=if whole then some (o3 br t.length)else none
 let A:=a0l P w eo wide
 let ρ:=aaw (some (.d p)) (some (.d (al t))) (some (.d (TD a b c d))) (some (.d dat)) (some (.d (.int s))) (some (.d (.str "non-ignorable"))) (some (.d (.bool whole))) (some (.d (.bool wide))) (some (.d (.bool ov))) (some (.d (.bool back)))
 let PD:D:=.list (P.map spD)
 let AD:D:=.list (A.map prD)
 have f1:Φ.pure (.fn "search_pieces") [al t,TD a b c d,dat,.int s,.str "non-ignorable"]=some PD:=vi (N+1) a b c d dat (al t) s G hs (by exact al7 hG) hE hc hloc
 have f3:Φ.pure (.fn "search_wanted") [p,TD a b c d,dat,.int s,.str "non-ignorable"]=some (cq w):=ur (N+2) a b c d dat p s es hs he hel
 have hwl:w.length=s:=by show((List.range s).map _).length=s;rw[List.length_map,List.length_range]
 have hlv:∀p∈P,p.lv.length=w.length:=by
  intro p hp
  refine ar (List.mem_map.mp hp) ?_;intro g _ rf2;subst rf2
  rw[hwl]
  show((List.range s).map _).length=s
  rw[List.length_map,List.length_range]
 have f4:Φ.pure (.fn "search_all") [PD,cq w,sq eo,.bool wide]=some AD:=a0b N P w eo wide hP (by exact amu hs hwl) hlv (by intro h;show(if whole then _ else none)=none;rw[hx h];rfl)
 have s0:evS Φ F.muts F.scope 20 (nth F.body 0) ⟨ρ none none none,σ0⟩=some (.next,⟨ρ (some (.d PD)) none none,σ0⟩):=a8 (.cons f1 .nil) [.v (.d PD)] (by kernel_rfl)
 have s1:evS Φ F.muts F.scope 20 (nth F.body 1) ⟨ρ (some (.d PD)) none none,σ0⟩=some (.next,⟨ρ (some (.d PD)) (some (.d (sq eo))) none,σ0⟩):=by
  cases whole with
  |false=>exact a8 .nil [] (by kernel_rfl)
  |true=>exact a8 (.cons (yl (N+3) t dat br h1 ht (hbr rfl)) .nil) [.v (.d (p9 (o3 br t.length)))] (by kernel_rfl)
 have s2:evS Φ F.muts F.scope 20 (nth F.body 2) ⟨ρ (some (.d PD)) (some (.d (sq eo))) none,σ0⟩=some (.next,⟨ρ (some (.d PD)) (some (.d (sq eo))) (some (.d AD)),σ0⟩):=a8 (.cons f3 (.cons f4 .nil)) [.v (.d (cq w)),.v (.d AD)] (by kernel_rfl)
 let s':St:=⟨ρ (some (.d PD)) (some (.d (sq eo))) (some (.d AD)),σ0⟩
 have hA:A.length≤50:=Nat.le_trans (ae3 P w eo wide) hP.1
 have fin:cc (evS Φ F.muts F.scope 20) [nth F.body 3,nth F.body 4] s'=some (.ret (.d (.list ((uz A ov back).map prD))),s'):=by
  cases back with
  |true=>cases ov with
   |true=>exact a9 (.cons (lj prD A σ0) .nil) [.e (.d (.list (A.reverse.map prD))) σ0] (by kernel_rfl)
   |false=>exact a9 (.cons (nv (N+3) A (by exact aka hA)) .nil) [.v (.d (.list ((acv A).map prD)))] (by kernel_rfl)
  |false=>cases ov with
   |true=>exact a9 .nil [] (by kernel_rfl)
   |false=>exact a9 (.cons (wx (N+3) A (by exact aka hA)) .nil) [.v (.d (.list ((apN A).map prD)))] (by kernel_rfl)
 have hb:F.body=[nth F.body 0,nth F.body 1,nth F.body 2,nth F.body 3,nth F.body 4]:=by kernel_rfl
 have run:cc (evS Φ F.muts F.scope 20) F.body ⟨ρ none none none,σ0⟩=some (.ret (.d (.list ((uz A ov back).map prD))),s'):=by
  rw[hb]
  exact b9 s0 (b9 s1 (b9 s2 fin))
 exact z8 ab2 (ρ none none none) (by kernel_rfl) run (by kernel_rfl)
noncomputable def ac6:List (D×D):=[(.str "gc",.str "Cn"),(.str "ccc",.int 0),(.str "bc",.str "L"),(.str "lb",.str "XX"),(.str "ea",.str "N"),(.str "sc",.str "Zzzz"),(.str "jt",.str "U"),(.str "incb",.str "None"),(.str "gcb",.str "Other"),(.str "wb",.str "Other"),(.str "sb",.str "Other"),
 (.str "ex",.bool false),(.str "sd",.bool false),(.str "cased",.bool false),(.str "ci",.bool false),(.str "ep",.bool false),(.str "di",.bool false),(.str "ids",.bool false),(.str "idc",.bool false),(.str "xids",.bool false),(.str "xidc",.bool false),(.str "pat_syn",.bool false),(.str "pat_ws",.bool false),(.str "idst",.bool false),
 (.str "dm",.none),(.str "uc",.none),(.str "lc",.none),(.str "tc",.none),(.str "cf",.none),(.str "bm",.none),(.str "bpb",.none),(.str "scx",.none),(.str "nt",.none),(.str "nv",.none),(.str "name",.none),(.str "conf",.none),(.str "nfkc_cf",.none),
 (.str "suc",.tuple []),(.str "slc",.tuple []),(.str "stc",.tuple []),(.str "alias",.tuple []),(.str "idna",.tuple [.str "disallowed",.tuple []])]
noncomputable def aq3:D:=.dict .str ac6
noncomputable def aod:Bool→D
 |false=>.dict .any []
 |true=>.dict .str [(.str "gcb",.inst "RangeMap" [("default",.str "Other"),("starts",.list [.int 0,.int 121,.int 122]),("values",.list [.str "Other",.str "Extend",.str "Other"])])]
noncomputable def jr(m:Bool):D:=.inst "Data" [("defaults",aq3),("maps",aod m),("properties",.dict .any []),("words",.dict .any [])]
noncomputable def ce:List Int:=[97,98,99,100,101,120,121]
theorem ad6 (N:Nat) (m:Bool) (c:Int):(fx (N+1)).pure (.meth "Data" "get") [jr m,.str "ccc",.int c]=some (.int 0):=by
 cases m<;>exact xo (Nat.succ_pos _) r8 (by kernel_rfl)
theorem ud{c:Int}(h:c∈ce):c=97∨c=98∨c=99∨c=100∨c=101∨c=120∨c=121:=by simpa[ce]using h
theorem agp (N:Nat) (m:Bool) (c:Int) (h:c∈ce):(fx (N+8)).pure (.fn "nfd") [.list [.int c],jr m]=some (.list [.int c]):=by
 rcases ud h with rfl|rfl|rfl|rfl|rfl|rfl|rfl<;>cases m<;>kernel_rfl
theorem a94{turn:D→St→Option (Fl×St)}{x:D}{s s':St}(h:turn x s=some (.next,s')):iu turn [x] s=some (.next,s'):=by
 rw[gr,h];rfl
noncomputable def tu(p:Int×Nat):D:=.tuple [.int p.1,.int p.2]
noncomputable def yz(p:Int×Nat):D:=.tuple [.int p.1,.int p.2,.int 0]
theorem aem (xs:List D) (v:Nat) (x:D) (h:xs.length+1≤1000000):dm (σ1 xs v) (.m 0) ("insert":Str) [.d (.int xs.length),.d x]=some (.d .none,σ1 (xs++[x]) (v+1)):=by
 have e:dm (σ1 xs v) (.m 0) ("insert":Str) [.d (.int xs.length),.d x]=if 0≤(xs.length:Int)∧(xs.length:Int)≤xs.length∧fe (xs.length+1)=true then some (.d .none,(σ1 xs v).put 0 (.list (xs.take (xs.length:Int).toNat++x::xs.drop (xs.length:Int).toNat)))else none:=by kernel_rfl
 rw[e,if_pos ⟨by exact Int.natCast_nonneg _,by grind,a2m h⟩,Int.toNat_natCast,List.take_length,List.drop_length];rfl
theorem qx (N:Nat) (m:Bool) (t:List Int) (ht:t.length≤100) (hs:∀c∈t,c∈ce):(fx (N+9)).pure (.fn "coll_decomposed") [al t,jr m]=some (.list (t.zipIdx.map tu)):=by
 let F:=ae 82 ["rows"]
 let Φ:=fx (N+8)
 let LB:=stB (nth F.body 1)
 let IB:=stB (nth LB 0)
 let ρ:=uh (some (.d (al t))) (some (.d (jr m)))
 let J:=Option V×Option V×Option V×Option V×Option V×Nat
 let st:List (Int×Nat)→J→St:=fun acc j=>⟨ρ (some (.m 0)) j.1 j.2.1 j.2.2.1 j.2.2.2.1 j.2.2.2.2.1,σ1 (acc.map yz) j.2.2.2.2.2⟩
 have hb:LB=[nth LB 0]:=by kernel_rfl
 obtain⟨j',e⟩:=xq (turn:=c9 Φ F.muts F.scope 19 (stT (nth F.body 1)) LB) (fun p:Int×Nat=>D.tuple [.int p.2,.int p.1]) st (fun acc p=>acc++[p]) (fun i acc=>acc.length=i) t.zipIdx (fun i p acc j hp hi inv=>by
  rw[List.length_zipIdx] at hi
  obtain⟨c,k⟩:=p
  have hc:=hs c (List.fst_mem_of_mem_zipIdx (List.mem_of_getElem? hp))
  let v:=j.2.2.2.2.2
  let σ:=σ1 (acc.map yz) v
  let j0:J:=(some (.d (.int k)),some (.d (.int c)),j.2.2)
  let j1:J:=(some (.d (.int k)),some (.d (.int c)),some (.d (.int c)),some (.d (.int 0)),some (.d (.int acc.length)),v+1)
  have h0:aj 4 (stT (nth F.body 1)) (D.tuple [.int k,.int c]) (st acc j).ρ=some (st acc j0).ρ:=by kernel_rfl
  refine⟨⟨j1,?_⟩,by rw[List.length_append];exact congrArg (·+1) inv⟩
  have gt:b8 σ .Gt (.d (.int 0)) (.d (.int 0))=some false:=rfl
  let s2:St:=⟨ρ (some (.m 0)) (some (.d (.int k))) (some (.d (.int c))) (some (.d (.int c))) (some (.d (.int 0))) (some (.d (.int acc.length))),σ⟩
  have ln:builtin "len" σ [.m 0]=some (.int acc.length):=by
   rw[a3f];exact congrArg (fun n:Nat=>some (D.int n)) (List.length_map ..)
  have w:b7 (ef Φ F.scope (stE (nth IB 2))) (cc (evS Φ F.muts F.scope 17) (stB (nth IB 2))) a4f s2=some (.next,s2):=an (by decide) (ah (σ':=σ) (.cons gt .nil) [.b false] (by kernel_rfl))
  have ins:=aem (acc.map yz) v (yz (c,k)) (by rw[List.length_map];exact alw ht hi inv)
  rw[List.length_map] at ins
  have snoc:st (acc++[(c,k)]) j1=⟨(st acc j1).ρ,σ1 (acc.map yz++[yz (c,k)]) (v+1)⟩:=by simp only[st,cr];rfl
  have one:iu (c9 Φ F.muts F.scope 18 (stT (nth LB 0)) IB) [.int c] (st acc j0)=some (.next,st (acc++[(c,k)]) j1):=by
   rw[snoc]
   exact a94 (am (ρ:=ρ (some (.m 0)) (some (.d (.int k))) (some (.d (.int c))) (some (.d (.int c))) j.2.2.2.1 j.2.2.2.2.1) (by kernel_rfl) (a9 (.cons (ad6 (N+7) m c) (.cons ln (.cons w (.cons ins .nil)))) [.v (.d (.int 0)),.v (.d (.int acc.length)),.l .next s2,.e (.d .none) (σ1 (acc.map yz++[yz (c,k)]) (v+1))] (by kernel_rfl)))
  exact am h0 (dh hb (a8 (.cons (agp N m c hc) (.cons one .nil)) [.v (.d (.list [.int c])),.l .next (st (acc++[(c,k)]) j1)] (by kernel_rfl)))) [] (none,none,none,none,none,1) rfl
 rw[←lf D.int t 0,show t.zipIdx.foldl (fun acc p=>acc++[p]) []=t.zipIdx by rw[pe (fun x=>x),List.nil_append,List.map_id''];exact fun _=>rfl] at e
 let s':=st t.zipIdx j'
 have hc:be (a2x Φ 39 s'.ρ s'.σ.ver (stE (nth F.body 2))) (t.zipIdx.map yz) s'.σ=some (t.zipIdx.map tu,s'.σ):=bn yz tu t.zipIdx fun p _=>by
  have sl:d3 (some (.tuple [.int p.1,.int p.2,.int 0])) none (some 2) none s'.σ=some (.d (tu p),s'.σ):=by kernel_rfl
  refine a91 ?_ rfl
  exact b6 (.cons sl .nil) [.e (.d (tu p)) s'.σ] (by kernel_rfl)
 exact ab ta (ρ none none none none none none) (by kernel_rfl) (.d (.list (t.zipIdx.map tu))) s' (.cons e (.cons (bc yz t.zipIdx (by rw[List.length_zipIdx];exact ahf ht)) (.cons hc .nil))) [.l .next s',.c (t.zipIdx.map tu)] (by kernel_rfl) (by kernel_rfl)
noncomputable def kh (n:Nat):D:=.list ((List.replicate n false).map D.bool)
noncomputable def rh (t:List Int):D:=.list (t.map .int)
theorem a1f (n k:Nat) (h:k<n) (σ:Sto):bx σ (.d (kh n)) (.d (.int k))=some (.d (.bool false)):=ay D.bool (List.replicate n false) k false (by rw[List.getElem?_replicate,if_pos h]) σ
theorem y5 (n:Nat) (σ:Sto):builtin "len" σ [.d (kh n)]=some (.int n):=(aq D.bool (List.replicate n false) σ).trans (by rw[List.length_replicate])
theorem uu (σ:Sto) (a b:Nat):b8 σ .Lt (.d (.int a)) (.d (.int b))=some (decide (a<b)):=congrArg some (by by_cases h:a<b<;>simp[h])
theorem abc{β:Type}(emb:β→D) (l:List β) (v:Nat):builtin "len" (σ1 (l.map emb) v) [.m 0]=some (.int l.length):=by
 rw[a3f];exact congrArg (fun n:Nat=>some (D.int n)) (List.length_map ..)
theorem a3c (N:Nat) (n at_ most:Nat) (hn:n≤90) (hm:most≤10) (ha:at_<n):(fx (N+1)).pure (.fn "coll_live") [kh n,.int at_,.int most]=some (.list ((List.range' at_ (min most (n-at_))).map aw)):=by
 let F:=ae 81 ["found"]
 let Φ:=fx N
 let st:List Nat→Nat→Nat→St:=fun acc a v=>⟨w8 (some (.d (kh n))) (some (.d (.int a))) (some (.d (.int most))) (some (.m 0)),σ1 (acc.map aw) v⟩
 let T:=ef Φ F.scope (stE (nth F.body 1))
 let B:=cc (evS Φ F.muts F.scope 19) (stB (nth F.body 1))
 have w:∀r acc a v k,r<k→min (most-acc.length) (n-a)=r→acc.length≤10→∃v',b7 T B k (st acc a v)=some (.next,st (acc++List.range' a r) (a+r) v'):=by
  intro r
  induction r with
  |zero=>
   intro acc a v k hk hr _
   refine⟨v,?_⟩
   show _=some (Fl.next,st (acc++[]) a v)
   rw [List.append_nil]
   let σ:=σ1 (acc.map aw) v
   have l1:=uu σ a n
   by_cases q:a<n
   ·rw [decide_eq_true q] at l1
    have l2:=uu σ acc.length most
    rw [decide_eq_false (by grind)] at l2
    exact an hk (ah (σ':=σ) (.cons (y5 n σ) (.cons l1 (.cons (abc aw acc v) (.cons l2 .nil)))) [.v (.d (.int n)),.b true,.v (.d (.int acc.length)),.b false] (by kernel_rfl))
   ·rw [decide_eq_false q] at l1
    exact an hk (ah (σ':=σ) (.cons (y5 n σ) (.cons l1 .nil)) [.v (.d (.int n)),.b false] (by kernel_rfl))
  |succ r ih=>
   intro acc a v k hk hr hl
   obtain⟨k,rfl⟩:∃k',k=k'+1:=⟨k-1,by grind⟩
   let σ:=σ1 (acc.map aw) v
   have l1:=uu σ a n
   rw [decide_eq_true (by exact aop hr)] at l1
   have l2:=uu σ acc.length most
   rw [decide_eq_true (by exact ag8 hr)] at l2
   have ap:=jy (acc.map aw) v (aw a) (by rw [List.length_map];exact aly hl)
   have snoc:st (acc++[a]) (a+1) (v+1)=⟨(st acc (a+1) v).ρ,σ1 (acc.map aw++[aw a]) (v+1)⟩:=by simp only [st,cr]
   have ck:T (st acc a v)=some (true,st acc a v):=ah (σ':=σ) (.cons (y5 n σ) (.cons l1 (.cons (abc aw acc v) (.cons l2 .nil)))) [.v (.d (.int n)),.b true,.v (.d (.int acc.length)),.b true] (by kernel_rfl)
   have hb:B (st acc a v)=some (.next,st (acc++[a]) (a+1) (v+1)):=by
    rw [snoc]
    exact a9 (.cons (a1f n a (by exact aop hr) σ) (.cons ap .nil)) [.v (.d (.bool false)),.e (.d .none) (σ1 (acc.map aw++[aw a]) (v+1))] (by kernel_rfl)
   obtain⟨v',e⟩:=ih (acc++[a]) (a+1) (v+1) k (by exact Nat.lt_of_succ_lt_succ (by assumption)) (by rw [List.length_append,List.length_cons,List.length_nil];exact am9 hr) (by rw [List.length_append,List.length_cons,List.length_nil];exact ana hm hr)
   refine⟨v',?_⟩
   rw [fq ck hb e,List.append_assoc,List.range'_succ,show a+1+r=a+(r+1) by grind]
   rfl
 obtain⟨v',e⟩:=w (min most (n-at_)) [] at_ 1 100 (by exact aid hm) rfl (Nat.zero_le _)
 rw [List.nil_append] at e
 let s':=st (List.range' at_ (min most (n-at_))) (at_+min most (n-at_)) v'
 exact ab a41 (w8 (some (.d (kh n))) (some (.d (.int at_))) (some (.d (.int most))) none) (by kernel_rfl) (.m 0) s' (.cons e .nil) [.l .next s'] (by kernel_rfl) (by kernel_rfl)
theorem aaq{T:St→Option (Bool×St)}{B:St→Option (Fl×St)}{k:Nat}{s s1 s2:St}(hk:0<k)(h:T s=some (true,s1))(hb:B s1=some (.brk,s2)):b7 T B k s=some (.next,s2):=by
 obtain⟨k,rfl⟩:∃k',k=k'+1:=⟨k-1,by exact ahq hk⟩
 rw[ie,h]
 show(B s1).bind _=_
 rw[hb];rfl
noncomputable def au(t:List Int)(i:Nat):Int:=(t[i]?).getD 0
noncomputable def iz (t:List Int)(ps:List Nat):List Int:=ps.map (au t)
theorem gb (t:List Int) (i:Nat) (h:i<t.length) (σ:Sto):bx σ (.d (rh t)) (.d (.int i))=some (.d (.int (au t i))):=ay .int t i _ (dn t 0 h) σ
theorem adz (ps:List Nat) (l:Nat) (h:ps.getLast?=some l) (σ:Sto):bx σ (.d (.list (ps.map aw))) (.d (.int (-1)))=some (.d (aw l)):=by
 have hp:0<ps.length:=by cases ps with|nil=>cases h|cons _ _=>exact Nat.succ_pos _
 refine vf (n:=ps.length-1) (by rw[List.length_map];exact a5e hp) ?_
 rw[List.getElem?_map,←List.getLast?_eq_getElem?,h];rfl
theorem a0c (N:Nat) (R:Rows) (b c d:D) (m:Bool) (t:List Int) (ps:List Nat) (l:Nat) (ht:t.length≤90) (hps:∀p∈ps,p<t.length) (hl:ps.getLast?=some l) (hn:ps.length≤100):
  (fx (N+3)).pure (.meth "Elements" "with_marks") [TD (fc R) b c d,rh t,.list (ps.map aw),kh t.length,jr m]=some (zf (iz t ps)):=by
 let F:=d0 80 11
 let Φ:=fx (N+2)
 let PD:D:=.list (ps.map aw)
 let ρ:=nc (some (.d (TD (fc R) b c d))) (some (.d (rh t))) (some (.d PD)) (some (.d (kh t.length))) (some (.d (jr m)))
 let KV:D:=.tuple ((iz t ps).map .int)
 have hc:be (bq Φ 38 (ρ none none none none) 0 (sub (stE (nth F.body 0)) 1)) (ps.map aw) σ0=some ((iz t ps).map .int,σ0):=by
  show _=some ((ps.map (au t)).map D.int,σ0)
  rw[List.map_map]
  exact bn aw _ ps fun p hp=>b6 (.cons (gb t p (hps p hp) σ0) .nil) [.v (.d (.int (au t p)))] (by kernel_rfl)
 have hr:=bc aw ps (by exact Nat.le_trans (by assumption) (by decide))
 have tp:=ut ((iz t ps).map .int) σ0
 have la:=adz ps l hl σ0
 let s1:St:=⟨ρ (some (.d KV)) (some (.d (.int (l+1:Nat)))) (some (.d (.int 0))) none,σ0⟩
 have w:∃r,b7 (ef Φ F.scope (stE (nth F.body 2))) (cc (evS Φ F.muts F.scope 19) (stB (nth F.body 2))) a4f s1=some (.next,⟨ρ (some (.d KV)) (some (.d (.int (l+1:Nat)))) (some (.d (.int 0))) r,σ0⟩):=by
  have lt:=uu σ0 (l+1) t.length
  have ln:=aq D.int t σ0
  by_cases q:l+1<t.length
  ·rw[decide_eq_true q]at lt
   have z:b8 σ0 .Eq (.d (.int 0)) (.d (.int 0))=some true:=rfl
   exact⟨some (.d (.int 0)),aaq (by decide) (ah (s:=s1) (σ':=σ0) (.cons ln (.cons lt .nil)) [.v (.d (.int t.length)),.b true] (by kernel_rfl)) (a9 (.cons (gb t (l+1) q σ0) (.cons (ad6 (N+1) m (au t (l+1))) (.cons z .nil))) [.v (.d (.int (au t (l+1)))),.v (.d (.int 0)),.b true] (by kernel_rfl))⟩
  ·rw[decide_eq_false q]at lt
   exact⟨none,an (by decide) (ah (s:=s1) (σ':=σ0) (.cons ln (.cons lt .nil)) [.v (.d (.int t.length)),.b false] (by kernel_rfl))⟩
 refine ex1 w ?_;clear w;intro r w
 let s2:St:=⟨ρ (some (.d KV)) (some (.d (.int (l+1:Nat)))) (some (.d (.int 0))) r,σ0⟩
 exact ab ng (ρ none none none none) (by kernel_rfl) (.d KV) s2 (.cons hr (.cons hc (.cons tp (.cons la (.cons w .nil))))) [.c ((iz t ps).map .int),.v (.d KV),.v (.d (aw l)),.l .next s2] (by kernel_rfl) (by kernel_rfl)
noncomputable def si (L:List (Int×Nat)):D:=.dict .int (L.map fun p=>(.int p.1,.int p.2))
noncomputable def wg:List (Int×Nat)→Int→Option Nat
 |[],_=>none
 |(k,n)::L,c=>if k=c then some n else wg L c
theorem a1t (c:Int):∀L:List (Int×Nat),a6 (D.int c) (L.map fun p=>(D.int p.1,D.int p.2))=(wg L c).map fun n:Nat=>D.int n
 |[]=>rfl
 |(k,n)::L=>by
  show(if(k==c)=true then some (D.int n)else a6 (D.int c) (L.map fun p=>(D.int p.1,D.int p.2)))=(if k=c then some n else wg L c).map _
  rw[a1t c L]
  by_cases h:k=c
  ·rw[if_pos h,if_pos (beq_iff_eq.mpr h)];rfl
  ·rw[if_neg h,if_neg (fun e=>h (beq_iff_eq.mp e))]
theorem abe (L:List (Int×Nat)) (c:Int) (n:Nat) (h:wg L c=some n) (σ:Sto):dm σ (.d (si L)) ("get":Str) [.d (.int c),.d (.int 0)]=some (.d (.int n),σ):=by
 have e:dm σ (.d (si L)) ("get":Str) [.d (.int c),.d (.int 0)]=some ((match a6 (D.int c) (L.map fun p=>(D.int p.1,D.int (p.2:Nat)))with|some v=>.d v|none=>.d (.int 0)),σ):=by kernel_rfl
 rw[e,a1t,h];rfl
theorem a74 (R:Rows) (k:List Int) (σ:Sto):b8 σ .NotIn (.d (.tuple (k.map .int))) (.d (fc R))=some (!(bg R k).isSome):=by
 refine(if_pos (ya k)).trans ?_
 rw[z6]
 cases bg R k<;>rfl
noncomputable def cmD (es:List El)(ps:List Nat)(n:Nat):D:=.inst "CollMatch" [("elements",db es),("places",.list (ps.map aw)),("onward",.int n)]
theorem a27 (l:List Nat) (i:Nat) (hi:i≤1000000) (σ:Sto):d3 (some (.list (l.map aw))) none (some (i:Int)) none σ=some (.d (.list ((l.take i).map aw)),σ):=by
 unfold d3
 rw[Option.all_some,ku (by exact Int.natCast_nonneg _) (by exact om3 hi),List.map_take]
 rfl
theorem ad4 (N:Nat) (R:Rows) (L:List (Int×Nat)) (c d:D) (mm:Bool) (t:List Int) (at_ lm m:Nat) (es:List El) (ht:t.length≤90) (ha:at_<t.length) (hlm:lm=1∨lm=2) (hL:wg L (au t at_)=some lm)
  (hm:1≤m) (hms:m≤min lm (t.length-at_)) (hk:bg R (iz t (List.range' at_ m))=some es) (hno:m<min lm (t.length-at_)→bg R (iz t (List.range' at_ (min lm (t.length-at_))))=none):
  (fx (N+4)).pure (.meth "Elements" "match") [TD (fc R) (si L) c d,rh t,.int at_,kh t.length,jr mm]=some (cmD es (List.range' at_ m) (at_+m)):=by
 let F:=d0 80 10
 let Φ:=fx (N+3)
 let T:=TD (fc R) (si L) c d
 let sz:=min lm (t.length-at_)
 let live:=List.range' at_ sz
 have hsz:sz=1∨sz=2:=by show min lm (t.length-at_)=1∨min lm (t.length-at_)=2;exact amy hlm hm hms
 have hll:live.length=sz:=List.length_range' ..
 let LD:D:=.list (live.map aw)
 let ρ:=v9 (some (.d T)) (some (.d (rh t))) (some (.d (.int at_))) (some (.d (kh t.length))) (some (.d (jr mm)))
 have c0:=gb t at_ ha σ0
 have lg:=abe L (au t at_) lm hL σ0
 have mx:builtin "max" σ0 [.d (.int 1),.d (.int lm)]=some (.int lm):=by rcases hlm with h|h<;>rw[h]<;>kernel_rfl
 have li:=a3c (N+2) t.length at_ lm ht (by grind) ha
 have ln:builtin "len" σ0 [.d LD]=some (.int sz):=(aq aw live σ0).trans (by rw[hll])
 let st:Nat→St:=fun s=>⟨ρ (some (.d LD)) (some (.d (.int s))) none none,σ0⟩
 have mem:∀s,∀p∈live.take s,p<t.length:=fun s p hp=>by
  have:=List.mem_range'_1.mp (List.mem_of_mem_take hp)
  have:sz≤t.length-at_:=Nat.min_le_right _ _
  exact akb (by assumption) this
 let Tt:=ef Φ F.scope (stE (nth F.body 2))
 let B:=cc (evS Φ F.muts F.scope 19) (stB (nth F.body 2))
 have chk:∀s,1≤s→s≤sz→Tt (st s)=some (!(bg R (iz t (live.take s))).isSome,st s):=fun s h1 h2=>by
  have gt:b8 σ0 .Gt (.d (.int s)) (.d (.int 0))=some true:=congrArg some (decide_eq_true (by exact ajh h1))
  let key:=iz t (live.take s)
  have hc:be (bq Φ 35 (st s).ρ 0 (sub (sub (sub (stE (nth F.body 2)) 1) 0) 1)) ((live.take s).map aw) σ0=some (key.map .int,σ0):=by
   show _=some (((live.take s).map (au t)).map D.int,σ0)
   rw[List.map_map]
   exact bn aw _ (live.take s) fun p hp=>b6 (.cons (gb t p (mem s p hp) σ0) .nil) [.v (.d (.int (au t p)))] (by kernel_rfl)
  exact ah (σ':=σ0) (.cons gt (.cons (a27 live s (by grind) σ0) (.cons (bc aw (live.take s) (by rw[List.length_take];exact alt hsz hll)) (.cons hc (.cons (ut (key.map .int) σ0) (.cons (a74 R key σ0) .nil))))))
   [.b true,.e (.d (.list ((live.take s).map aw))) σ0,.c (key.map .int),.v (.d (.tuple (key.map .int))),.b (!(bg R key).isSome)] (by kernel_rfl)
 have tk:∀s,s≤sz→live.take s=List.range' at_ s:=fun s h=>by
  show(List.range' at_ sz).take s=_
  rw[show sz=s+(sz-s) by grind,←List.range'_append_1,List.take_left' (List.length_range' ..)]
 have w:b7 Tt B a4f (st sz)=some (.next,st m):=by
  by_cases q:m<sz
  ·have e1:sz=2:=by grind
   have e2:m=1:=by exact anl hm hsz q
   subst e2
   have k1:=chk sz (by assumption) (Nat.le_refl _)
   rw[tk sz (Nat.le_refl _),hno q] at k1
   have k2:=chk 1 (Nat.le_refl _) (by assumption)
   rw[tk 1 (by assumption),hk] at k2
   have hb:∀s,s=2→B (st s)=some (.next,st 1):=by
    rintro _ rfl
    exact a9 .nil [] (by kernel_rfl)
   exact fq k1 (hb sz e1) (an (by decide) k2)
  ·have e:sz=m:=by have:m≤sz:=hms;exact alg q this
   have k1:=chk sz (by exact Nat.lt_of_lt_of_le (by assumption) (by assumption)) (Nat.le_refl _)
   rw[tk sz (Nat.le_refl _),e,hk] at k1
   rw[e]
   exact an (by decide) k1
 let ps:=List.range' at_ m
 have hps:live.take m=ps:=tk m hms
 have hpl:ps.length=m:=List.length_range' ..
 have z:b8 σ0 .Eq (.d (.int m)) (.d (.int 0))=some false:=(gw σ0 m 0).trans (congrArg some (decide_eq_false (by exact Nat.ne_of_gt (by assumption))))
 have sl:=a27 live m (by exact aki hlm hms) σ0
 rw[hps] at sl
 have hlast:ps.getLast?=some (at_+m-1):=by
  obtain⟨m',rfl⟩:∃m',m=m'+1:=⟨m-1,by exact om5 hm⟩
  show(List.range' at_ (m'+1)).getLast?=_
  rw[List.range'_concat,List.getLast?_append]
  simp
 have wm:=a0c N R (si L) c d mm t ps (at_+m-1) ht (fun p hp=>mem m p (hps▸hp)) hlast (by exact akf hlm hms hpl)
 have ri:=yd hk σ0
 have hg:live[m-1]?=some (at_+m-1):=by
  have hlt:m-1<sz:=by have:m≤sz:=hms;exact aie hsz this
  have e:=List.getElem?_range' (s:=at_) (step:=1) hlt
  exact e.trans (congrArg some (by exact aoe hm))
 have il:=cz aw live (m-1) (at_+m-1) hg σ0 ((m:Int)-1) (by exact om7 hm)
 have cm:Φ.pure (.fn "CollMatch") [db es,.list (ps.map aw),.int (at_+m:Nat)]=some (cmD es ps (at_+m)):=adp (Nat.succ_pos _) a6d (by kernel_rfl)
 have fin:(((at_+m-1:Nat):Int)+1)=((at_+m:Nat):Int):=by exact ams hm
 rw[fin.symm] at cm
 let s5:St:=⟨ρ (some (.d LD)) (some (.d (.int m))) (some (.d (.list (ps.map aw)))) (some (.d (zf (iz t ps)))),σ0⟩
 exact ab uv (ρ none none none none) (by kernel_rfl) (.d (cmD es ps (at_+m))) s5
  (.cons c0 (.cons lg (.cons mx (.cons li (.cons ln (.cons w (.cons z (.cons sl (.cons wm (.cons ri (.cons il (.cons cm .nil))))))))))))
  [.v (.d (.int (au t at_))),.e (.d (.int lm)) σ0,.v (.d (.int lm)),.v (.d LD),.v (.d (.int sz)),.l .next (st m),.b false,.e (.d (.list (ps.map aw))) σ0,.v (.d (zf (iz t ps))),.v (.d (db es)),.v (.d (aw (at_+m-1))),.v (.d (cmD es ps (at_+m)))] (by kernel_rfl) (by kernel_rfl)
noncomputable def ik:Nat→List (Nat×List El)→List Gr
 |_,[]=>[]
 |at_,(m,es)::r=>(es,at_,at_+m)::ik (at_+m) r
noncomputable def ahr (R:Rows)(L:List (Int×Nat))(t:List Int):Prop:=(∀c∈t,∃lm,wg L c=some lm∧(lm=1∨lm=2))∧∀c c',(bg R [c,c']).isSome=true→wg L c=some 2
theorem zi:∀(m:Nat) (pre suf:List Int),m≤suf.length→iz (pre++suf) (List.range' pre.length m)=suf.take m
 |0,_,_,_=>rfl
 |m+1,pre,[],h=>nomatch h
 |m+1,pre,c::r,h=>by
  have ih:=zi m (pre++[c]) r (Nat.le_of_succ_le_succ h)
  rw[List.append_assoc,List.length_append]at ih
  rw[List.range'_succ]
  show au (pre++c::r) pre.length::iz (pre++c::r) (List.range' (pre.length+1) m)=c::r.take m
  have h0:au (pre++c::r) pre.length=c:=by
   unfold au
   rw[List.getElem?_append_right (Nat.le_refl _),Nat.sub_self];rfl
  rw[h0]
  exact congrArg (c::·) ih
theorem a88{R:Rows}{L:List (Int×Nat)}{t pre suf:List Int}(hT:ahr R L t) (e:t=pre++suf) (hn:suf≠[]):∃lm,(lm=1∨lm=2)∧wg L (au t pre.length)=some lm∧az R suf≤min lm (t.length-pre.length)∧
  (az R suf<min lm (t.length-pre.length)→bg R (iz t (List.range' pre.length (min lm (t.length-pre.length))))=none):=by
 have hlen:t.length-pre.length=suf.length:=by rw[e,List.length_append];grind
 obtain⟨c,r,rfl⟩:∃c r,suf=c::r:=by cases suf with|nil=>exact absurd rfl hn|cons c r=>exact⟨c,r,rfl⟩
 have hc:au t pre.length=c:=by
  rw[e];unfold au
  rw[List.getElem?_append_right (Nat.le_refl _),Nat.sub_self];rfl
 refine ar (hT.1 c (by rw[e];exact List.mem_append_right _ (.head _))) ?_;intro lm h1 h2
 refine⟨lm,h2,by rw[hc];exact h1,?_⟩
 rw[hlen]
 have hl1:1≤(c::r).length:=Nat.succ_le_succ (Nat.zero_le _)
 rcases qp R hn with⟨q1,q2,q3⟩|⟨q1,q2,q3⟩|⟨q1,q3⟩
 ·rw[q3]
  obtain⟨c',r',rfl⟩:∃c' r',r=c'::r':=by cases r with|nil=>exact absurd q2 (Nat.lt_irrefl 1)|cons c r=>exact⟨c,r,rfl⟩
  have:=hT.2 c c' q1
  rw[this]at h1
  have:lm=2:=(Option.some.inj h1).symm
  subst this
  exact⟨by exact Nat.le_refl _,fun h=>absurd h (by contradiction)⟩
 ·rw[q3]
  exact⟨by exact anh h2 hl1,fun h=>absurd h (by exact am2 q2)⟩
 ·rw[q3]
  refine⟨by exact anh h2 hl1,fun h=>?_⟩
  have e2:min lm (c::r).length=2:=by exact ais h2 h
  rw[e2,e,zi 2 pre (c::r) (by exact aji e2)]
  cases q:bg R ((c::r).take 2)with
  |none=>rfl
  |some x=>rw[q]at q1;cases q1
noncomputable abbrev LA:=List Gr×Nat×Option V×Option V
noncomputable def a9j (at_ m:Nat):D:=.list ((List.range' at_ m).map aw)
noncomputable def vo (acc:LA) (at_ m:Nat) (es:List El):LA:=(acc.1++[(es,at_,at_+m)],acc.2.1+1,some (.d (cmD es (List.range' at_ m) (at_+m))),some (.d (a9j at_ m)))
theorem a4g:∀(S:List (Nat×List El)) (acc:LA) (at_:Nat),(S.foldl (fun p x=>(vo p.1 p.2 x.1 x.2,p.2+x.1)) (acc,at_)).1.1=acc.1++ik at_ S
 |[],acc,_=>(List.append_nil _).symm
 |(m,es)::S,acc,at_=>by
  rw[List.foldl_cons,a4g S]
  show(acc.1++_)++_=acc.1++((es,at_,at_+m)::ik (at_+m) S)
  rw[List.append_assoc];rfl
theorem afc (at_ m:Nat)(h:m=1∨m=2)(σ:Sto):builtin "min" σ [.d (a9j at_ m)]=some (.int at_):=by
 rcases h with rfl|rfl
 ·kernel_rfl
 ·have e:builtin "min" σ [.d (a9j at_ 2)]=(afn [(at_:Int),((at_+1:Nat):Int)]).map .int:=by kernel_rfl
  rw[e]
  show some (D.int (if((at_+1:Nat):Int)<at_ then _ else _))=_
  rw[if_neg (by exact an5)]
theorem afl (at_ m:Nat)(h:m=1∨m=2)(σ:Sto):builtin "max" σ [.d (a9j at_ m)]=some (.int (at_+m-1:Nat)):=by
 rcases h with rfl|rfl
 ·kernel_rfl
 ·have e:builtin "max" σ [.d (a9j at_ 2)]=(aev [(at_:Int),((at_+1:Nat):Int)]).map .int:=by kernel_rfl
  rw[e]
  show some (D.int (if(at_:Int)<((at_+1:Nat):Int)then _ else _))=_
  rw[if_pos (by exact aoc)];rfl
theorem adq(R:Rows)(suf:List Int):az R suf=1∨az R suf=2:=by unfold az;split<;>grind
theorem a12:∀(l:List Int)(k:Nat),(l.zipIdx k).map (fun p=>D.int p.1)=l.map .int
 |[],_=>rfl
 |x::l,k=>by rw[List.zipIdx_cons,List.map_cons,a12 l (k+1)];rfl
theorem zb (N:Nat) (R:Rows) (L:List (Int×Nat)) (c d:D) (mm:Bool) (t:List Int) (ht:t.length≤90) (hs:∀c∈t,c∈ce) (hR:qj R t) (hT:ahr R L t):
  (fx (N+10)).pure (.meth "Elements" "located") [TD (fc R) (si L) c d,al t,jr mm]=some (.list ((ik 0 (seg R t)).map gD)):=by
 let F:=d0 80 12 ["found"]
 let Φ:=fx (N+9)
 let T:=TD (fc R) (si L) c d
 let RW:D:=.list (t.zipIdx.map tu)
 let ρ:=sa (some (.d T)) (some (.d (al t))) (some (.d (jr mm)))
 have f0:=qx N mm t (by exact Nat.le_trans (by assumption) (by decide)) hs
 have hr:=bc tu t.zipIdx (by rw [List.length_zipIdx];exact ao4 ht)
 have hc:be (bq Φ 39 (ρ (some (.d RW)) none none none none none none) 0 (sub (stE (nth F.body 1)) 0)) (t.zipIdx.map tu) σ0=some (t.map .int,σ0):=by
  rw [←a12 t 0]
  exact bn tu (fun p=>D.int p.1) t.zipIdx fun p _=>b6 .nil [] (by kernel_rfl)
 have lr:builtin "len" σ0 [.d RW]=some (.int t.length):=(aq tu t.zipIdx σ0).trans (by rw [List.length_zipIdx])
 have mu:f9 .Mult (.list [.bool false]) (.int t.length)=some (kh t.length):=(aij ⟨by exact Int.natCast_nonneg _,by exact aob ht⟩).trans (by unfold kh;rw [List.map_replicate];rfl)
 let st:Nat→LA→Option V→St:=fun at_ acc _=>⟨ρ (some (.d RW)) (some (.d (rh t))) (some (.d (kh t.length))) (some (.m 0)) (some (.d (.int at_))) acc.2.2.1 acc.2.2.2,σ1 (acc.1.map gD) acc.2.1⟩
 let LB:=stB (nth F.body 2)
 have hw:∃m',b7 (ef Φ F.scope (stE (nth F.body 2))) (cc (evS Φ F.muts F.scope 19) LB) 100 (st 0 ([],1,none,none) none)=some (.next,st t.length ((seg R t).foldl (fun p x=>(vo p.1 p.2 x.1 x.2,p.2+x.1)) (([],1,none,none),0)).1 m'):=by
  refine ti st vo hR (fun at_ acc m=>?hT) (fun at_ acc=>acc.1.length≤at_) (fun pre suf es acc m e hn he hi=>?hB) 100 [] t ([],1,none,none) none rfl (by exact Nat.lt_of_le_of_lt (by assumption) (by decide)) (Nat.le_refl _)
  case hT=>exact ah (σ':=σ1 (acc.1.map gD) acc.2.1) (.cons (aq D.int t (σ1 (acc.1.map gD) acc.2.1)) (.cons (rfl:b8 (σ1 (acc.1.map gD) acc.2.1) .Lt (.d (.int at_)) (.d (.int t.length))=some (decide ((at_:Int)<t.length))) .nil)) [.v (.d (.int t.length)),.b (decide ((at_:Int)<t.length))] (by kernel_rfl)
  case hB=>
   have hl:pre.length+suf.length=t.length:=by rw [e,List.length_append]
   refine bk (ft R hn) ?_;intro h1 h2
   refine alo (a88 hT e hn) ?_;intro lm q1 q2 q3 q4
   let m:=az R suf
   let at_:=pre.length
   refine ⟨none,?_,by show (acc.1++_).length≤_;rw [List.length_append];exact Nat.add_le_add hi h1⟩
   let σ:=σ1 (acc.1.map gD) acc.2.1
   have hpm:at_+m≤t.length:=by show pre.length+az R suf≤_;grind
   have h1':1≤m:=h1
   have hk:bg R (iz t (List.range' at_ m))=some es:=by
    show bg R (iz t (List.range' pre.length (az R suf)))=_
    rw [e,zi _ pre suf h2];exact he
   have mt:=ad4 (N+5) R L c d mm t at_ lm m es ht (by show pre.length<_;exact al5 h1 q3) q1 q2 h1 q3 hk q4
   let ps:=List.range' at_ m
   let cm:=cmD es ps (at_+m)
   let pl:D:=a9j at_ m
   let acc':=vo acc at_ m es
   have gi:=a1f t.length at_ (by show pre.length<_;exact al5 h1 q3) σ
   let g:Gr:=(es,at_,at_+m)
   have hc2:be (bq Φ 39 (ρ (some (.d RW)) (some (.d (rh t))) (some (.d (kh t.length))) (some (.m 0)) (some (.d (.int at_))) (some (.d cm)) acc.2.2.2) 0 (stE (nth (stO (nth LB 0)) 1))) (ps.map aw) σ=some (ps.map aw,σ):=
    bn aw aw ps fun p hp=>by
     have hp:=List.mem_range'_1.mp hp
     have hpt:p<t.length:=by exact ai7 hpm hp
     have hz:t.zipIdx[p]?=some (au t p,p):=by
      rw [List.getElem?_zipIdx,dn t 0 hpt]
      show some (au t p,0+p)=_
      rw [Nat.zero_add]
     exact b6 (.cons (ay tu t.zipIdx p _ hz σ) .nil) [.v (.d (tu (au t p,p)))] (by kernel_rfl)
   have hr2:fe (ps.map aw).length=true:=bc aw ps (by rw [List.length_range'];exact aju ht hpm)
   have mn:=afc at_ m (adq R suf) σ
   have mx:=afl at_ m (adq R suf) σ
   have ap:=jy (acc.1.map gD) acc.2.1 (gD g) (by rw [List.length_map];have:acc.1.length≤pre.length:=hi;exact aj9 ht hi hl)
   have ec:st (at_+m) acc' none=⟨(st (at_+m) acc' none).ρ,σ1 (acc.1.map gD++[gD g]) (acc.2.1+1)⟩:=by
    simp only [st,acc',vo,cr];rfl
   show _=some (Fl.next,st (at_+m) acc' none)
   rw [ec]
   have e3:((at_+m-1:Nat):Int)+1=((at_+m:Nat):Int):=by exact ams h1'
   have ap':dm σ (.m 0) ("append":Str) [.d (.tuple [db es,.int at_,.int (((at_+m-1:Nat):Int)+1)])]=some (.d .none,σ1 (acc.1.map gD++[gD g]) (acc.2.1+1)):=by rw [e3];exact ap
   exact a9 (.cons gi (.cons mt (.cons hr2 (.cons hc2 (.cons mn (.cons mx (.cons ap' .nil))))))) [.v (.d (.bool false)),.v (.d cm),.c (ps.map aw),.v (.d (.int at_)),.v (.d (.int (at_+m-1:Nat))),.e (.d .none) (σ1 (acc.1.map gD++[gD g]) (acc.2.1+1))] (by kernel_rfl)
 refine ex1 hw ?_;clear hw;intro m' hw
 have fg:=a4g (seg R t) ([],1,none,none) 0
 generalize ((seg R t).foldl (fun p x=>(vo p.1 p.2 x.1 x.2,p.2+x.1)) (([],1,none,none),0)).1=acc at hw fg
 obtain ⟨G,v,o1,o2⟩:=acc
 replace fg:G=ik 0 (seg R t):=fg
 subst fg
 let s':=st t.length (ik 0 (seg R t),v,o1,o2) m'
 exact ab rz (ρ none none none none none none none) (by kernel_rfl) (.m 0) s' (.cons f0 (.cons hr (.cons hc (.cons lr (.cons mu (.cons hw .nil)))))) [.v (.d RW),.c (t.map .int),.v (.d (.int t.length)),.v (.d (kh t.length)),.l .next s'] (by kernel_rfl) (by kernel_rfl)
theorem zk (N:Nat) (a b c d dat t:D) (G:List Gr) (hE:(cp G).length≤1000)
  (hloc:(fx N).pure (.meth "Elements" "located") [TD a b c d,t,dat]=some (.list (G.map gD))):
  (fx (N+1)).pure (.meth "Elements" "elements_of") [TD a b c d,t,dat]=some (db (cp G)):=by
 let F:=d0 80 13 ["found"]
 let Φ:=fx N
 let LB:=stB (nth F.body 1)
 let GD:D:=.list (G.map gD)
 let JA:=Option V×Option V×Option V×Nat
 let ρ:=mq (some (.d (TD a b c d))) (some (.d t)) (some (.d dat))
 let st:List El→JA→St:=fun acc j=>⟨ρ (some (.m 0)) j.1 j.2.1 j.2.2.1,σ1 (acc.map elD) j.2.2.2⟩
 have hb:LB=[nth LB 0]:=by kernel_rfl
 obtain⟨j1,e1⟩:=xq (turn:=c9 Φ F.muts F.scope 19 (stT (nth F.body 1)) LB) gD st (fun acc g=>acc++g.1) (fun i acc=>acc=cp (G.take i)) G (fun i g acc j hg hi inv=>by
  refine bk (a78 hi g hg) ?_;intro _ q
  have bd:=a7c G (i+1)
  rw[q,List.length_append,←inv] at bd
  let j':JA:=(some (.d (db g.1)),some (.d (.int g.2.1)),some (.d (.int g.2.2)),j.2.2.2+1)
  have h0:aj 4 (stT (nth F.body 1)) (gD g) (st acc j).ρ=some (st acc j').ρ:=by kernel_rfl
  have ex:=ac1 (acc.map elD) (g.1.map elD) j.2.2.2 (by rw[List.length_map,List.length_map];exact agj hE bd)
  have snoc:st (acc++g.1) j'=⟨(st acc j').ρ,σ1 (acc.map elD++g.1.map elD) (j.2.2.2+1)⟩:=by simp only[st,List.map_append];rfl
  refine⟨⟨j',?_⟩,by rw[q,inv]⟩
  rw[snoc]
  exact am h0 (dh hb (a8 (.cons ex .nil) [.e (.d .none) (σ1 (acc.map elD++g.1.map elD) (j.2.2.2+1))] (by kernel_rfl)))) [] (none,none,none,1) rfl
 rw[yg,List.nil_append] at e1
 exact ab md (ρ none none none none) (by kernel_rfl) (.m 0) (st (cp G) j1) (.cons hloc (.cons e1 .nil)) [.v (.d GD),.l .next (st (cp G) j1)] (by kernel_rfl) (by kernel_rfl)
noncomputable def nl(c:Int):Str:=if c=121 then"Extend"else"Other"
theorem a39 (N:Nat) (c:Int) (h:c∈ce):(fx (N+4)).pure (.fn "cluster_kind") [.int c,jr true]=some (.str (nl c)):=by
 rcases ud h with rfl|rfl|rfl|rfl|rfl|rfl|rfl<;>kernel_rfl
theorem ae5 (N:Nat) (c c':Int) (h:c∈ce) (h':c'∈ce):(fx (N+2)).pure (.fn "cluster_pair") [.str (nl c),.str (nl c'),.bool false]=some (if c'=121 then .bool false else .none):=by
 have key:∀a b:Bool,(fx (N+2)).pure (.fn "cluster_pair") [.str (if a then "Extend"else "Other"),.str (if b then "Extend"else "Other"),.bool false]=some (if b then .bool false else .none):=fun a b=>by
  cases a<;>cases b<;>kernel_rfl
 have k:=key (decide (c=121)) (decide (c'=121))
 unfold nl
 by_cases q:c=121
 ·by_cases q':c'=121
  ·rw [if_pos q,if_pos q',if_pos q'];rw [decide_eq_true q,decide_eq_true q']at k;exact k
  ·rw [if_pos q,if_neg q',if_neg q'];rw [decide_eq_true q,decide_eq_false q']at k;exact k
 ·by_cases q':c'=121
  ·rw [if_neg q,if_pos q',if_pos q'];rw [decide_eq_false q,decide_eq_true q']at k;exact k
  ·rw [if_neg q,if_neg q',if_neg q'];rw [decide_eq_false q,decide_eq_false q']at k;exact k
theorem abm (N:Nat) (m:Bool) (c:Int):(fx (N+1)).pure (.meth "Data" "get") [jr m,.str "incb",.int c]=some (.str "None")∧(fx (N+1)).pure (.meth "Data" "get") [jr m,.str "ep",.int c]=some (.bool false):=by
 cases m<;>exact⟨xo (Nat.succ_pos _) r8 (by kernel_rfl),xo (Nat.succ_pos _) r8 (by kernel_rfl)⟩
theorem a6f (N:Nat) (t:List Int) (i:Nat) (hi:i<t.length):(fx (N+2)).pure (.fn "cluster_is_conjunct") [al t,.int i,jr true]=some (.bool false):=by
 let ρ:=na (some (.d (al t))) (some (.d (.int i))) (some (.d (jr true))) none none none
 have ne:b8 σ0 .NotEq (.d (.str "None")) (.d (.str "Consonant"))=some true:=by kernel_rfl
 exact ab nf ρ (by kernel_rfl) (.d (.bool false)) ⟨ρ,σ0⟩ (.cons (gb t i hi σ0) (.cons (abm N true (au t i)).1 (.cons ne .nil))) [.v (.d (.int (au t i))),.v (.d (.str "None")),.b true] (by kernel_rfl) (by kernel_rfl)
theorem a6r (N:Nat) (t:List Int) (i:Nat) (hi:i<t.length):(fx (N+2)).pure (.fn "cluster_is_joined_picture") [al t,.int i,jr true]=some (.bool false):=by
 let ρ:=jc (some (.d (al t))) (some (.d (.int i))) (some (.d (jr true))) none
 exact ab jh ρ (by kernel_rfl) (.d (.bool false)) ⟨ρ,σ0⟩ (.cons (gb t i hi σ0) (.cons (abm N true (au t i)).2 .nil)) [.v (.d (.int (au t i))),.v (.d (.bool false))] (by kernel_rfl) (by kernel_rfl)
theorem af9 (N:Nat) (t:List Int) (i:Nat) (hi:i<t.length) (hs:∀c∈t,c∈ce):(fx (N+5)).pure (.fn "cluster_is_flag") [al t,.int i,jr true]=some (.bool false):=by
 let ρ:=ua (some (.d (al t))) (some (.d (.int i))) (some (.d (jr true)))
 have hc:=hs _ (List.mem_of_getElem? (dn t 0 hi))
 have ne:b8 σ0 .NotEq (.d (.str (nl (au t i)))) (.d (.str "Regional_Indicator"))=some true:=by
  unfold nl;split<;>kernel_rfl
 exact ab sx ρ (by kernel_rfl) (.d (.bool false)) ⟨ρ,σ0⟩ (.cons (gb t i hi σ0) (.cons (a39 N (au t i) hc) (.cons ne .nil))) [.v (.d (.int (au t i))),.v (.d (.str (nl (au t i)))),.b true] (by kernel_rfl) (by kernel_rfl)
noncomputable def brk(t:List Int)(i:Nat):Bool:=!(au t i==121)
theorem ab4 (N:Nat) (t:List Int) (i:Nat) (h1:1≤i) (hi:i<t.length) (hs:∀c∈t,c∈ce):(fx (N+6)).pure (.fn "cluster_break") [al t,.int i,jr true]=some (.bool (brk t i)):=by
 let ρ:=wt (some (.d (al t))) (some (.d (.int i))) (some (.d (jr true))) (some (.d (.bool false)))
 have z0:b8 σ0 .Eq (.d (.int i)) (.d (.int 0))=some false:=(gw σ0 i 0).trans (congrArg some (decide_eq_false (by exact Nat.ne_of_gt (by assumption))))
 have z1:b8 σ0 .Eq (.d (.int i)) (.d (.int t.length))=some false:=(gw σ0 i t.length).trans (congrArg some (decide_eq_false (by exact Nat.ne_of_lt (by assumption))))
 have tl:=i9 t σ0
 have ia:=cz D.int t (i-1) (au t (i-1)) (dn t 0 (by exact ahy hi)) σ0 ((i:Int)-1) (by exact om7 h1)
 have ib:=gb t i hi σ0
 have ha:=hs _ (List.mem_of_getElem? (dn t 0 (show i-1<t.length by exact ahy hi)))
 have hb:=hs _ (List.mem_of_getElem? (dn t 0 hi))
 have ka:=a39 (N+1) (au t (i-1)) ha
 have kb:=a39 (N+1) (au t i) hb
 have pr:=ae5 (N+3) (au t (i-1)) (au t i) ha hb
 unfold brk
 by_cases q:au t i=121
 ·rw[if_pos q]at pr
  rw[show(au t i==121)=true from beq_iff_eq.mpr q]
  let s':St:=⟨ρ (some (.d (.bool false))),σ0⟩
  exact ab my (ρ none) (by kernel_rfl) (.d (.bool false)) s' (.cons z0 (.cons tl (.cons z1 (.cons ia (.cons ka (.cons ib (.cons kb (.cons pr (.cons (rfl:b8 σ0 .IsNot (.d (.bool false)) (.d .none)=some true) .nil)))))))))
   [.b false,.v (.d (.int t.length)),.b false,.v (.d (.int (au t (i-1)))),.v (.d (.str (nl (au t (i-1))))),.v (.d (.int (au t i))),.v (.d (.str (nl (au t i)))),.v (.d (.bool false)),.b true] (by kernel_rfl) (by kernel_rfl)
 ·rw[if_neg q]at pr
  rw[show(au t i==121)=false from beq_eq_false_iff_ne.mpr q]
  let s':St:=⟨ρ (some (.d .none)),σ0⟩
  exact ab my (ρ none) (by kernel_rfl) (.d (.bool true)) s' (.cons z0 (.cons tl (.cons z1 (.cons ia (.cons ka (.cons ib (.cons kb (.cons pr (.cons (rfl:b8 σ0 .IsNot (.d .none) (.d .none)=some false) (.cons (a6f (N+3) t i hi) (.cons (a6r (N+3) t i hi) (.cons (af9 N t i hi hs) .nil))))))))))))
   [.b false,.v (.d (.int t.length)),.b false,.v (.d (.int (au t (i-1)))),.v (.d (.str (nl (au t (i-1))))),.v (.d (.int (au t i))),.v (.d (.str (nl (au t i)))),.v (.d .none),.b false,.v (.d (.bool false)),.v (.d (.bool false)),.v (.d (.bool false))] (by kernel_rfl) (by kernel_rfl)
theorem xk{N:Nat}{k:Key}{F:Fn}{vs:List V}{σ:Sto}(hk:nk.lookup k=some (.fn F)) (ρ:Rho) (hs:(vx F.params vs F.dflts).map (gp F.scope)=some ρ){v:V}{s':St}
  (h:cc (evS (fx N) F.muts F.scope 20) F.body ⟨ρ,σ⟩=some (.ret v,s')):(fx (N+1)).eff k vs σ=some (norm s'.σ v,s'.σ):=by
 refine de hs ?_;clear hs;intro b h1 h2
 rw[ai0 (Nat.succ_pos _) hk]
 exact ac0 h1 h2 h
noncomputable def akv (cells:List Int)(x:Int):List MO:=[.list (cells.map .int),.dict .str [(.str "cells",.m 0),(.str "mixed",.d (.int x))]]
noncomputable def i7(cells:List Int)(x:Int)(rest:List MO)(v:Nat):Sto:=⟨akv cells x++rest,v⟩
noncomputable def adw(x:Int):Prop:=0≤x∧x<2147483647
structure Dk where
 cells:List Int
 x:Int
 v:Nat
 ok:adw x
noncomputable abbrev dk(k:Dk)(rest:List MO):Sto:=i7 k.cells k.x rest k.v
noncomputable abbrev Dk.up(k:Dk)(n:Nat):Dk:=⟨k.cells,k.x,k.v+n,k.ok⟩
theorem xt (z:Int) (n:Nat) (hn:0<n):∃r:Nat,z.fmod n=r∧r<n:=by
 have h1:=Int.fmod_nonneg_of_pos z (b:=n) (by exact ajn hn)
 have h2:=Int.fmod_lt_of_pos z (b:=n) (by exact ajn hn)
 exact⟨(z.fmod n).toNat,by exact amh h1,by exact alj h1 h2⟩
theorem qb (N:Nat) (k:Dk) (rest:List MO) (n:Nat) (h1:1≤n){G:Prop}(go:∀(r:Nat) (k':Dk),r<n→(fx (N+1)).eff (.fn "_law_draw") [.m 1,.d (.int n)] (dk k rest)=some (.d (.int (r:Nat)),dk k' rest)→G):G:=by
 obtain ⟨cells,x,v,hx⟩:=k
 let F:=ae 93
 let Φ:=fx N
 let ρ:Nat→Rho:=fun n=>a49 (some (.m 1)) (some (.d (.int n)))
 let σ:=i7 cells x rest v
 have ic:bx σ (.m 1) (.d (.str "cells"))=some (.m 0):=by kernel_rfl
 have im:bx σ (.m 1) (.d (.str "mixed"))=some (.d (.int x)):=by kernel_rfl
 have ne:b8 σ .NotEq (.m 0) (.d (.list []))=some (!cells.isEmpty):=
  (ajg (a57 cells) py).trans (by rw [xg,ii])
 rcases List.eq_nil_or_concat cells with rfl|⟨c0,c,rfl⟩
 ·let x':Int:=(x*16807+29).fmod 2147483647
  have hx':adw x':=by
   refine ar (xt (x*16807+29) 2147483647 (by exact Nat.succ_pos _)) ?_;intro r e h
   have e':x'=r:=e
   exact ⟨by exact aip e',by exact am0 h e'⟩
  refine ar (xt (x'.fdiv 64) n h1) ?_;intro r er hr
  refine go r ⟨[],x',v+1,hx'⟩ hr ?_;clear go
  have mu:f9 .Mult (.int x) (.int 16807)=some (.int (x*16807)):=by
   show (if (small x&&small 16807)=true then _ else _)=_
   rw [k9 (by have:=hx.1;exact aj0 this) (by have:=hx.2;exact anr this)];rfl
  let σ':=i7 [] x' rest (v+1)
  have im':bx σ' (.m 1) (.d (.str "mixed"))=some (.d (.int x')):=by kernel_rfl
  have sto:(ch Φ 40 F.scope (stG (nth F.body 1)) (.d (.int x')) ⟨ρ n,σ⟩).map (fun s=>((.next,s):Fl×St))=some (.next,⟨ρ n,σ'⟩):=by kernel_rfl
  have run:∀n,1≤n→(ch Φ 40 F.scope (stG (nth F.body 1)) (.d (.int x')) ⟨ρ n,σ⟩).map (fun s=>((.next,s):Fl×St))=some (.next,⟨ρ n,σ'⟩)→cc (evS Φ F.muts F.scope 20) F.body ⟨ρ n,σ⟩=some (.ret (.d (.int ((x'.fdiv 64).fmod n))),⟨ρ n,σ'⟩):=by
   intro n hn sto
   obtain ⟨k,rfl⟩:∃k,n=k+1:=⟨n-1,by exact om5 hn⟩
   exact a9 (.cons ic (.cons ne (.cons im (.cons mu (.cons sto (.cons im' .nil)))))) [.v (.m 0),.b false,.v (.d (.int x)),.v (.d (.int (x*16807))),.l .next ⟨ρ (k+1),σ'⟩,.v (.d (.int x'))] (by kernel_rfl)
  exact (xk w9 (ρ n) (by kernel_rfl) (run n h1 sto)).trans (er▸rfl)
 ·refine ar (xt c n h1) ?_;intro r er hr
  refine go r ⟨c0,x,v+1,hx⟩ hr ?_;clear go
  have ne':b8 σ .NotEq (.m 0) (.d (.list []))=some true:=ne.trans (by cases c0<;>rfl)
  let σ':=i7 c0 x rest (v+1)
  have po:dm σ (.m 0) ("pop":Str) []=some (.d (.int c),σ'):=by
   have e1:(List.map D.int (c0.concat c))=c0.map D.int++[.int c]:=by rw [List.concat_eq_append,List.map_append];rfl
   have:=aim (σ:=σ) (i:=0) (xs:=(c0.concat c).map D.int) (x:=.int c) rfl (by rw [e1,List.getLast?_append];rfl)
   rw [this,e1,List.dropLast_concat];rfl
  have run:∀n,1≤n→cc (evS Φ F.muts F.scope 20) F.body ⟨ρ n,σ⟩=some (.ret (.d (.int (c.fmod n))),⟨ρ n,σ'⟩):=by
   intro n hn
   obtain ⟨k,rfl⟩:∃k,n=k+1:=⟨n-1,by exact om5 hn⟩
   exact a9 (.cons ic (.cons ne' (.cons ic (.cons po .nil)))) [.v (.m 0),.b true,.v (.m 0),.e (.d (.int c)) σ'] (by kernel_rfl)
  exact (xk w9 (ρ n) (by kernel_rfl) (run n h1)).trans (er▸rfl)
noncomputable def a6l(x c:Int):Int:=(x*31+c).fmod 1000003
theorem a46 (N:Nat) (script:List Int){G:Prop}(go:∀k:Dk,(fx (N+1)).eff (.fn "_law_deck") [.d (.list (script.map .int))] σ0=some (.m 1,dk k [])→G):G:=by
 let F:=ae 92
 let Φ:=fx N
 let cells:=script.take 40
 let SD:D:=.list (script.map .int)
 let CD:D:=.list (cells.map .int)
 let ρ:=a4t (some (.d SD))
 have hl:cells.length≤40:=by show(script.take 40).length≤_;rw[List.length_take];exact aiq
 have sl:d3 (some SD) none (some 40) none σ0=some (.d CD,σ0):=by
  unfold d3
  rw[Option.all_some,ku (by decide) (by decide)]
  show some (V.d (.list ((script.map D.int).take 40)),σ0)=some (V.d (.list ((script.take 40).map .int)),σ0)
  rw[List.map_take]
 have hc:be (bq Φ 39 (ρ none none none) 0 (sub (stE (nth F.body 0)) 0)) (cells.map .int) σ0=some (cells.map .int,σ0):=bn D.int D.int cells fun c _=>b6 (.cons (ahn σ0 c) .nil) [.v (.d (.int c))] (by kernel_rfl)
 let LB:=stB (nth F.body 1)
 let st:Int→Option V→St:=fun x j=>⟨ρ j (some (.d CD)) (some (.d (.int x))),σ0⟩
 have hb:LB=[nth LB 0]:=by kernel_rfl
 have small11:∀x,(0≤x∧x<1000003)→adw x:=fun x h=>⟨h.1,by have:=h.2;exact aic this⟩
 have hm:∀x c,0≤a6l x c∧a6l x c<1000003:=fun x c=>by
  refine ar (xt (x*31+c) 1000003 (by exact Nat.succ_pos _)) ?_;intro r e h
  have e':a6l x c=r:=e
  exact⟨by exact aip e',by exact alu h e'⟩
 obtain⟨j',e⟩:=jz (turn:=c9 Φ F.muts F.scope 19 (stT (nth F.body 1)) LB) D.int st a6l (fun _ x=>0≤x∧x<1000003) cells (fun i c x j _ _ inv=>by
  refine⟨⟨some (.d (.int c)),?_⟩,hm x c⟩
  have mu:f9 .Mult (.int x) (.int 31)=some (.int (x*31)):=by
   show(if(small x&&small 31)=true then _ else _)=_
   rw[k9 (by have:=inv.1;exact aj0 this) (by have:=inv.2;exact aja this)];rfl
  exact am (ρ:=(st x (some (.d (.int c)))).ρ) (by kernel_rfl) (dh hb (a8 (.cons mu .nil) [.v (.d (.int (x*31)))] (by kernel_rfl)))) 11 none ⟨by decide,by decide⟩
 have inv:∀(l:List Int) (x:Int),0≤x∧x<1000003→0≤l.foldl a6l x∧l.foldl a6l x<1000003:=by
  intro l
  induction l with
  |nil=>exact fun _ h=>h
  |cons c l ih=>exact fun x _=>ih _ (hm x c)
 let x:=cells.foldl a6l 11
 refine go ⟨cells.reverse,x,2,small11 _ (inv cells 11 ⟨by decide,by decide⟩)⟩ ?_;clear go
 have dd:evE Φ 40 F.scope (st x j').ρ (stE (nth F.body 2)) σ0=some (.m 1,i7 cells.reverse x [] 2):=by
  have:evE Φ 40 F.scope (st x j').ρ (stE (nth F.body 2)) σ0=some (.m 1,⟨[.list (cells.map .int).reverse,.dict .str [(.str "cells",.m 0),(.str "mixed",.d (.int x))]],2⟩):=by kernel_rfl
  rw[this,←List.map_reverse];rfl
 have r3:=bc D.int cells (by exact Nat.le_trans (by assumption) (by decide))
 have run:cc (evS Φ F.muts F.scope 20) F.body ⟨ρ none none none,σ0⟩=some (.ret (.m 1),⟨(st x j').ρ,i7 cells.reverse x [] 2⟩):=
  a9 (.cons sl (.cons r3 (.cons hc (.cons e (.cons dd .nil))))) [.e (.d CD) σ0,.c (cells.map .int),.l .next (st x j'),.e (.m 1) (i7 cells.reverse x [] 2)] (by kernel_rfl)
 rw[xk a42 (ρ none none none) (by kernel_rfl) run];rfl
noncomputable def kOf(c:Int):D:=.tuple [.int c]
noncomputable def a7s(a b c:Nat):El:=(16+16*(a:Int),32+b,2+c)
noncomputable abbrev LR:=ae 94
theorem ah5 (k:Int) (a:Nat) (hk:small k=true) (ha:a≤1000):f9 .Mult (.int k) (.int a)=some (.int (k*a)):=by
 show(if(small k&&small (a:Int))=true then _ else _)=_
 rw[hk,k9 (by exact amc ha) (by exact alx ha)];rfl
noncomputable def a5d(l:El):Prop:=∃a b c:Nat,a<3∧b<2∧c<2∧l=a7s a b c
theorem u1 (N:Nat) (sign:Int) (kd:Kd) (kvs:List (D×V)) (ls:List MO) (k:Dk) (j:Option V) (ht:Kd.takes kd (kOf sign)=some .tup) (hn:∀p∈kvs,D.beq p.1 (kOf sign)=false) (hl:kvs.length≤100){G:Prop}
  (go:∀(l:El) (k':Dk),a5d l→c9 (fx (N+1)) LR.muts LR.scope 19 (stT (nth LR.body 1)) (stB (nth LR.body 1)) (.int sign) ⟨gc (some (.m 1)) (some (.m 2)) j,dk k (.dict kd kvs::ls)⟩=
   some (.next,⟨gc (some (.m 1)) (some (.m 2)) (some (.d (.int sign))),dk k' (.dict .tup (kvs++[(kOf sign,.m (ls.length+3))])::(ls++[.list [elD l]]))⟩)→G):G:=by
 let Φ:=fx (N+1)
 let LB:=stB (nth LR.body 1)
 refine qb N k (.dict kd kvs::ls) 3 (by exact aii hl) fun a k1 ha e1=>?_
 refine qb N k1 (.dict kd kvs::ls) 2 (by exact ajq) fun b k2 hb e2=>?_
 refine qb N k2 (.dict kd kvs::ls) 2 (by exact ajq) fun c k3 hc e3=>?_
 have hbd:LB=[nth LB 0]:=by kernel_rfl
 let ρ:=gc (some (.m 1)) (some (.m 2)) (some (.d (.int sign)))
 let e:=elD (a7s a b c)
 let σa:=dk (k3.up 1) (.dict kd kvs::(ls++[.list [e]]))
 let σ':=dk (k3.up 2) (.dict .tup (kvs++[(kOf sign,.m (ls.length+3))])::(ls++[.list [e]]))
 refine go (a7s a b c) (k3.up 2) ⟨a,b,c,ha,hb,hc,rfl⟩ ?_;clear go
 have mu:=ah5 16 a (k9 (by exact ao2) (by decide)) (by exact ao5 ha)
 have g1:(ch Φ 40 LR.scope (stG (nth LB 0)) (.m (ls.length+3)) ⟨ρ,σa⟩).map (fun s=>((.next,s):Fl×St))=((i6 σa (.m 2) (.d (kOf sign)) (.m (ls.length+3))).map fun σ=>(⟨ρ,σ⟩:St)).map (fun s=>((.next,s):Fl×St)):=by kernel_rfl
 rw [a68 (σ:=σa) (i:=2) (kvs:=kvs) rfl (by exact ahf hl) ht,oh _ _ _ hn] at g1
 exact am (ρ:=ρ) (by kernel_rfl) (dh hbd (a8 (.cons e1 (.cons mu (.cons e2 (.cons e3 (.cons g1 .nil))))) [.e (.d (.int a)) (dk k1 (.dict kd kvs::ls)),.v (.d (.int (16*a))),.e (.d (.int b)) (dk k2 (.dict kd kvs::ls)),.e (.d (.int c)) (dk k3 (.dict kd kvs::ls)),.l .next ⟨ρ,σ'⟩] (by kernel_rfl)))
noncomputable def k2(a b:Int):D:=.tuple [.int a,.int b]
noncomputable def kv4:List (D×V):=[(kOf 97,.m 3),(kOf 98,.m 4),(kOf 99,.m 5),(kOf 100,.m 6)]
structure Ls where
 l1:El
 l2:El
 l3:El
 l4:El
noncomputable def ls4(s:Ls):List MO:=[.list [elD s.l1],.list [elD s.l2],.list [elD s.l3],.list [elD s.l4]]
noncomputable def v5 (s:Ls):Bool→V
 |true=>.d (.list [elD s.l1,elD s.l2])
 |false=>.d (.list [elD (64,32,2)])
noncomputable def kv7 (s:Ls)(sum:Bool):List (D×V):=[(kOf 97,.m 3),(kOf 98,.m 4),(kOf 99,.m 5),(kOf 100,.m 6),(kOf 101,v5 s sum),(kOf 120,.m 7),(kOf 121,.m 8)]
noncomputable def ls6 (s:Ls):List MO:=ls4 s++[.list [elD (0,0,0)],.list [elD (0,40,2)]]
noncomputable def gq (s:Ls)(sum:Bool):Bool→List MO
 |false=>.dict .tup (kv7 s sum)::ls6 s
 |true=>.dict .tup (kv7 s sum++[(k2 97 98,.m 9)])::(ls6 s++[.list [elD (80,32,2)]])
noncomputable def gk (s:Ls)(sum:Bool):Bool→Bool→List MO
 |two,false=>gq s sum two
 |false,true=>.dict .tup (kv7 s sum++[(k2 98 99,.m 9)])::(ls6 s++[.list [elD (16,32,2),elD (0,41,2)]])
 |true,true=>.dict .tup (kv7 s sum++[(k2 97 98,.m 9),(k2 98 99,.m 10)])::(ls6 s++[.list [elD (80,32,2)],.list [elD (16,32,2),elD (0,41,2)]])
noncomputable def xl(s:Ls):Prop:=∀l,l=s.l1∨l=s.l2∨l=s.l3∨l=s.l4→a5d l
theorem ac5 (sign:Int) (ks:List Int) (kvs:List (D×V)) (h:kvs.map Prod.fst=ks.map kOf) (hk:sign ∉ ks):∀p∈kvs,D.beq p.1 (kOf sign)=false:=by
 intro p hp
 have:p.1∈ks.map kOf:=h▸List.mem_map_of_mem hp
 refine ar (List.mem_map.mp this) ?_;intro c hc e
 rw[←e]
 show((c==sign)&&true)=false
 rw[Bool.and_true,beq_eq_false_iff_ne]
 exact fun e=>hk (e▸hc)
theorem yo{turn:D→St→Option (Fl×St)}{x:D}{r:List D}{s s':St}{R:Option (Fl×St)}(h:turn x s=some (.next,s')) (k:iu turn r s'=R):iu turn (x::r) s=R:=by
 rw[gr,h];exact k
noncomputable abbrev PR:Rho:=gc (some (.m 1)) (some (.m 2)) (some (.d (.int 100)))
noncomputable abbrev RS (N i:Nat) (σ σ':Sto):Prop:=evS (fx (N+1)) LR.muts LR.scope 20 (nth LR.body i) ⟨PR,σ⟩=some (.next,⟨PR,σ'⟩)
theorem anj (N:Nat) (k:Dk){G:Prop}(go:∀(s:Ls) (k':Dk),xl s→iu (c9 (fx (N+1)) LR.muts LR.scope 19 (stT (nth LR.body 1)) (stB (nth LR.body 1))) [.int 97,.int 98,.int 99,.int 100] ⟨gc (some (.m 1)) (some (.m 2)) none,dk k [.dict .any []]⟩=some (.next,⟨PR,dk k' (.dict .tup kv4::ls4 s)⟩)→G):G:=by
 refine u1 N 97 .any [] [] k none rfl (fun p h=>nomatch h) (by decide:0≤100) fun l1 k1 h1 t1=>?_
 refine u1 N 98 .tup [(kOf 97,.m 3)] [.list [elD l1]] k1 (some (.d (.int 97))) rfl (ac5 98 [97] _ rfl (by decide)) (by decide:1≤100) fun l2 k2 h2 t2=>?_
 refine u1 N 99 .tup [(kOf 97,.m 3),(kOf 98,.m 4)] [.list [elD l1],.list [elD l2]] k2 (some (.d (.int 98))) rfl (ac5 99 [97,98] _ rfl (by decide)) (by decide:2≤100) fun l3 k3 h3 t3=>?_
 refine u1 N 100 .tup [(kOf 97,.m 3),(kOf 98,.m 4),(kOf 99,.m 5)] [.list [elD l1],.list [elD l2],.list [elD l3]] k3 (some (.d (.int 99))) rfl (ac5 100 [97,98,99] _ rfl (by decide)) (by decide:3≤100) fun l4 k4 h4 t4=>?_
 exact go ⟨l1,l2,l3,l4⟩ k4 (fun l h=>h.elim (fun e=>e▸h1) fun h=>h.elim (fun e=>e▸h2) fun h=>h.elim (fun e=>e▸h3) fun e=>e▸h4) (yo t1 (yo t2 (yo t3 (a94 t4))))
theorem alm (N:Nat) (k:Dk) (s:Ls){G:Prop}(go:∀(sum:Bool) (k':Dk),RS N 2 (dk k (.dict .tup kv4::ls4 s)) (dk k' (.dict .tup (kv4++[(kOf 101,v5 s sum)])::ls4 s))→G):G:=by
 refine qb N k (.dict .tup kv4::ls4 s) 2 (by exact Nat.succ_pos _) fun u k5 hu e5=>?_
 let σ:=dk k5 (.dict .tup kv4::ls4 s)
 have ez:=gw σ u 0
 by_cases q:u=0
 ·rw[decide_eq_true q] at ez
  refine go true (k5.up 1) ?_;clear go
  have i1:bx σ (.m 2) (.d (kOf 97))=some (.m 3):=by kernel_rfl
  have i2:bx σ (.m 2) (.d (kOf 98))=some (.m 4):=by kernel_rfl
  have ca:f9 .Add (.list [elD s.l1]) (.list [elD s.l2])=some (.list [elD s.l1,elD s.l2]):=by kernel_rfl
  have st:(ch (fx (N+1)) 40 LR.scope (stG (nth LR.body 2)) (v5 s true) ⟨PR,σ⟩).map (fun s=>((.next,s):Fl×St))=some (.next,⟨PR,dk (k5.up 1) (.dict .tup (kv4++[(kOf 101,v5 s true)])::ls4 s)⟩):=by kernel_rfl
  exact a8 (.cons e5 (.cons ez (.cons i1 (.cons i2 (.cons ca (.cons st .nil)))))) [.e (.d (.int u)) σ,.b true,.v (.m 3),.v (.m 4),.v (.d (.list [elD s.l1,elD s.l2])),.l .next ⟨PR,dk (k5.up 1) (.dict .tup (kv4++[(kOf 101,v5 s true)])::ls4 s)⟩] (by kernel_rfl)
 ·rw[decide_eq_false q] at ez
  refine go false (k5.up 1) ?_;clear go
  have st:(ch (fx (N+1)) 40 LR.scope (stG (nth LR.body 2)) (v5 s false) ⟨PR,σ⟩).map (fun s=>((.next,s):Fl×St))=some (.next,⟨PR,dk (k5.up 1) (.dict .tup (kv4++[(kOf 101,v5 s false)])::ls4 s)⟩):=by kernel_rfl
  exact a8 (.cons e5 (.cons ez (.cons st .nil))) [.e (.d (.int u)) σ,.b false,.l .next ⟨PR,dk (k5.up 1) (.dict .tup (kv4++[(kOf 101,v5 s false)])::ls4 s)⟩] (by kernel_rfl)
theorem aoo (N:Nat) (k:Dk) (s:Ls) (sum:Bool){G:Prop}(go:∀(two:Bool) (k':Dk),RS N 4 (dk k (gq s sum false)) (dk k' (gq s sum two))→G):G:=by
 refine qb N k (gq s sum false) 3 (by exact Nat.succ_pos _) fun p k6 hp e6=>?_
 have lt:=uu (dk k6 (gq s sum false)) p 2
 by_cases q:p<2
 ·rw[decide_eq_true q] at lt
  refine go true (k6.up 2) ?_;clear go
  have st:(ch (fx (N+1)) 40 LR.scope (stG (nth (stB (nth LR.body 4)) 0)) (.m 9) ⟨PR,dk (k6.up 1) (.dict .tup (kv7 s sum)::(ls6 s++[.list [elD (80,32,2)]]))⟩).map (fun s=>((.next,s):Fl×St))=some (.next,⟨PR,dk (k6.up 2) (gq s sum true)⟩):=by cases sum<;>kernel_rfl
  exact a8 (.cons e6 (.cons lt (.cons st .nil))) [.e (.d (.int p)) (dk k6 (gq s sum false)),.b true,.l .next ⟨PR,dk (k6.up 2) (gq s sum true)⟩] (by kernel_rfl)
 ·rw[decide_eq_false q] at lt
  exact go false k6 (a8 (.cons e6 (.cons lt .nil)) [.e (.d (.int p)) (dk k6 (gq s sum false)),.b false] (by kernel_rfl))
theorem ai9 (N:Nat) (k:Dk) (s:Ls) (sum two:Bool){G:Prop}(go:∀(three:Bool) (k':Dk),RS N 5 (dk k (gq s sum two)) (dk k' (gk s sum two three))→G):G:=by
 refine qb N k (gq s sum two) 3 (by exact Nat.succ_pos _) fun r k8 hr e8=>?_
 have eq:=gw (dk k8 (gq s sum two)) r 2
 by_cases q:r=2
 ·rw [decide_eq_true q] at eq
  refine go true (k8.up 2) ?_;clear go
  have go:∀(M:Nat) (ls:List MO) (kvs:List (D×V)),gq s sum two=.dict .tup kvs::ls→(dk k8 (gq s sum two)).objs.length=M→
    (ch (fx (N+1)) 40 LR.scope (stG (nth (stB (nth LR.body 5)) 0)) (.m M) ⟨PR,dk (k8.up 1) (.dict .tup kvs::(ls++[.list [elD (16,32,2),elD (0,41,2)]]))⟩).map (fun s=>((.next,s):Fl×St))=some (.next,⟨PR,dk (k8.up 2) (gk s sum two true)⟩)→
    RS N 5 (dk k (gq s sum two)) (dk (k8.up 2) (gk s sum two true)):=by
   intro M ls kvs h1 h2 st
   rw [h1] at h2 e8 eq ⊢
   subst h2
   exact a8 (.cons e8 (.cons eq (.cons st .nil))) [.e (.d (.int r)) (dk k8 (.dict .tup kvs::ls)),.b true,.l .next ⟨PR,dk (k8.up 2) (gk s sum two true)⟩] (by kernel_rfl)
  cases two with
  |false=>exact go 9 (ls6 s) (kv7 s sum) rfl rfl (by cases sum<;>kernel_rfl)
  |true=>exact go 10 (ls6 s++[.list [elD (80,32,2)]]) (kv7 s sum++[(k2 97 98,.m 9)]) rfl rfl (by cases sum<;>kernel_rfl)
 ·rw [decide_eq_false q] at eq
  refine go false k8 ?_;clear go
  rw [show gk s sum two false=gq s sum two by cases two<;>rfl]
  exact a8 (.cons e8 (.cons eq .nil)) [.e (.d (.int r)) (dk k8 (gq s sum two)),.b false] (by kernel_rfl)
theorem a5y (N:Nat) (k:Dk){G:Prop}(go:∀(s:Ls) (sum two three:Bool) (k':Dk),xl s→(fx (N+2)).eff (.fn "_law_rows") [.m 1] (dk k [])=some (.m 2,dk k' (gk s sum two three))→G):G:=by
 let Φ:=fx (N+1)
 let ρ:=fun r j=>gc (some (.m 1)) r j
 let k0:=k.up 1
 have s0:evS Φ LR.muts LR.scope 20 (nth LR.body 0) ⟨ρ none none,dk k []⟩=some (.next,⟨ρ (some (.m 2)) none,dk k0 [.dict .any []]⟩):=by
  have d:evE Φ 40 LR.scope (ρ none none) (stE (nth LR.body 0)) (dk k [])=some (.m 2,dk k0 [.dict .any []]):=by kernel_rfl
  exact a8 (.cons d .nil) [.e (.m 2) (dk k0 [.dict .any []])] (by kernel_rfl)
 refine anj N k0 fun s k4 hs lp=>?_
 have s1:evS Φ LR.muts LR.scope 20 (nth LR.body 1) ⟨ρ (some (.m 2)) none,dk k0 [.dict .any []]⟩=some (.next,⟨PR,dk k4 (.dict .tup kv4::ls4 s)⟩):=a8 (.cons lp .nil) [.l .next ⟨PR,dk k4 (.dict .tup kv4::ls4 s)⟩] (by kernel_rfl)
 refine alm N k4 s fun sum k5 s2=>?_
 have s3:RS N 3 (dk k5 (.dict .tup (kv4++[(kOf 101,v5 s sum)])::ls4 s)) (dk (k5.up 4) (gq s sum false)):=by
  cases sum<;>exact a8 .nil [] (by kernel_rfl)
 refine aoo N (k5.up 4) s sum fun two k6 s4=>?_
 refine ai9 N k6 s sum two fun three k7 s5=>?_
 refine go s sum two three k7 hs ?_;clear go
 have hb:LR.body=[nth LR.body 0,nth LR.body 1,nth LR.body 2,nth LR.body 3,nth LR.body 4,nth LR.body 5,nth LR.body 6]:=by kernel_rfl
 have s6:evS Φ LR.muts LR.scope 20 (nth LR.body 6) ⟨PR,dk k7 (gk s sum two three)⟩=some (.ret (.m 2),⟨PR,dk k7 (gk s sum two three)⟩):=by
  cases two<;>cases three<;>exact a8 .nil [] (by kernel_rfl)
 have run:cc (evS Φ LR.muts LR.scope 20) LR.body ⟨ρ none none,dk k []⟩=some (.ret (.m 2),⟨PR,dk k7 (gk s sum two three)⟩):=by
  rw[hb]
  exact b9 s0 (b9 s1 (b9 s2 (b9 s3 (b9 s4 (b9 s5 (a2p s6))))))
 refine(xk a5i (ρ none none) (by kernel_rfl) run).trans ?_
 cases two<;>cases three<;>rfl
noncomputable def ac9(p:Int×Int×Int):D:=.inst "CollBase" [("first",.int p.1),("last",.int p.2.1),("base",.int p.2.2),("origin",.none)]
noncomputable def a6p:List (Int×Int×Int):=[(0,1114111,64448),(19968,40959,64320),(64014,64015,64320),(64017,64017,64320),(64019,64020,64320),(64031,64031,64320),(64033,64033,64320),(64035,64036,64320),(64039,64041,64320),
 (13312,19903,64384),(131072,173791,64384),(173824,177977,64384),(177984,178205,64384),(178208,183969,64384),(183984,191456,64384),(191472,192093,64384),(196608,201546,64384),(201552,205743,64384)]
noncomputable def a11:D:=.tuple [.int 1,.int 1,.int 1]
noncomputable def y9 (k:Nat):List MO:=[.inst "Elements" [("table",.m (k+1)),("longest",.m (k+2)),("factors",.d a11),("bases",.m (k+3))],.dict .any [],.dict .any [],.list (a6p.map ac9)]
noncomputable def a1q (k:Nat):List MO:=[.inst "Data" [("defaults",.m (k+1)),("maps",.m (k+2)),("properties",.m (k+3)),("words",.m (k+4))],.dict .str (ac6.map fun p=>(p.1,.d p.2)),.dict .any [],.dict .any [],.dict .any []]
noncomputable def kAt:Bool→Bool→Nat
 |false,false=>9
 |true,true=>11
 |_,_=>10
theorem a6g (N:Nat) (s:Ls) (sum two three:Bool) (cells:List Int) (x:Int) (v:Nat):
  (fx (N+3)).eff (.fn "Elements") [] (i7 cells x (gk s sum two three) v)=some (.m (kAt two three),i7 cells x (gk s sum two three++y9 (kAt two three)) (v+25)):=by
 cases two<;>cases three<;>kernel_rfl
theorem aej (N:Nat) (s:Ls) (sum two three:Bool) (cells:List Int) (x:Int) (v:Nat):
  (fx (N+3)).eff (.fn "Data") [] (i7 cells x (gk s sum two three++y9 (kAt two three)) v)=some (.m (kAt two three+4),i7 cells x (gk s sum two three++y9 (kAt two three)++a1q (kAt two three+4)) (v+43)):=by
 cases two<;>cases three<;>kernel_rfl
noncomputable def cf(s:Ls)(sum two three:Bool):Rows:=
 [([97],[s.l1]),([98],[s.l2]),([99],[s.l3]),([100],[s.l4]),([101],if sum then[s.l1,s.l2]else[(64,32,2)]),([120],[(0,0,0)]),([121],[(0,40,2)])]++((if two then[([97,98],[(80,32,2)])]else[])++if three then[([98,99],[(16,32,2),(0,41,2)])]else[])
noncomputable def qv (two three:Bool):List (Int×Nat):=[(97,if two then 2 else 1),(98,if three then 2 else 1),(99,1),(100,1),(101,1),(120,1),(121,1)]
noncomputable def frz:MO→MO
 |.list xs=>.frozen (.list xs)
 |o=>o
noncomputable def ajx (k:Nat)(R:Rows)(L:List (Int×Nat)):List MO:=[.inst "Elements" [("table",.m (k+1)),("longest",.m (k+2)),("factors",.d a11),("bases",.m (k+3))],.dict .tup (R.map fun r=>(zf r.1,.d (db r.2))),.dict .int (L.map fun p=>(.int p.1,.d (.int p.2))),.list (a6p.map ac9)]
noncomputable def afs (s:Ls)(sum two three:Bool):List MO:=match gk s sum two three with
 |_::ls=>.frozen (fc (cf s sum two three))::ls.map frz
 |[]=>[]
noncomputable def gm:Bool→Bool→D
 |_,true=>k2 98 99
 |true,false=>k2 97 98
 |false,false=>kOf 121
noncomputable def ap6:Bool→Bool→Nat
 |false,false=>21
 |true,true=>27
 |_,_=>24
noncomputable abbrev LF:=ae 106
noncomputable def d6 (S:D) (deck rows table data ce strength word ov back marks text low pattern pieces wish how ways told:Option V):Rho:=ajw (some (.d S)) deck rows table data ce strength word ov back marks text low pattern pieces wish how ways told
theorem ahl (S:D) (s:Ls) (sum two three:Bool) (cells:List Int) (x:Int) (v:Nat):∃v',
  evS (fx 20) LF.muts LF.scope 20 (nth LF.body 2) ⟨d6 S (some (.m 1)) (some (.m 2)) (some (.m (kAt two three))) (some (.m (kAt two three+4))) none none none none none none none none none none none none none none,i7 cells x (gk s sum two three++y9 (kAt two three)++a1q (kAt two three+4)) v⟩=
  some (.next,⟨d6 S (some (.m 1)) (some (.m 2)) (some (.m (kAt two three))) (some (.m (kAt two three+4))) (some (.d (gm two three))) none none none none none none none none none none none none none,i7 cells x (afs s sum two three++ajx (kAt two three) (cf s sum two three) (qv two three)++a1q (kAt two three+4)) v'⟩):=by
 refine⟨v+ap6 two three,?_⟩
 cases two<;>cases three<;>cases sum<;>kernel_rfl
noncomputable def amw (k:Nat):Bool→List MO
 |false=>a1q k
 |true=>[.inst "Data" [("defaults",.m (k+1)),("maps",.m (k+2)),("properties",.m (k+3)),("words",.m (k+4))],.dict .str (ac6.map fun p=>(p.1,.d p.2)),.dict .str [(.str "gcb",.m (k+5))],.dict .any [],.dict .any [],
  .inst "RangeMap" [("default",.d (.str "Other")),("starts",.m (k+10)),("values",.m (k+11))],.frozen (.list [.int 0]),.list [.str "Other"],.list [.int 121,.int 122],.list [.str "Extend",.str "Other"],.list [.int 0,.int 121,.int 122],.list [.str "Other",.str "Extend",.str "Other"]]
noncomputable def a7h (s:Ls) (sum two three whole:Bool):List MO:=afs s sum two three++ajx (kAt two three) (cf s sum two three) (qv two three)++amw (kAt two three+4) whole
noncomputable def ao:Wd→Bool
 |.whole=>true
 |_=>false
theorem a9g (r:Nat) (hr:r<3) (σ:Sto):∃wd:Wd,bx σ (.d (.list [.str "least",.str "wide",.str "whole"])) (.d (.int r))=some (.d (.str wd.str)):=by
 rcases(by grind:r=0∨r=1∨r=2)with rfl|rfl|rfl
 ·exact⟨.least,by kernel_rfl⟩
 ·exact⟨.wide,by kernel_rfl⟩
 ·exact⟨.whole,by kernel_rfl⟩
noncomputable abbrev LΦ:=fx 20
section
variable(S:D)(rows table data ce:Option V)
theorem aph (k:Dk) (rest:List MO){G:Prop}(go:∀(st:Nat) (wd:Wd) (k':Dk),1≤st→st≤3→
  evS LΦ LF.muts LF.scope 20 (nth LF.body 3) ⟨d6 S (some (.m 1)) rows table data ce none none none none none none none none none none none none none,dk k rest⟩=
  some (.next,⟨d6 S (some (.m 1)) rows table data ce (some (.d (.int (st:Nat)))) (some (.d (.str (Wd.str wd)))) none none none none none none none none none none none,dk k' rest⟩)→G):G:=by
 refine qb 19 k rest 3 (by exact Nat.succ_pos _) fun a k1 ha e1=>qb 19 k1 rest 3 (by exact Nat.succ_pos _) fun b k2 hb e2=>ex1 (a9g b hb (dk k2 rest)) fun wd hwd=>?_
 refine go (1+a) wd k2 (by exact Nat.le_add_right _ _) (by exact ak3 ha) ?_;clear go
 exact a8 (.cons e1 (.cons e2 (.cons hwd .nil))) [.e (.d (.int a)) (dk k1 rest),.e (.d (.int b)) (dk k2 rest),.v (.d (.str wd.str))] (by kernel_rfl)
theorem aoz (st word:Option V) (k:Dk) (rest:List MO){G:Prop}(go:∀(ov back:Bool) (k':Dk),
  evS LΦ LF.muts LF.scope 20 (nth LF.body 4) ⟨d6 S (some (.m 1)) rows table data ce st word none none none none none none none none none none none,dk k rest⟩=
  some (.next,⟨d6 S (some (.m 1)) rows table data ce st word (some (.d (.bool ov))) (some (.d (.bool back))) none none none none none none none none none,dk k' rest⟩)→G):G:=by
 refine qb 19 k rest 2 (by exact Nat.succ_pos _) fun a k1 ha e1=>qb 19 k1 rest 2 (by exact Nat.succ_pos _) fun b k2 hb e2=>?_
 refine go (decide (a=0)) (decide (b=1)) k2 ?_;clear go
 exact a8 (.cons e1 (.cons (gw (dk k1 rest) a 0) (.cons e2 (.cons (gw (dk k2 rest) b 1) .nil)))) [.e (.d (.int a)) (dk k1 rest),.b (decide (a=0)),.e (.d (.int b)) (dk k2 rest),.b (decide (b=1))] (by kernel_rfl)
noncomputable def dj:Bool→List Int
 |true=>[121]
 |false=>[]
theorem ap8 (st ov back:Option V) (wd:Wd) (σ:Sto):
  evS LΦ LF.muts LF.scope 20 (nth LF.body 5) ⟨d6 S (some (.m 1)) rows table data ce st (some (.d (.str wd.str))) ov back none none none none none none none none none,σ⟩=
  some (.next,⟨d6 S (some (.m 1)) rows table data ce st (some (.d (.str wd.str))) ov back (some (.d (dw (dj (ao wd))))) none none none none none none none none,σ⟩):=by
 have iv:b8 σ .Eq (.d (.str wd.str)) (.d (.str "whole"))=some (ao wd):=by cases wd<;>kernel_rfl
 cases wd with
 |whole=>exact a8 (.cons iv .nil) [.b true] (by kernel_rfl)
 |least=>exact a8 (.cons iv .nil) [.b false] (by kernel_rfl)
 |wide=>exact a8 (.cons iv .nil) [.b false] (by kernel_rfl)
end
theorem aox (S:D) (s:Ls) (sum two three:Bool) (wd:Wd) (k:Dk) (ce st ov back marks:Option V){G:Prop}(go:∀k':Dk,
  evS LΦ LF.muts LF.scope 20 (nth LF.body 6) ⟨d6 S (some (.m 1)) (some (.m 2)) (some (.m (kAt two three))) (some (.m (kAt two three+4))) ce st (some (.d (.str wd.str))) ov back marks none none none none none none none none,dk k (a7h s sum two three false)⟩=
  some (.next,⟨d6 S (some (.m 1)) (some (.m 2)) (some (.m (kAt two three))) (some (.m (kAt two three+4))) ce st (some (.d (.str wd.str))) ov back marks none none none none none none none none,dk k' (a7h s sum two three (ao wd))⟩)→G):G:=by
 have iv:∀σ,b8 σ .Eq (.d (.str wd.str)) (.d (.str "whole"))=some (ao wd):=fun σ=>by cases wd<;>kernel_rfl
 cases wd with
 |whole=>exact go (k.up 16) (by clear go;cases two<;>cases three<;>kernel_rfl)
 |_=>exact go k (by clear go;cases two<;>cases three<;>kernel_rfl)
theorem abq{Φ:Fx}{n:Nat}{sc:Scope}{ρ:Rho}{e:Expr}{σ:Sto}{r:(List D×Bool)×Sto}{ps:List Prop}(f:All ps) (tp:bo) (h:afh Φ n sc ρ (tvE Φ n sc ρ) e σ tp=some (r,[],ps)):gf Φ (n+1) sc ρ e σ=some r:=
 a83 n sc ρ (tr n sc ρ) e σ tp _ _ _ h f.all
theorem sd{turn:D→Sto→Option (Option D×Sto)}{rest:List MO}
  (h:∀x k{G:Prop},(∀c k',c∈ce→turn x (dk k rest)=some (some (.int c),dk k' rest)→G)→G):
  ∀(xs:List D) (k:Dk){G:Prop},(∀(t:List Int) (k':Dk),t.length=xs.length→(∀c∈t,c∈ce)→be turn xs (dk k rest)=some (t.map .int,dk k' rest)→G)→G
 |[],k,G,go=>go [] k rfl (fun _ h=>nomatch h) rfl
 |y::xs,k,G,go=>h y k fun c k1 hc e1=>sd h xs k1 fun t k2 ht hs e2=>go (c::t) k2 (congrArg (·+1) ht) (fun d hd=>(List.mem_cons.mp hd).elim (fun e=>e▸hc) (hs d)) (by
   rw [za,e1]
   exact congrArg (Option.map _) e2)
theorem a1h (ρ:Rho) (e:Expr) (n:Nat) (rest:List MO) (ver:Nat)
  (hk:∀(x:D) (r:Nat) (k:Dk) (σ':Sto),LΦ.eff (.fn "_law_draw") [.m 1,.d (.int 7)] (dk k rest)=some (.d (.int r),σ')→∀c:Int,ce[r]?=some c→bq LΦ n ρ ver e x (dk k rest)=some (some (.int c),σ'))
  (x:D) (k:Dk){G:Prop}(go:∀c k',c∈ce→bq LΦ n ρ ver e x (dk k rest)=some (some (.int c),dk k' rest)→G):G:=
 qb 19 k rest 7 (by exact Nat.succ_pos _) fun r k1 hr e1=>go (ce[r]'hr) k1 (List.getElem_mem hr) (hk x r _ _ e1 _ (List.getElem?_eq_getElem hr))
theorem mh{P:Nat→Int→Prop}{r i:Nat}{c d:Int}{l:List Int}(h:(d::l)[r]?=some c) (h0:P i d) (k:∀r,l[r]?=some c→P (r+(i+1)) c):P (r+i) c:=by
 cases r with
 |zero=>exact(Option.some.inj h:d=c)▸(Nat.zero_add i).symm▸h0
 |succ r=>exact Nat.succ_add r i▸k r h
theorem ag1{P:Nat→Int→Prop}{r:Nat}{c:Int}(h:ce[r]?=some c) (h0:P 0 97) (h1:P 1 98) (h2:P 2 99) (h3:P 3 100) (h4:P 4 101) (h5:P 5 120) (h6:P 6 121):P r c:=
 mh (i:=0) h h0 fun _ h=>mh h h1 fun _ h=>mh h h2 fun _ h=>mh h h3 fun _ h=>mh h h4 fun _ h=>mh h h5 fun _ h=>mh h h6 fun _ h=>nomatch h
theorem a8b{Φ:Fx}{muts:List Str}{sc:Scope}{n:Nat}{x:Str}{st:Stmt}{s:St}{v:V}{σ':Sto}{ρ':Rho}(h:∃c p,st=.Assign [.Name x c] (stE st) p) (hm:muts.contains x=false) (he:evE Φ 40 sc s.ρ (stE st) s.σ=some (v,σ')) (hs:s.ρ.set x v=some ρ'):evS Φ muts sc (n+1) st s=some (.next,⟨ρ',σ'⟩):=by
 obtain⟨c,p,h⟩:=h
 have hr:evR Φ ak muts sc s.ρ (.Name x c) (stE st) s.σ=some (v,σ'):=by
  refine Eq.trans (b:=if muts.contains x=true then _ else evE Φ ak sc s.ρ (stE st) s.σ) rfl ((if_neg (by rw [hm];exact Bool.false_ne_true)).trans he)
 rw [h,a4p,hr]
 exact congrArg (Option.map _) hs
theorem a5l{Φ:Fx}{n:Nat}{sc:Scope}{ρ:Rho}{e:Expr}{σ σ1 σ2:Sto}{xs ys:List D}(h:∃elt t csc p,e=.ListComp elt [⟨t,uy e,[],0⟩] csc p∧(js sc csc t&&n7 t (uy e))=true) (hs:gf Φ n sc ρ (uy e) σ=some ((xs,false),σ1)) (hr:fe xs.length=true) (hc:be (bq Φ n ρ σ1.ver e) xs σ1=some (ys,σ2)):evE Φ (n+1) sc ρ e σ=some (.d (.list ys),σ2):=by
 obtain⟨elt,t,csc,p,h,hk⟩:=h
 have hc:be (nu Φ n csc ρ elt t [] false σ1.ver) xs σ1=some (ys,σ2):=by rw[h]at hc;exact hc
 rw[h,a5g Φ n sc ρ σ hk,hs]
 exact(if_pos hr).trans (congrArg (Option.map _) hc)
theorem api (S:D) (rows table data sg st word ov back marks:Option V) (k:Dk) (rest:List MO){G:Prop}(go:∀(t:List Int) (k':Dk),1≤t.length→t.length≤6→(∀c∈t,c∈ce)→
  evS LΦ LF.muts LF.scope 20 (nth LF.body 7) ⟨d6 S (some (.m 1)) rows table data sg st word ov back marks none none none none none none none none,dk k rest⟩=
  some (.next,⟨d6 S (some (.m 1)) rows table data sg st word ov back marks (some (.d (al t))) none none none none none none none,dk k' rest⟩)→G):G:=by
 let ρ:=d6 S (some (.m 1)) rows table data sg st word ov back marks none none none none none none none none
 let E:=stE (nth LF.body 7)
 refine qb 19 k rest 6 (by exact Nat.succ_pos _) fun n k1 hn e1=>?_
 let σ1:=dk k1 rest
 have sr:gf LΦ 39 LF.scope ρ (uy E) (dk k rest)=some (((List.range (1+n)).map fun i=>D.int ((i:Nat):Int),false),σ1):=
  abq (.cons e1 (.cons (jv (s:=1+n) (by exact ai5 hn) σ1) .nil)) [.e (.d (.int n)) σ1,.c ((List.range (1+n)).map fun i=>D.int ((i:Nat):Int))] (by kernel_rfl)
 refine sd (a1h ρ E 39 rest k1.v (fun x r k σ' hd c hc=>ag1 (P:=fun r c=>LΦ.eff (.fn "_law_draw") [.m 1,.d (.int 7)] (dk k rest)=some (.d (.int r),σ')→bq LΦ 39 ρ k1.v E x (dk k rest)=some (some (.int c),σ')) hc
  (fun hd=>b6 (.cons hd .nil) [.e (.d (.int (0:Nat))) σ'] (by kernel_rfl)) (fun hd=>b6 (.cons hd .nil) [.e (.d (.int (1:Nat))) σ'] (by kernel_rfl)) (fun hd=>b6 (.cons hd .nil) [.e (.d (.int (2:Nat))) σ'] (by kernel_rfl)) (fun hd=>b6 (.cons hd .nil) [.e (.d (.int (3:Nat))) σ'] (by kernel_rfl))
  (fun hd=>b6 (.cons hd .nil) [.e (.d (.int (4:Nat))) σ'] (by kernel_rfl)) (fun hd=>b6 (.cons hd .nil) [.e (.d (.int (5:Nat))) σ'] (by kernel_rfl)) (fun hd=>b6 (.cons hd .nil) [.e (.d (.int (6:Nat))) σ'] (by kernel_rfl)) hd))
  ((List.range (1+n)).map fun i=>D.int ((i:Nat):Int)) k1 fun t k2 ht hs e2=>?_
 rw[List.length_map,List.length_range] at ht
 refine go t k2 (by exact ama ht) (by exact ajv hn ht) hs ?_;clear go
 have ev:evE LΦ 40 LF.scope ρ E (dk k rest)=some (.d (.list (t.map .int)),dk k2 rest):=
  a5l ⟨_,_,_,_,rfl,by kernel_rfl⟩ sr (bc (fun i=>D.int ((i:Nat):Int)) (List.range (1+n)) (by rw[List.length_range];exact ai5 hn)) e2
 exact a8b (x:="text") ⟨_,_,rfl⟩ (by kernel_rfl) ev (by kernel_rfl)
theorem ab6{Φ:Fx}{muts:List Str}{sc:Scope}{n:Nat}{st:Stmt}{ρ:Rho}{σ σ1:Sto}{r:Option (Fl×St)}{ps:List Prop}(h:∃b p,st=.If (stE st) b (stO st) p) (f:All ps) (tp:bo) (ht:tT (tvE Φ 39 sc ρ) (stE st) σ tp=some ((false,σ1),[],ps)) (hb:cc (evS Φ muts sc n) (stO st) ⟨ρ,σ1⟩=r):evS Φ muts sc (n+1) st ⟨ρ,σ⟩=r:=by
 obtain⟨b,p,h⟩:=h
 have e:evT Φ ak sc ρ (stE st) σ=some (false,σ1):=aes 39 sc ρ (stE st) σ tp _ _ _ ht f.all
 rw[h,ad9,e];exact hb
theorem apq (S:D) (rows table data sg st word ov back marks:Option V) (t:List Int) (h1:1≤t.length) (h6:t.length≤6) (hs:∀c∈t,c∈ce) (k:Dk) (rest:List MO){G:Prop}
  (go:∀(p:List Int) (lo:Option V) (k':Dk),p.length≤2→(∀c∈p,c∈ce)→
  evS LΦ LF.muts LF.scope 20 (nth LF.body 8) ⟨d6 S (some (.m 1)) rows table data sg st word ov back marks (some (.d (al t))) none none none none none none none,dk k rest⟩=
  some (.next,⟨d6 S (some (.m 1)) rows table data sg st word ov back marks (some (.d (al t))) lo (some (.d (al p))) none none none none none,dk k' rest⟩)→G):G:=by
 let ρ:=fun lo p=>d6 S (some (.m 1)) rows table data sg st word ov back marks (some (.d (al t))) lo p none none none none none
 refine qb 19 k rest 2 (by exact Nat.succ_pos _) fun a k1 ha e1=>?_
 let σ1:=dk k1 rest
 have eq:=gw σ1 a 0
 by_cases q:a=0
 ·rw[decide_eq_true q] at eq
  refine qb 19 k1 rest t.length h1 fun low k2 hlow e2=>?_
  refine qb 19 k2 rest 2 (by exact Nat.succ_pos _) fun b k3 hb e3=>?_
  let σ3:=dk k3 rest
  let p:=(t.drop low).take (1+b)
  have sl:=jt (t:=t) (pre:=t.take low) (suf:=t.drop low) (List.take_append_drop low t).symm (by exact Nat.le_trans (by assumption) (by decide)) (1+b) (by exact aix hb) σ3
  rw[show(t.take low).length=low by rw[List.length_take];exact amz hlow,show(low:Int)+((1+b:Nat):Int)=(low:Int)+1+(b:Int) by grind] at sl
  refine go p (some (.d (.int low))) k3 (by rw[List.length_take];exact amg hb) (fun c hc=>hs c (List.mem_of_mem_drop (List.mem_of_mem_take hc))) ?_;clear go
  exact a8 (.cons e1 (.cons eq (.cons (i9 t σ1) (.cons e2 (.cons e3 (.cons sl .nil)))))) [.e (.d (.int a)) σ1,.b true,.v (.d (.int t.length)),.e (.d (.int low)) (dk k2 rest),.e (.d (.int b)) σ3,.e (.d (al p)) σ3] (by kernel_rfl)
 ·rw[decide_eq_false q] at eq
  refine qb 19 k1 rest 3 (by exact Nat.succ_pos _) fun n k2 hn e2=>?_
  let σ2:=dk k2 rest
  let O:=stO (nth LF.body 8)
  let E:=stE (nth O 0)
  have hO:O=[nth O 0]:=by kernel_rfl
  have sr:gf LΦ 39 LF.scope (ρ none none) (uy E) σ1=some (((List.range n).map fun i=>D.int ((i:Nat):Int),false),σ2):=
   abq (.cons e2 (.cons (jv (s:=n) (by exact amk hn) σ2) .nil)) [.e (.d (.int n)) σ2,.c ((List.range n).map fun i=>D.int ((i:Nat):Int))] (by kernel_rfl)
  refine sd (a1h (ρ none none) E 39 rest k2.v (fun x r k σ' hd c hc=>ag1 (P:=fun r c=>LΦ.eff (.fn "_law_draw") [.m 1,.d (.int 7)] (dk k rest)=some (.d (.int r),σ')→bq LΦ 39 (ρ none none) k2.v E x (dk k rest)=some (some (.int c),σ')) hc
   (fun hd=>b6 (.cons hd .nil) [.e (.d (.int (0:Nat))) σ'] (by kernel_rfl)) (fun hd=>b6 (.cons hd .nil) [.e (.d (.int (1:Nat))) σ'] (by kernel_rfl)) (fun hd=>b6 (.cons hd .nil) [.e (.d (.int (2:Nat))) σ'] (by kernel_rfl)) (fun hd=>b6 (.cons hd .nil) [.e (.d (.int (3:Nat))) σ'] (by kernel_rfl))
   (fun hd=>b6 (.cons hd .nil) [.e (.d (.int (4:Nat))) σ'] (by kernel_rfl)) (fun hd=>b6 (.cons hd .nil) [.e (.d (.int (5:Nat))) σ'] (by kernel_rfl)) (fun hd=>b6 (.cons hd .nil) [.e (.d (.int (6:Nat))) σ'] (by kernel_rfl)) hd))
   ((List.range n).map fun i=>D.int ((i:Nat):Int)) k2 fun p k3 hp hps e3=>?_
  rw[List.length_map,List.length_range] at hp
  refine go p none k3 (by exact an7 hn hp) hps ?_;clear go
  have ev:evE LΦ 40 LF.scope (ρ none none) E σ1=some (.d (.list (p.map .int)),dk k3 rest):=
   a5l ⟨_,_,_,_,rfl,by kernel_rfl⟩ sr (bc (fun i=>D.int ((i:Nat):Int)) (List.range n) (by rw[List.length_range];exact amk hn)) e3
  have as:evS LΦ LF.muts LF.scope 19 (nth O 0) ⟨ρ none none,σ1⟩=some (.next,⟨ρ none (some (.d (al p))),dk k3 rest⟩):=a8b (x:="pattern") ⟨_,_,rfl⟩ (by kernel_rfl) ev (by kernel_rfl)
  exact ab6 ⟨stB (nth LF.body 8),_,rfl⟩ (.cons e1 (.cons eq .nil)) [.e (.d (.int a)) σ1,.b false] (by kernel_rfl) (dh hO as)
theorem ap0 (S:D) (table data sg word ov back marks lo:Option V) (R:Rows) (t p:List Int) (s:Nat) (hs:s≤3) (hR:qj R t) (hRp:qj R p) (ht:t.length≤50) (hp:p.length≤50) (hb:∀k es,bg R k=some es→es.length≤50)
  (he:((seg R p).flatMap Prod.snd).length≤1000) (cells:List Int) (x:Int) (rest:List MO) (v:Nat):
  evS LΦ LF.muts LF.scope 20 (nth LF.body 9) ⟨d6 S (some (.m 1)) (some (.m 2)) table data sg (some (.d (.int s))) word ov back marks (some (.d (al t))) lo (some (.d (al p))) none none none none none,i7 cells x (.frozen (fc R)::rest) v⟩=
  some (.next,⟨d6 S (some (.m 1)) (some (.m 2)) table data sg (some (.d (.int s))) word ov back marks (some (.d (al t))) lo (some (.d (al p))) (some (.d (.list ((kf s 0 (seg R t)).map pcD)))) (some (.d (cq (c7 ((seg R p).flatMap Prod.snd) s)))) none none none,i7 cells x (.frozen (fc R)::rest) v⟩):=by
 exact a8 (.cons (a0m 18 R t s hs hR ht hb) (.cons (x3 19 R p hRp hp hb) (.cons (wf 19 ((seg R p).flatMap Prod.snd) s he hs) .nil)))
  [.v (.d (.list ((kf s 0 (seg R t)).map pcD))),.v (.d (db ((seg R p).flatMap Prod.snd))),.v (.d (cq (c7 ((seg R p).flatMap Prod.snd) s)))] (by kernel_rfl)
theorem amj (S:D) (rows table data sg st ma te lo pa pi wi:Option V) (wd:Wd) (ov back:Bool) (σ:Sto):
 evS LΦ LF.muts LF.scope 20 (nth LF.body 10) ⟨d6 S (some (.m 1)) rows table data sg st (some (.d (.str wd.str))) (some (.d (.bool ov))) (some (.d (.bool back))) ma te lo pa pi wi none none none,σ⟩=
 some (.next,⟨d6 S (some (.m 1)) rows table data sg st (some (.d (.str wd.str))) (some (.d (.bool ov))) (some (.d (.bool back))) ma te lo pa pi wi (some (.d (.str "non-ignorable"))) (some (.d (zj wd ov back))) none,σ⟩):=a8 .nil [] (by kernel_rfl)
theorem aiw (S:D) (deck rows table data sg st word ov' back' lo pa how:Option V) (t ms:List Int) (P:List Pc) (w:Lv) (wd:Wd) (ov back:Bool) (A:List (Nat×Nat)) (hA:A.length≤10000) (hP:j3 P) (hw:a3b P t) (hwl:w.length≤1000) (σ:Sto):
  evS LΦ LF.muts LF.scope 20 (nth LF.body 12) ⟨d6 S deck rows table data sg st word ov' back' (some (.d (dw ms))) (some (.d (al t))) lo pa (some (.d (.list (P.map pcD)))) (some (.d (cq w))) how (some (.d (zj wd ov back))) (some (.d (.list (A.map prD)))),σ⟩=
  some (.ret (.d (.bool (D.beq (.list (A.map prD)) (.list ((a47 P w (dc t ms) wd ov back).map prD))))),⟨d6 S deck rows table data sg st word ov' back' (some (.d (dw ms))) (some (.d (al t))) lo pa (some (.d (.list (P.map pcD)))) (some (.d (cq w))) how (some (.d (zj wd ov back))) (some (.d (.list (A.map prD)))),σ⟩):=by
 let ρ:=d6 S deck rows table data sg st word ov' back' (some (.d (dw ms))) (some (.d (al t))) lo pa (some (.d (.list (P.map pcD)))) (some (.d (cq w))) how (some (.d (zj wd ov back))) (some (.d (.list (A.map prD))))
 let Q:=a47 P w (dc t ms) wd ov back
 have hc:be (bq LΦ 38 ρ 0 (sub (stE (nth LF.body 12)) 0)) (A.map prD) σ=some (A.map prD,σ):=bn prD prD A fun q _=>b6 (.cons (aag σ [.int q.1,.int q.2]) .nil) [.v (.d (prD q))] (by kernel_rfl)
 have eq:b8 σ .Eq (.d (.list (A.map prD))) (.d (.list (Q.map prD)))=some (D.beq (.list (A.map prD)) (.list (Q.map prD))):=aas (pd A) (pd Q)
 exact a8 (.cons (bc prD A (by exact Nat.le_trans (by assumption) (by decide))) (.cons hc (.cons (a7u 16 P w t ms wd ov back hP hw hwl) (.cons eq .nil)))) [.c (A.map prD),.v (.d (.list (Q.map prD))),.b (D.beq (.list (A.map prD)) (.list (Q.map prD)))] (by kernel_rfl)
noncomputable def qz:Wd→Bool
 |.wide=>true
 |_=>false
noncomputable def a3o:D:=.list (a6p.map ac9)
theorem anm (S:D) (s:Ls) (sum two three:Bool) (wd:Wd) (ov back:Bool) (cells:List Int) (x:Int) (v:Nat) (sg ma lo pi wi wa:Option V) (st:Nat) (t p:List Int) (A:List (Nat×Nat))
  (hm:LΦ.pure (.fn "matches") [al p,al t,TD (fc (cf s sum two three)) (si (qv two three)) a11 a3o,jr (ao wd),.int st,.str "non-ignorable",.bool (ao wd),.bool (qz wd),.bool ov,.bool back]=some (.list (A.map prD))):∃σ',
  evS LΦ LF.muts LF.scope 20 (nth LF.body 11) ⟨d6 S (some (.m 1)) (some (.m 2)) (some (.m (kAt two three))) (some (.m (kAt two three+4))) sg (some (.d (.int st))) (some (.d (.str wd.str))) (some (.d (.bool ov))) (some (.d (.bool back))) ma (some (.d (al t))) lo (some (.d (al p))) pi wi (some (.d (.str "non-ignorable"))) wa none,i7 cells x (a7h s sum two three (ao wd)) v⟩=
  some (.next,⟨d6 S (some (.m 1)) (some (.m 2)) (some (.m (kAt two three))) (some (.m (kAt two three+4))) sg (some (.d (.int st))) (some (.d (.str wd.str))) (some (.d (.bool ov))) (some (.d (.bool back))) ma (some (.d (al t))) lo (some (.d (al p))) pi wi (some (.d (.str "non-ignorable"))) wa (some (.d (.list (A.map prD)))),σ'⟩):=by
 let σ:=i7 cells x (a7h s sum two three (ao wd)) v
 let k:=kAt two three
 refine⟨match a00 [.m k,.m (k+4)] σ with|some p=>p.2|none=>σ,?_⟩
 have iv:b8 σ .Eq (.d (.str wd.str)) (.d (.str "whole"))=some (ao wd):=by cases wd<;>kernel_rfl
 have iw:b8 σ .Eq (.d (.str wd.str)) (.d (.str "wide"))=some (qz wd):=by cases wd<;>kernel_rfl
 cases wd with
 |whole=>cases two<;>cases three<;>exact a8 (.cons iv (.cons iw (.cons hm .nil))) [.b true,.b false,.v (.d (.list (A.map prD)))] (by kernel_rfl)
 |least=>cases two<;>cases three<;>exact a8 (.cons iv (.cons iw (.cons hm .nil))) [.b false,.b false,.v (.d (.list (A.map prD)))] (by kernel_rfl)
 |wide=>cases two<;>cases three<;>exact a8 (.cons iv (.cons iw (.cons hm .nil))) [.b false,.b true,.v (.d (.list (A.map prD)))] (by kernel_rfl)
theorem aoy (l:List Int){G:Prop}(go:∀k:Dk,evS LΦ LF.muts LF.scope 20 (nth LF.body 0) ⟨d6 (.list (l.map .int)) none none none none none none none none none none none none none none none none none none,σ0⟩=
  some (.next,⟨d6 (.list (l.map .int)) (some (.m 1)) none none none none none none none none none none none none none none none none none,dk k []⟩)→G):G:=
 a46 19 l fun k e=>go k (a8 (.cons e .nil) [.e (.m 1) (dk k [])] (by kernel_rfl))
theorem apk (S:D) (k:Dk){G:Prop}(go:∀(s:Ls) (sum two three:Bool) (k':Dk),xl s→evS LΦ LF.muts LF.scope 20 (nth LF.body 1) ⟨d6 S (some (.m 1)) none none none none none none none none none none none none none none none none none,dk k []⟩=
  some (.next,⟨d6 S (some (.m 1)) (some (.m 2)) (some (.m (kAt two three))) (some (.m (kAt two three+4))) none none none none none none none none none none none none none none,dk k' (gk s sum two three++y9 (kAt two three)++a1q (kAt two three+4))⟩)→G):G:=by
 refine a5y 18 k fun s sum two three k1 hs e1=>?_
 refine go s sum two three ((k1.up 25).up 43) hs ?_;clear go
 have e2:=a6g 17 s sum two three k1.cells k1.x k1.v
 have e3:=aej 17 s sum two three k1.cells k1.x (k1.v+25)
 let σ1:=dk k1 (gk s sum two three)
 let σ2:=dk (k1.up 25) (gk s sum two three++y9 (kAt two three))
 let σ3:=dk ((k1.up 25).up 43) (gk s sum two three++y9 (kAt two three)++a1q (kAt two three+4))
 let tp:bo:=[.e (.m 2) σ1,.e (.m (kAt two three)) σ2,.e (.m (kAt two three+4)) σ3]
 cases two<;>cases three<;>exact a8 (.cons e1 (.cons e2 (.cons e3 .nil))) tp (by kernel_rfl)
noncomputable def afq:Prop:=∀(s:Ls) (sum two three:Bool) (wd:Wd) (ov back:Bool) (st:Nat) (t p:List Int),xl s→1≤st→st≤3→1≤t.length→t.length≤6→p.length≤2→(∀c∈t,c∈ce)→(∀c∈p,c∈ce)→
 uz (a0l (gg (ik 0 (seg (cf s sum two three) t)) st) (c7 (cp (ik 0 (seg (cf s sum two three) p))) st) (if ao wd then some (o3 (brk t) t.length)else none) (qz wd)) ov back=
 a47 (kf st 0 (seg (cf s sum two three) t)) (c7 ((seg (cf s sum two three) p).flatMap Prod.snd) st) (dc t (dj (ao wd))) wd ov back
theorem a8i (s:Ls) (sum two three:Bool) (t:List Int) (h:∀c∈t,c∈ce):qj (cf s sum two three) t:=by
 intro c hc
 rcases ud (h c hc)with rfl|rfl|rfl|rfl|rfl|rfl|rfl<;>exact⟨_,rfl⟩
theorem nz (st:Nat):∀(S:List (Nat×List El)) (at_:Nat),gg (ik at_ S) st=kf st at_ S
 |[],_=>rfl
 |(m,es)::S,at_=>congrArg (_::·) (nz st S (at_+m))
theorem pq:∀(S:List (Nat×List El)) (at_:Nat),cp (ik at_ S)=S.flatMap Prod.snd
 |[],_=>rfl
 |(m,es)::S,at_=>by
  show es++cp (ik (at_+m) S)=_
  rw[pq S (at_+m)];rfl
theorem a1x (s:Ls) (sum two three:Bool) (t:List Int) (h:∀c∈t,c∈ce):ahr (cf s sum two three) (qv two three) t:=by
 constructor
 ·intro c hc
  rcases ud (h c hc)with rfl|rfl|rfl|rfl|rfl|rfl|rfl
  ·cases two
   ·exact⟨1,rfl,.inl rfl⟩
   ·exact⟨2,rfl,.inr rfl⟩
  ·cases three
   ·exact⟨1,rfl,.inl rfl⟩
   ·exact⟨2,rfl,.inr rfl⟩
  all_goals exact⟨1,rfl,.inl rfl⟩
 ·intro c c' hc
  have sk:∀(a:Int) (es:List El) (R:Rows),bg (([a],es)::R) [c,c']=bg R [c,c']:=fun a es R=>if_neg (by intro h;cases h)
  have pr:∀(a b:Int) (es:List El) (R:Rows),bg (([a,b],es)::R) [c,c']=if a=c∧b=c' then some es else bg R [c,c']:=fun a b es R=>by
   show(if[a,b]=[c,c']then some es else bg R [c,c'])=_
   by_cases q:a=c∧b=c'
   ·refine bk q ?_;clear q;intro rf0 rf1;subst rf0;subst rf1;rw[if_pos rfl,if_pos ⟨rfl,rfl⟩]
   ·rw[if_neg q,if_neg (fun h=>by cases h;exact q ⟨rfl,rfl⟩)]
  have e:bg (cf s sum two three) [c,c']=bg ((if two then[([97,98],[((80:Int),(32:Int),(2:Int))])]else[])++if three then[([98,99],[(16,32,2),(0,41,2)])]else[]) [c,c']:=by
   unfold cf
   rw[List.cons_append,sk,List.cons_append,sk,List.cons_append,sk,List.cons_append,sk,List.cons_append,sk,List.cons_append,sk,List.cons_append,sk,List.nil_append]
  rw[e]at hc
  cases two with
  |false=>cases three with
   |false=>cases hc
   |true=>
    rw[show((if false=true then[([(97:Int),98],[((80:Int),(32:Int),(2:Int))])]else[])++if true=true then[([98,99],[(16,32,2),(0,41,2)])]else[])=[([98,99],[(16,32,2),(0,41,2)])]from rfl,pr]at hc
    split at hc
    ·rename_i q;rw[←q.1];rfl
    ·cases hc
  |true=>cases three with
   |false=>
    rw[show((if true=true then[([(97:Int),98],[((80:Int),(32:Int),(2:Int))])]else[])++if false=true then[([98,99],[(16,32,2),(0,41,2)])]else[])=[([97,98],[(80,32,2)])]from rfl,pr]at hc
    split at hc
    ·rename_i q;rw[←q.1];rfl
    ·cases hc
   |true=>
    rw[show((if true=true then[([(97:Int),98],[((80:Int),(32:Int),(2:Int))])]else[])++if true=true then[([98,99],[(16,32,2),(0,41,2)])]else[])=[([97,98],[(80,32,2)]),([98,99],[(16,32,2),(0,41,2)])]from rfl,pr,pr]at hc
    split at hc
    ·rename_i q;rw[←q.1];rfl
    ·split at hc
     ·rename_i q;rw[←q.1];rfl
     ·cases hc
noncomputable def a2u (S:List (Nat×List El)):Prop:=∀p∈S,1≤p.1
noncomputable def iq:Nat→List (Nat×List El)→List Nat
 |_,[]=>[]
 |a,(m,_)::r=>a::iq (a+m) r
theorem a19:∀(S:List (Nat×List El)) (a:Nat),a2u S→(ik a S).reverse.foldl ly ([],none)=((iq a S).reverse,(iq a S).head?)
 |[],_,_=>rfl
 |(m,es)::S,a,h=>by
  have ih:=a19 S (a+m) fun p hp=>h p (.tail _ hp)
  show((es,a,a+m)::ik (a+m) S).reverse.foldl ly ([],none)=_
  rw[List.reverse_cons,List.foldl_append,ih]
  show ly ((iq (a+m) S).reverse,(iq (a+m) S).head?) (es,a,a+m)=((a::iq (a+m) S).reverse,some a)
  rw[List.reverse_cons]
  unfold ly
  have h1:1≤m:=h (m,es) (.head _)
  cases S with
  |nil=>rfl
  |cons q r=>
   obtain⟨m',es'⟩:=q
   show(_++[if a<a+m then a else a+m],some (if a<a+m then a else a+m))=_
   rw[if_pos (by exact ami h1)]
theorem a75 (S:List (Nat×List El))(a:Nat)(h:a2u S):a3v (ik a S)=iq a S:=by
 unfold a3v
 rw[a19 S a h,List.reverse_reverse]
theorem a8l:∀(S:List (Nat×List El)) (a:Nat) (pre cs:List Nat),a2u S→(((ik a S).zipIdx pre.length).foldl (a56 (pre++iq a S)) (cs,a)).1=cs++List.range' pre.length S.length
 |[],_,_,cs,_=>(List.append_nil cs).symm
 |(m,es)::S,a,pre,cs,h=>by
  have ih:=a8l S (a+m) (pre++[a]) (cs++[pre.length]) fun p hp=>h p (.tail _ hp)
  rw[List.length_append]at ih
  show((((es,a,a+m),pre.length)::(ik (a+m) S).zipIdx (pre.length+1)).foldl (a56 (pre++a::iq (a+m) S)) (cs,a)).1=_
  rw[List.foldl_cons]
  have e:a56 (pre++a::iq (a+m) S) (cs,a) ((es,a,a+m),pre.length)=(cs++[pre.length],a+m):=by
   unfold a56
   dsimp only
   have h1:1≤m:=h (m,es) (.head _)
   rw[List.getElem?_append_right (Nat.le_refl _),Nat.sub_self]
   show((if a≤a then _ else _),(if a<a+m then _ else _))=_
   rw[if_pos (Nat.le_refl _),if_pos (by exact ami h1)]
  rw[e,show pre++a::iq (a+m) S=(pre++[a])++iq (a+m) S by rw[List.append_assoc];rfl]
  refine ih.trans ?_
  rw[List.append_assoc];rfl
theorem a9w (S:List (Nat×List El)) (h:a2u S):a5q (ik 0 S)=List.range (ik 0 S).length:=by
 have hl:∀(S:List (Nat×List El)) a,(ik a S).length=S.length:=by
  intro S
  induction S with
  |nil=>exact fun _=>rfl
  |cons p S ih=>exact fun a=>congrArg (·+1) (ih (a+p.1))
 unfold a5q
 rw[a75 S 0 h,hl]
 have:=a8l S 0 [] [] h
 rw[List.nil_append,List.nil_append]at this
 rw[List.range_eq_range']
 exact this
theorem tx{R:Rows}{Q:List Int→List (Nat×List El)→Prop}(h0:Q [] []) (hs:∀suf:List Int,suf≠[]→Q (suf.drop (az R suf)) (seg R (suf.drop (az R suf)))→Q suf ((az R suf,(bg R (suf.take (az R suf))).getD [])::seg R (suf.drop (az R suf)))):∀(n:Nat) (t:List Int),t.length≤n→Q t (seg R t)
 |0,t,h=>by
  have:t=[]:=List.length_eq_zero_iff.mp (Nat.le_zero.mp h)
  subst this;exact h0
 |n+1,t,h=>by
  by_cases e:t=[]
  ·subst e;exact h0
  ·have:=ft R e
   rw[a6c R e]
   exact hs t e (tx h0 hs n _ (by rw[List.length_drop];exact al3 h this))
theorem a5s (R:Rows) (t:List Int):a2u (seg R t):=
 tx (Q:=fun _ S=>a2u S) (fun _ h=>nomatch h) (fun suf hn ih p hp=>by
  rcases List.mem_cons.mp hp with rfl|hp
  ·exact(ft R hn).1
  ·exact ih p hp) t.length t (Nat.le_refl _)
noncomputable def jo (S:List (Nat×List El)):Nat:=(S.map Prod.fst).sum
theorem a0v (R:Rows) (t:List Int):jo (seg R t)=t.length:=
 tx (Q:=fun t S=>jo S=t.length) rfl (fun suf hn ih=>by
  have:=ft R hn
  rw[List.length_drop]at ih
  show az R suf+jo _=_
  exact aib ih this) t.length t (Nat.le_refl _)
theorem xe (R:Rows) (t:List Int):(seg R t).length≤t.length:=
 tx (Q:=fun t S=>S.length≤t.length) (Nat.le_refl _) (fun suf hn ih=>by
  have:=ft R hn
  rw[List.length_drop]at ih
  rw[List.length_cons];exact ajy ih this) t.length t (Nat.le_refl _)
theorem a2a:∀(R:Rows)(k:List Int)(es:List El),bg R k=some es→(k,es)∈R
 |[],_,_,h=>nomatch h
 |(k',es')::R,k,es,h=>by
  replace h:(if k'=k then some es' else bg R k)=some es:=h
  split at h
  ·rename_i q;subst q;cases h;exact .head _
  ·exact .tail _ (a2a R k es h)
theorem a6b (s:Ls) (sum two three:Bool) (k:List Int) (es:List El) (h:bg (cf s sum two three) k=some es):es.length≤2:=by
 have m:=a2a _ _ _ h
 have all:∀r∈cf s sum two three,r.2.length≤2:=by
  cases sum<;>cases two<;>cases three<;>(intro r hr;simp[cf]at hr;rcases hr with rfl|rfl|rfl|rfl|rfl|rfl|rfl|rfl|rfl<;>simp)
 exact all _ m
theorem pz (s:Ls) (sum two three:Bool) (t:List Int):∀p∈seg (cf s sum two three) t,p.2.length≤2:=
 tx (Q:=fun _ S=>∀p∈S,p.2.length≤2) (fun _ h=>nomatch h) (fun suf hn ih p hp=>by
  rcases List.mem_cons.mp hp with rfl|hp
  ·show((bg _ _).getD []).length≤2
   cases q:bg (cf s sum two three) (suf.take (az (cf s sum two three) suf))with
   |none=>exact Nat.zero_le _
   |some es=>exact a6b s sum two three _ es q
  ·exact ih p hp) t.length t (Nat.le_refl _)
theorem a8k:∀(S:List (Nat×List El)) (a:Nat),(ik a S).length=S.length
 |[],_=>rfl
 |p::S,a=>congrArg (·+1) (a8k S (a+p.1))
theorem sv:∀(S:List (Nat×List El)),(∀p∈S,p.2.length≤2)→(S.flatMap Prod.snd).length≤2*S.length
 |[],_=>Nat.le_refl _
 |p::S,h=>by
  have:=sv S fun q hq=>h q (.tail _ hq)
  have:=h p (.head _)
  rw[List.flatMap_cons,List.length_append,List.length_cons];grind
theorem qy (es:List El) (s:Nat):(c7 es s).length=s∧∀l∈c7 es s,l.length≤es.length:=by
 constructor
 ·show((List.range s).map _).length=s
  rw[List.length_map,List.length_range]
 ·intro l hl
  refine ar (List.mem_map.mp hl) ?_;intro k _ rf2;subst rf2
  exact Nat.le_trans (List.length_filter_le _ _) (by rw[List.length_map];exact Nat.le_refl _)
theorem a2k (st:Nat):∀(S:List (Nat×List El)) (a:Nat),(kf st a S).length=S.length
 |[],_=>rfl
 |p::S,a=>congrArg (·+1) (a2k st S (a+p.1))
theorem a3h (st:Nat):∀(S:List (Nat×List El)) (a:Nat),(∀p∈S,p.2.length≤2)→∀p∈kf st a S,p.lv.length=st∧∀l∈p.lv,l.length≤2
 |[],_,_,_,h=>nomatch h
 |(m,es)::S,a,h,p,hp=>by
  rcases List.mem_cons.mp hp with rfl|hp
  ·have:=qy es st
   exact⟨this.1,fun l hl=>Nat.le_trans (this.2 l hl) (h (m,es) (.head _))⟩
  ·exact a3h st S (a+m) (fun q hq=>h q (.tail _ hq)) p hp
theorem a1u (st:Nat) (S:List (Nat×List El)) (hl:S.length≤50) (hs:st≤3) (h:∀p∈S,p.2.length≤2):j3 (kf st 0 S):=
 ⟨by rw[a2k];exact hl,fun p hp=>⟨by have:=(a3h st S 0 h p hp).1;exact anb hs this,fun l hl=>Nat.le_trans ((a3h st S 0 h p hp).2 l hl) (by exact Nat.le_add_left _ _)⟩⟩
theorem zc (st:Nat):∀(S:List (Nat×List El)) (a n:Nat),a+jo S≤n→∀p∈kf st a S,p.a≤n∧p.b≤n
 |[],_,_,_,_,h=>nomatch h
 |(m,es)::S,a,n,h,p,hp=>by
  have e:jo ((m,es)::S)=m+jo S:=rfl
  rcases List.mem_cons.mp hp with rfl|hp
  ·exact⟨by show a≤n;exact al9 h,by show a+m≤n;exact am1 h e⟩
  ·exact zc st S (a+m) n (by exact amn h e) p hp
theorem a4r (s:Ls) (sum two three:Bool) (wd:Wd) (ov back:Bool) (st:Nat) (t p:List Int) (h3:st≤3) (h1:1≤t.length) (h6:t.length≤6) (hp:p.length≤2) (ht:∀c∈t,c∈ce) (hps:∀c∈p,c∈ce):
  LΦ.pure (.fn "matches") [al p,al t,TD (fc (cf s sum two three)) (si (qv two three)) a11 a3o,jr (ao wd),.int st,.str "non-ignorable",.bool (ao wd),.bool (qz wd),.bool ov,.bool back]=
   some (.list ((uz (a0l (gg (ik 0 (seg (cf s sum two three) t)) st) (c7 (cp (ik 0 (seg (cf s sum two three) p))) st) (if ao wd then some (o3 (brk t) t.length)else none) (qz wd)) ov back).map prD)):=by
 let R:=cf s sum two three
 have l1:=xe R t
 have l2:=xe R p
 have f1:=sv (seg R t) (pz s sum two three t)
 have f2:=sv (seg R p) (pz s sum two three p)
 have hP:j3 (gg (ik 0 (seg R t)) st):=by rw[nz];exact a1u st _ (by exact ak0 h6 l1) h3 (pz s sum two three t)
 have g1:=zb 8 R (qv two three) a11 a3o (ao wd) t (by exact Nat.le_trans (by assumption) (by decide)) ht (a8i s sum two three t ht) (a1x s sum two three t ht)
 have g2:=zb 7 R (qv two three) a11 a3o (ao wd) p (by exact Nat.le_trans (by assumption) (by decide)) hps (a8i s sum two three p hps) (a1x s sum two three p hps)
 have hE:(cp (ik 0 (seg R t))).length≤1000:=by rw[pq];grind
 have hE2:(cp (ik 0 (seg R p))).length≤1000:=by rw[pq];grind
 have g3:=zk 17 _ _ _ _ _ _ _ hE2 g2
 exact a6s 15 _ _ _ _ _ (al p) t st _ _ (brk t) (ao wd) (qz wd) ov back h3 (by rw[a8k];exact Nat.le_trans l1 (by exact aoa h6)) hE (a9w _ (a5s R t)) hP hE2 h1 (by exact an9 h6) (by cases wd<;>intro h<;>first|rfl|cases h) g1 g3
  (fun hw i a b=>by rw[hw];exact ab4 12 t i a b ht)
theorem ad7 (s:Ls)(sum two three wh:Bool):∃rest,a7h s sum two three wh=.frozen (fc (cf s sum two three))::rest:=by
 cases two<;>cases three<;>exact⟨_,rfl⟩
theorem acm (l:List (Nat×Nat)):D.beq (.list (l.map prD)) (.list (l.map prD))=true:=by
 show D.beqs (l.map prD) (l.map prD)=true
 induction l with
 |nil=>rfl
 |cons p l ih=>
  show(D.beq (prD p) (prD p)&&D.beqs (l.map prD) (l.map prD))=true
  rw[ih,a3n,Bool.and_true]
  exact beq_iff_eq.mpr rfl
theorem law_run (hPl:afq) (l:List Int):law l=some (.bool true):=by
 let S:D:=.list (l.map .int)
 refine aoy l fun k0 s0=>?_
 refine apk S k0 fun s sum two three k1 hs s1=>?_
 refine ex1 (ahl S s sum two three k1.cells k1.x k1.v) fun v2 s2=>?_
 let k2:Dk:=⟨k1.cells,k1.x,v2,k1.ok⟩
 let R:=cf s sum two three
 let m0:=a7h s sum two three false
 refine aph S (some (.m 2)) (some (.m (kAt two three))) (some (.m (kAt two three+4))) (some (.d (gm two three))) k2 m0 fun st wd k3 hst1 hst3 s3=>?_
 refine aoz S (some (.m 2)) (some (.m (kAt two three))) (some (.m (kAt two three+4))) (some (.d (gm two three))) (some (.d (.int (st:Nat)))) (some (.d (.str wd.str))) k3 m0 fun ov back k4 s4=>?_
 have s5:=ap8 S (some (.m 2)) (some (.m (kAt two three))) (some (.m (kAt two three+4))) (some (.d (gm two three))) (some (.d (.int (st:Nat)))) (some (.d (.bool ov))) (some (.d (.bool back))) wd (dk k4 m0)
 refine aox S s sum two three wd k4 (some (.d (gm two three))) (some (.d (.int (st:Nat)))) (some (.d (.bool ov))) (some (.d (.bool back))) (some (.d (dw (dj (ao wd))))) fun k6 s6=>?_
 let m1:=a7h s sum two three (ao wd)
 refine api S (some (.m 2)) (some (.m (kAt two three))) (some (.m (kAt two three+4))) (some (.d (gm two three))) (some (.d (.int (st:Nat)))) (some (.d (.str wd.str))) (some (.d (.bool ov))) (some (.d (.bool back))) (some (.d (dw (dj (ao wd))))) k6 m1 fun t k7 ht1 ht6 hts s7=>?_
 refine apq S (some (.m 2)) (some (.m (kAt two three))) (some (.m (kAt two three+4))) (some (.d (gm two three))) (some (.d (.int (st:Nat)))) (some (.d (.str wd.str))) (some (.d (.bool ov))) (some (.d (.bool back))) (some (.d (dw (dj (ao wd))))) t ht1 ht6 hts k7 m1 fun p lo k8 hp2 hps s8=>?_
 refine ex1 (ad7 s sum two three (ao wd)) ?_;intro rest hm1
 have l1:=xe R t
 have l2:=xe R p
 have f2:=sv (seg R p) (pz s sum two three p)
 have s9:=ap0 S (some (.m (kAt two three))) (some (.m (kAt two three+4))) (some (.d (gm two three))) (some (.d (.str wd.str))) (some (.d (.bool ov))) (some (.d (.bool back))) (some (.d (dw (dj (ao wd))))) lo R t p st hst3 (a8i s sum two three t hts) (a8i s sum two three p hps) (by exact Nat.le_trans (by assumption) (by decide)) (by exact Nat.le_trans (by assumption) (by decide))
  (fun k es h=>Nat.le_trans (a6b s sum two three k es h) (by exact Nat.le_add_left _ _)) (by grind) k8.cells k8.x rest k8.v
 rw[←hm1]at s9
 let P:=kf st 0 (seg R t)
 let w:=c7 ((seg R p).flatMap Prod.snd) st
 have s10:=amj S (some (.m 2)) (some (.m (kAt two three))) (some (.m (kAt two three+4))) (some (.d (gm two three))) (some (.d (.int (st:Nat)))) (some (.d (dw (dj (ao wd))))) (some (.d (al t))) lo (some (.d (al p))) (some (.d (.list (P.map pcD)))) (some (.d (cq w))) wd ov back (dk k8 m1)
 have hm:=a4r s sum two three wd ov back st t p hst3 ht1 ht6 hp2 hts hps
 have pl:=hPl s sum two three wd ov back st t p hs hst1 hst3 ht1 ht6 hp2 hts hps
 rw[pl]at hm
 let A:=a47 P w (dc t (dj (ao wd))) wd ov back
 refine ex1 (anm S s sum two three wd ov back k8.cells k8.x k8.v (some (.d (gm two three))) (some (.d (dw (dj (ao wd))))) lo (some (.d (.list (P.map pcD)))) (some (.d (cq w))) (some (.d (zj wd ov back))) st t p A hm) ?_;intro σ11 s11
 have hSm:j3 P:=a1u st _ (by show(seg R t).length≤50;exact ak0 ht6 l1) hst3 (pz s sum two three t)
 have hA:A.length≤10000:=by
  show(a47 P w (dc t (dj (ao wd))) wd ov back).length≤_
  unfold a47
  dsimp only
  have sl:=a0x P w (dc t (dj (ao wd))) wd hSm.1
  have rl:(if back=true then(lk P w (dc t (dj (ao wd))) wd).reverse else lk P w (dc t (dj (ao wd))) wd).length≤2500:=by
   cases back
   ·exact sl
   ·rw[if_pos rfl,List.length_reverse];exact sl
  rw[List.length_map]
  cases ov
  ·exact Nat.le_trans (a1k _) (Nat.le_trans rl (by exact anu))
  ·exact Nat.le_trans rl (by exact anu)
 have hwl:w.length≤1000:=by rw[(qy _ st).1];exact al8 hst3
 have s12:=aiw S (some (.m 1)) (some (.m 2)) (some (.m (kAt two three))) (some (.m (kAt two three+4))) (some (.d (gm two three))) (some (.d (.int (st:Nat)))) (some (.d (.str wd.str))) (some (.d (.bool ov))) (some (.d (.bool back))) lo (some (.d (al p))) (some (.d (.str "non-ignorable"))) t (dj (ao wd)) P w wd ov back A hA hSm (zc st _ 0 t.length (by rw[a0v];grind)) hwl σ11
 rw[acm]at s12
 have hb:LF.body=[nth LF.body 0,nth LF.body 1,nth LF.body 2,nth LF.body 3,nth LF.body 4,nth LF.body 5,nth LF.body 6,nth LF.body 7,nth LF.body 8,nth LF.body 9,nth LF.body 10,nth LF.body 11,nth LF.body 12]:=by kernel_rfl
 have run:=b9 (f:=evS LΦ LF.muts LF.scope 20) s0 (b9 s1 (b9 s2 (b9 s3 (b9 s4 (b9 s5 (b9 s6 (b9 s7 (b9 s8 (b9 s9 (b9 s10 (b9 s11 (a2p (r:=[]) s12))))))))))))
 rw[←hb]at run
 have hs0:(vx LF.params ([D.list (l.map .int)].map .d) LF.dflts).map (gp LF.scope)=some (d6 (.list (l.map .int)) none none none none none none none none none none none none none none none none none none):=by kernel_rfl
 refine de hs0 ?_;clear hs0;intro b b1 b2
 exact run_pure b1 b2 run rfl
noncomputable def l5 (S:List (Nat×List El))(i:Nat):Nat:=jo (S.take i)
theorem acr (st:Nat):∀(S:List (Nat×List El)) (a i:Nat),i<S.length→((kf st a S)[i]?).map (fun p=>(p.a,p.b))=some (a+l5 S i,a+l5 S (i+1))
 |[],_,_,h=>nomatch h
 |(m,es)::S,a,0,h=>by
  show some (a,a+m)=some (a+0,a+(m+jo (S.take 0)))
  rfl
 |(m,es)::S,a,i+1,h=>by
  have:=acr st S (a+m) i (Nat.lt_of_succ_lt_succ h)
  show((kf st (a+m) S)[i]?).map _=_
  rw[this]
  show some (a+m+l5 S i,a+m+l5 S (i+1))=some (a+(m+jo (S.take i)),a+(m+jo (S.take (i+1))))
  rw[Nat.add_assoc,Nat.add_assoc];rfl
theorem aee (st:Nat) (S:List (Nat×List El)) (i:Nat) (h:i<S.length):bh (kf st 0 S) i=l5 S i∧c8 (kf st 0 S) i=l5 S (i+1):=by
 have:=acr st S 0 i h
 refine de this ?_;clear this;intro p hp e
 unfold bh c8
 rw[hp]
 rw[Nat.zero_add,Nat.zero_add]at e
 exact⟨congrArg Prod.fst e,congrArg Prod.snd e⟩
theorem abv (S:List (Nat×List El))(h:a2u S):∀i,i<S.length→l5 S i<l5 S (i+1):=by
 intro i hi
 unfold l5 jo
 rw[List.take_succ,List.getElem?_eq_getElem hi]
 show _<((S.take i++[S[i]]).map Prod.fst).sum
 rw[List.map_append,List.sum_append]
 have:=h S[i] (List.getElem_mem hi)
 show _<_+(S[i].1+0)
 grind
theorem ahi (S:List (Nat×List El)) (h:a2u S) (i j:Nat) (hij:i<j) (hj:j≤S.length):l5 S i<l5 S j:=by
 induction j with
 |zero=>grind
 |succ j ih=>
  have:=abv S h j (by assumption)
  by_cases q:i=j
  ·subst q;exact this
  ·exact Nat.lt_trans (ih (by exact ajt hij q) (by exact Nat.le_of_lt (by assumption))) this
noncomputable def me:Lv→Lv→Bool
 |a::A,b::w=>cx a b&&me A w
 |_,_=>true
theorem a8u:∀(A w pre:Lv),A.length=w.length→((A.zipIdx pre.length).all fun p=>cx p.1 (((pre++w)[p.2]?).getD []))=me A w
 |[],[],_,_=>rfl
 |[],_::_,_,h=>nomatch h
 |_::_,[],_,h=>nomatch h
 |a::A,b::w,pre,h=>by
  have ih:=a8u A w (pre++[b]) (Nat.succ.inj h)
  rw[List.length_append,List.append_assoc]at ih
  rw[List.zipIdx_cons,List.all_cons]
  show(cx a (((pre++b::w)[pre.length]?).getD [])&&_)=(cx a b&&me A w)
  rw[List.getElem?_append_right (Nat.le_refl _),Nat.sub_self]
  exact congrArg (cx a b&&·) ih
theorem a6z{a x b:List Int}(h:cx (a++x) b=true):cx a b=true:=by
 unfold cx at h ⊢
 have h:=of_decide_eq_true h
 refine decide_eq_true ?_
 have:=congrArg (List.take a.length) h
 rw[List.take_take,List.take_left',Nat.min_eq_left (by rw[List.length_append];grind)]at this
 ·exact this
 ·rfl
theorem tg(A w:Lv)(h:A.length=w.length):dq A w=me A w:=a8u A w [] h
theorem a20:∀(A L w:Lv),A.length=w.length→L.length=w.length→me (bf A L) w=true→me A w=true
 |[],_,_,_,_,_=>by cases ‹Lv›<;>rfl
 |_::_,[],[],h,_,_=>nomatch h
 |_::_,[],_::_,_,h,_=>nomatch h
 |_::_,_::_,[],h,_,_=>nomatch h
 |a::A,l::L,b::w,h1,h2,h=>by
  replace h:(cx (a++l) b&&me (bf A L) w)=true:=h
  rw[Bool.and_eq_true]at h
  show(cx a b&&me A w)=true
  rw[Bool.and_eq_true]
  exact⟨a6z h.1,a20 A L w (Nat.succ.inj h1) (Nat.succ.inj h2) h.2⟩
theorem a43 (b:List Int):cx b b=true:=decide_eq_true (List.take_length)
theorem vk:∀w:Lv,me w w=true
 |[]=>rfl
 |b::w=>by show(cx b b&&me w w)=true;rw[a43,vk w];rfl
theorem a0e{b x:List Int}(h:cx (b++x) b=true):x=[]:=by
 have h:=of_decide_eq_true h
 have:=congrArg List.length h
 rw[List.length_take,List.length_append]at this
 exact List.length_eq_zero_iff.mp (by grind)
theorem a1v:∀(w L:Lv),L.length=w.length→me (bf w L) w=true→cw L=true
 |[],[],_,_=>rfl
 |[],_::_,h,_=>nomatch h
 |_::_,[],h,_=>nomatch h
 |b::w,l::L,h,q=>by
  replace q:(cx (b++l) b&&me (bf w L) w)=true:=q
  rw[Bool.and_eq_true]at q
  have e:=a0e q.1
  subst e
  show(List.isEmpty (α:=Int) []&&L.all (·.isEmpty))=true
  exact a1v w L (Nat.succ.inj h) q.2
theorem vb:∀(A L:Lv),L.length=A.length→cw L=true→bf A L=A
 |[],[],_,_=>rfl
 |[],_::_,h,_=>nomatch h
 |_::_,[],h,_=>nomatch h
 |a::A,l::L,h,q=>by
  replace q:(l.isEmpty&&L.all (·.isEmpty))=true:=q
  rw[Bool.and_eq_true]at q
  have e:=List.isEmpty_iff.mp q.1
  subst e
  show(a++[])::bf A L=a::A
  rw[List.append_nil,vb A L (Nat.succ.inj h) q.2]
theorem a1o:∀(w L:Lv),L.length=w.length→bf (bare w) L=L
 |[],[],_=>rfl
 |[],_::_,h=>nomatch h
 |_::_,[],h=>nomatch h
 |b::w,l::L,h=>congrArg (l::·) (a1o w L (Nat.succ.inj h))
noncomputable def ff(P:List Pc)(j:Nat):Lv:=((P[j]?).getD ⟨0,0,[]⟩).lv
theorem yc{P:List Pc}{w:Lv}(hlv:∀p∈P,p.lv.length=w.length){j:Nat}(h:j<P.length):(ff P j).length=w.length:=by
 unfold ff
 rw[List.getElem?_eq_getElem h]
 exact hlv _ (List.getElem_mem h)
theorem a18(A B:Lv)(h:B.length=A.length):(bf A B).length=A.length:=by
 unfold bf
 rw[List.length_map,List.length_zip,h,Nat.min_self]
theorem a4m (P:List Pc) (w:Lv) (low:Nat) (A:Lv) (acc:List (Nat×Nat)) (i:Nat) (hi:1≤i):da P w low (A,acc) i=(bf A (ff P (low+i)),if bf A (ff P (low+i))=w∧ax P low=false∧cw (ff P (low+i))=false then acc++[(low,low+i+1)]else acc):=by
 unfold da
 dsimp only
 rw[if_pos (show 0<i from hi)];rfl
theorem tj (P:List Pc) (w:Lv) (low:Nat) (hlv:∀p∈P,p.lv.length=w.length):∀(k i:Nat) (A:Lv) (acc:List (Nat×Nat)),1≤i→low+i+k≤P.length→A.length=w.length→(A=w∨me A w=false)→((List.range' i k).foldl (da P w low) (A,acc)).2=acc
 |0,_,_,_,_,_,_,_=>rfl
 |k+1,i,A,acc,hi,hn,hA,hd=>by
  have hL:=yc hlv (show low+i<P.length by exact aon hn)
  have jl:=(a18 A (ff P (low+i)) (hL.trans hA.symm)).trans hA
  have key:(bf A (ff P (low+i))=w→cw (ff P (low+i))=true)∧(bf A (ff P (low+i))=w∨me (bf A (ff P (low+i))) w=false):=by
   rcases hd with rfl|hd
   ·have jd:=a1v A (ff P (low+i)) hL
    refine⟨fun e=>jd ?_,?_⟩
    ·rw[e];exact vk A
    ·cases q:me (bf A (ff P (low+i))) A with
     |false=>exact .inr rfl
     |true=>exact .inl (vb A _ hL (jd q))
   ·have nb:me (bf A (ff P (low+i))) w=false:=by
     cases q:me (bf A (ff P (low+i))) w with
     |false=>rfl
     |true=>rw[a20 A _ w hA hL q]at hd;exact hd
    refine⟨fun e=>?_,.inr nb⟩
    rw[e,vk]at nb;cases nb
  rw[List.range'_succ,List.foldl_cons,a4m P w low A acc i hi,if_neg (fun h=>by rw[key.1 h.1]at h;cases h.2.2)]
  exact tj P w low hlv k (i+1) _ acc (by exact Nat.succ_pos _) (by exact aeg hn) jl key.2
theorem a8g (P:List Pc) (w:Lv) (low:Nat) (hlv:∀p∈P,p.lv.length=w.length) (hq:ax P low=false):∀(k i:Nat) (A:Lv) (acc:List (Nat×Nat)),1≤i→low+i+k≤P.length→A.length=w.length→A≠w→((List.range' i k).foldl (da P w low) (A,acc)).2=acc++(wn P w low (List.range' i k) A).toList
 |0,_,_,acc,_,_,_,_=>(List.append_nil acc).symm
 |k+1,i,A,acc,hi,hn,hA,hne=>by
  have hL:=yc hlv (show low+i<P.length by exact aon hn)
  have jl:=(a18 A (ff P (low+i)) (hL.trans hA.symm)).trans hA
  rw[List.range'_succ,List.foldl_cons,a4m P w low A acc i hi]
  have hr:wn P w low (i::List.range' (i+1) k) A=if bf A (ff P (low+i))=w then some (low,low+i+1)else if dq (bf A (ff P (low+i))) w then wn P w low (List.range' (i+1) k) (bf A (ff P (low+i)))else none:=rfl
  rw[hr]
  by_cases e:bf A (ff P (low+i))=w
  ·have ni:cw (ff P (low+i))=false:=by
    cases q:cw (ff P (low+i))with
    |false=>rfl
    |true=>rw[vb A _ (hL.trans hA.symm) q]at e;exact absurd e hne
   rw[if_pos ⟨e,hq,ni⟩,if_pos e]
   exact tj P w low hlv k (i+1) _ _ (by exact Nat.succ_pos _) (by exact aeg hn) jl (.inl e)
  ·rw[if_neg (fun h=>e h.1),if_neg e,tg _ _ jl]
   cases q:me (bf A (ff P (low+i))) w with
   |true=>exact a8g P w low hlv hq k (i+1) _ acc (by exact Nat.succ_pos _) (by exact aeg hn) jl e
   |false=>exact(tj P w low hlv k (i+1) _ acc (by exact Nat.succ_pos _) (by exact aeg hn) jl (.inr q)).trans (List.append_nil acc).symm
theorem agn (P:List Pc) (w:Lv) (low:Nat) (hlv:∀p∈P,p.lv.length=w.length) (hl:low<P.length) (acc:List (Nat×Nat)):l8 P w acc low=acc++(cj P w low).toList:=by
 unfold l8 cj
 cases hq:ax P low with
 |true=>
  rw[if_pos rfl]
  refine Eq.trans ?_ (List.append_nil acc).symm
  refine lh (fun a:Lv×List (Nat×Nat)=>a.2=acc) _ _ _ rfl fun i _ a ha=>?_
  unfold da
  dsimp only
  rw[if_neg]
  ·exact ha
  ·intro h
   have h1:ax P low=false:=h.2.1
   rw[hq]at h1;cases h1
 |false=>
  rw[if_neg Bool.false_ne_true]
  obtain⟨k,hk⟩:∃k,P.length-low=k+1:=⟨P.length-low-1,by grind⟩
  rw[hk,List.range_eq_range',List.range'_succ,List.foldl_cons]
  have hL:=yc hlv hl
  have h0:da P w low (ff P low,acc) 0=(ff P low,if ff P low=w∧ax P low=false∧ax P low=false then acc++[(low,low+0+1)]else acc):=rfl
  have hj:bf (bare w) (ff P (low+0))=ff P low:=a1o w _ hL
  have hr:wn P w low (0::List.range' (0+1) k) (bare w)=if bf (bare w) (ff P (low+0))=w then some (low,low+0+1)else if dq (bf (bare w) (ff P (low+0))) w then wn P w low (List.range' (0+1) k) (bf (bare w) (ff P (low+0)))else none:=rfl
  show((List.range' (0+1) k).foldl (da P w low) (da P w low (ff P low,acc) 0)).2=_
  rw[h0,hr,hj]
  by_cases e:ff P low=w
  ·rw[if_pos ⟨e,hq,hq⟩,if_pos e]
   exact tj P w low hlv k _ _ _ (by exact Nat.le_refl _) (by exact ahg hk) hL (.inl e)
  ·rw[if_neg (fun h=>e h.1),if_neg e,tg _ _ hL]
   cases q:me (ff P low) w with
   |true=>exact a8g P w low hlv hq k _ _ acc (by exact Nat.le_refl _) (by exact ahg hk) hL e
   |false=>exact(tj P w low hlv k _ _ acc (by exact Nat.le_refl _) (by exact ahg hk) hL (.inr q)).trans (List.append_nil acc).symm
theorem a9b{α β:Type}(f:α→Option β)(g:List β→α→List β):∀(l:List α)(acc:List β),(∀x∈l,∀acc,g acc x=acc++(f x).toList)→l.foldl g acc=acc++l.filterMap f
 |[],acc,_=>(List.append_nil acc).symm
 |x::l,acc,h=>by
  rw[List.foldl_cons,h x (.head _),a9b f g l _ fun y hy=>h y (.tail _ hy),List.append_assoc,List.filterMap_cons]
  cases f x<;>rfl
theorem a70 (P:List Pc) (w:Lv) (hlv:∀p∈P,p.lv.length=w.length):r6 P w=(List.range P.length).filterMap (cj P w):=
 (a9b (cj P w) (l8 P w) _ [] fun x hx acc=>agn P w x hlv (List.mem_range.mp hx) acc).trans (List.nil_append _)
noncomputable def chF (P:List Pc)(w:Lv)(eo:Option (List Nat))(wide:Bool)(x:Nat):Option (Nat×Nat):=(cj P w x).bind (gy P eo wide)
theorem a2t{P:List Pc}{w:Lv}{x:Nat}{p:Nat×Nat}(h:cj P w x=some p):ax P x=false:=by
 unfold cj at h
 cases q:ax P x with
 |false=>rfl
 |true=>rw[q,if_pos rfl]at h;cases h
theorem a6a{P:List Pc}{x:Nat}(hx:ax P x=false):∀y,x<y→x<co P y
 |0,h=>absurd h (Nat.not_lt_zero _)
 |l+1,h=>by
  unfold co
  split
  ·rename_i q
   have:x≠l:=fun e=>by rw[e,q]at hx;cases hx
   exact a6a hx l (by exact am6 h this)
  ·exact h
theorem a4a{P:List Pc}{E:Nat→Bool}{x:Nat}(hx:ax P x=false):∀y z,x<y→iy P E y=some z→x<z
 |0,_,h,_=>absurd h (Nat.not_lt_zero _)
 |l+1,z,h,e=>by
  unfold iy at e
  split at e
  ·cases e;exact h
  ·split at e
   ·rename_i q
    have:x≠l:=fun e=>by rw[e,q]at hx;cases hx
    exact a4a hx l z (by exact am6 h this) e
   ·cases e
theorem a9n{P:List Pc}{eo:Option (List Nat)}{wide:Bool}{p q:Nat×Nat}(h:gy P eo wide p=some q):q.1≤p.1∧p.2≤q.2∧∀x,ax P x=false→x<p.1→x<q.1:=by
 unfold gy at h
 split at h
 ·cases h
  exact⟨sp P p.1,(a2s P _ p.2).1,fun x hx hl=>a6a hx _ hl⟩
 ·split at h
  ·cases h;exact⟨Nat.le_refl _,Nat.le_refl _,fun x _ hl=>hl⟩
  ·unfold m7 at h
   split at h
   ·cases h
   ·rename_i l' e1
    split at h
    ·cases h
    ·rename_i h' e2
     cases h
     exact⟨yk P _ _ _ e1,(a7v P _ _ _ _ e2).1,fun x hx hl=>a4a hx _ _ hl e1⟩
theorem a7b{P:List Pc}{w:Lv}{eo:Option (List Nat)}{wide:Bool}{x:Nat}{q:Nat×Nat}(hx:x<P.length) (h:chF P w eo wide x=some q):q.1≤x∧ax P x=false∧q.1<q.2∧q.2≤P.length∧∀y,ax P y=false→y<x→y<q.1:=by
 refine bj h ?_;clear h;intro p e1 e2
 refine f5 (oe P w x p e1) ?_;intro l1 l2 l3
 refine f5 (a9n e2) ?_;intro c1 c2 c3
 have lq:=yq P eo wide p q ⟨by exact aje hx l1,by exact Nat.zero_lt_of_lt (by assumption),l3⟩ e2
 rw[l1]at c1 c3
 exact⟨c1,a2t e1,by exact akg l2 c1 c2,lq.2.2,c3⟩
theorem ai2 (P:List Pc) (w:Lv) (eo:Option (List Nat)) (wide:Bool):(List.range P.length).Pairwise (fun x y=>∀p,chF P w eo wide x=some p→∀q,chF P w eo wide y=some q→p.1<q.1):=by
 refine List.Pairwise.imp_of_mem (fun hx hy hxy p e1 q e2=>?_) (List.pairwise_lt_range)
 refine f5 (a7b (List.mem_range.mp hx) e1) ?_;intro a1 a2 _
 obtain⟨_,_,_,_,b⟩:=a7b (List.mem_range.mp hy) e2
 exact Nat.lt_of_le_of_lt a1 (b _ a2 hxy)
noncomputable def chL (P:List Pc)(w:Lv)(eo:Option (List Nat))(wide:Bool):List (Nat×Nat):=(List.range P.length).filterMap (chF P w eo wide)
theorem a3d (P:List Pc)(w:Lv)(eo:Option (List Nat))(wide:Bool):(chL P w eo wide).Pairwise (fun p q=>p.1<q.1):=
 List.pairwise_filterMap.mpr (ai2 P w eo wide)
theorem a8o (P:List Pc) (w:Lv) (eo:Option (List Nat)) (wide:Bool):∀p∈chL P w eo wide,p.1<p.2∧p.2≤P.length:=by
 intro p hp
 refine ar (List.mem_filterMap.mp hp) ?_;intro x hx e
 have:=a7b (List.mem_range.mp hx) e
 exact⟨this.2.2.1,this.2.2.2.1⟩
theorem a3i (P:List Pc) (f:Nat→Option (Nat×Nat)):∀(l:List Nat) (acc:List (Nat×Nat)),(∀q,acc.getLast?=some q→∀p∈l.filterMap f,q.1<bh P p.1)→(l.filterMap f).Pairwise (fun p q=>bh P p.1<bh P q.1)→
  l.foldl (fun acc x=>match f x with|none=>acc|some p=>n5 acc (kg P p)) acc=acc++(l.filterMap f).map (aa P)
 |[],acc,_,_=>(List.append_nil acc).symm
 |x::l,acc,h1,h2=>by
  rw[List.foldl_cons]
  rw[List.filterMap_cons]at h1 h2 ⊢
  cases e:f x with
  |none=>
   rw[e]at h1 h2
   exact a3i P f l acc h1 h2
  |some p=>
   rw[e]at h1 h2
   replace h2:=List.pairwise_cons.mp h2
   have ht:n5 acc (kg P p)=acc++[aa P p]:=by
    unfold n5
    rw[if_neg]
    ·rfl
    ·intro hq
     exact Nat.lt_irrefl _ (h1 _ hq p (.head _))
   show l.foldl _ (n5 acc (kg P p))=acc++(p::l.filterMap f).map (aa P)
   rw[ht,a3i P f l _ (fun q hq p' hp'=>by
    rw[List.getLast?_append]at hq
    cases hq
    exact h2.1 p' hp') h2.2,List.append_assoc]
   rfl
theorem ahs (P:List Pc) (w:Lv) (eo:Option (List Nat)) (wide:Bool) (hasc:∀i j,i<j→j<P.length→bh P i<bh P j):a0l P w eo wide=if cw w then[]else(chL P w eo wide).map (aa P):=by
 unfold a0l
 cases cw w with
 |true=>rfl
 |false=>
  show(List.range P.length).foldl (a2h P w eo wide) []=(chL P w eo wide).map (aa P)
  have e:(List.range P.length).foldl (a2h P w eo wide) []=(List.range P.length).foldl (fun acc x=>match chF P w eo wide x with|none=>acc|some p=>n5 acc (kg P p)) []:=rfl
  rw[e,a3i P (chF P w eo wide) _ [] (fun q hq=>nomatch hq)]
  ·rfl
  ·refine List.Pairwise.imp_of_mem (fun{p q}hp hq h=>?_) (a3d P w eo wide)
   have:=a8o P w eo wide q hq
   exact hasc _ _ h (Nat.lt_of_lt_of_le this.1 this.2)
theorem aal (l:List (Nat×Nat)) (h:l.Pairwise (fun p q=>p.1<q.1)):mw l=l:=by
 unfold mw
 rw[List.filter_eq_self.mpr,List.zipIdx_map_fst]
 intro x hx
 have hg:=List.mem_zipIdx_iff_getElem?.mp hx
 refine ex1 (List.getElem?_eq_some_iff.mp hg) ?_;intro hi e
 cases q:(l.take x.2).contains x.1 with
 |false=>rfl
 |true=>
  refine a2b (List.getElem_of_mem (List.contains_iff_mem.mp q)) ?_;intro j hj ej
  rw[List.length_take]at hj
  rw[List.getElem_take]at ej
  have:=List.pairwise_iff_getElem.mp h j x.2 (by grind) hi (by exact aiu hj)
  rw[ej,e]at this
  exact absurd this (Nat.lt_irrefl _)
theorem a3z (P:List Pc) (E K:Nat→Bool) (hK:∀i,i<P.length→K (bh P i)=E (bh P i)):∀l,l<P.length→iy P K l=if E (bh P (ko P E l))=true then some (ko P E l)else none
 |0,h=>by unfold iy ko;rw[hK 0 h]
 |l+1,h=>by
  unfold iy ko
  rw[hK (l+1) h]
  cases q:E (bh P (l+1))with
  |true=>
   show some (l+1)=if E (bh P (l+1))=true then some (l+1)else none
   rw[q];rfl
  |false=>cases q2:ax P l with
   |true=>exact a3z P E K hK l (by exact Nat.le_of_lt (by assumption))
   |false=>
    show none=if E (bh P (l+1))=true then _ else none
    rw[q];rfl
theorem acs (P:List Pc) (E K:Nat→Bool) (hK:∀i,i<P.length→K (c8 P i)=E (c8 P i)) (hc:∀h,1≤h→h<P.length→bh P h=c8 P (h-1)):∀k h,1≤h→h+k=P.length→upS P K k h=if E (c8 P (upW P E k h-1))=true then some (upW P E k h)else none
 |0,h,h1,e=>by unfold upS upW;rw[hK (h-1) (by exact ail h1 e)]
 |k+1,h,h1,e=>by
  unfold upS upW
  rw[hK (h-1) (by exact ajf e),hc h h1 (by exact om1 e)]
  cases q:E (c8 P (h-1))with
  |true=>
   show some h=if E (c8 P (h-1))=true then some h else none
   rw[q];rfl
  |false=>cases q2:ax P h with
   |true=>exact acs P E K hK hc k (h+1) (by exact Nat.succ_pos _) (by grind)
   |false=>
    show none=if E (c8 P (h-1))=true then _ else none
    rw[q];rfl
theorem aby (P:List Pc) (E K:Nat→Bool) (h1:∀i,i<P.length→K (bh P i)=E (bh P i)) (h2:∀i,i<P.length→K (c8 P i)=E (c8 P i)) (hc:∀h,1≤h→h<P.length→bh P h=c8 P (h-1)) (low high:Nat) (hl:low<P.length) (hh:1≤high) (hn:high≤P.length):m7 P K low high=on P E low high:=by
 unfold m7 on
 rw[a3z P E K h1 low hl,acs P E K h2 hc (P.length-high) high hh (by grind)]
 dsimp only
 cases E (bh P (ko P E low))<;>cases E (c8 P (upW P E (P.length-high) high-1))<;>rfl
theorem td{α β:Type}{f g:α→Option β}:∀(l:List α),(∀x∈l,f x=g x)→l.filterMap f=l.filterMap g
 |[],_=>rfl
 |x::l,h=>by rw[List.filterMap_cons,List.filterMap_cons,h x (.head _),td l fun y hy=>h y (.tail _ hy)]
theorem aeb (P:List Pc) (w:Lv) (E:Nat→Bool) (wd:Wd) (ks:List Nat) (hlv:∀p∈P,p.lv.length=w.length) (h1:ao wd=true→∀i,i<P.length→ks.contains (bh P i)=E (bh P i)) (h2:ao wd=true→∀i,i<P.length→ks.contains (c8 P i)=E (c8 P i)) (hc:∀h,1≤h→h<P.length→bh P h=c8 P (h-1)):
  lk P w E wd=if cw w then[]else chL P w (if ao wd then some ks else none) (qz wd):=by
 cases q:cw w with
 |true=>cases wd<;>(unfold lk;rw[q];rfl)
 |false=>
  rw[if_neg Bool.false_ne_true]
  cases wd with
  |least=>
   unfold lk
   rw[q,if_neg Bool.false_ne_true,a70 P w hlv]
   unfold chL
   refine td _ fun x _=>?_
   unfold chF
   cases cj P w x<;>rfl
  |wide=>
   unfold lk
   rw[q,if_neg Bool.false_ne_true,a70 P w hlv,List.map_filterMap]
   unfold chL
   refine td _ fun x _=>?_
   unfold chF
   cases cj P w x<;>rfl
  |whole=>
   unfold lk
   rw[q,if_neg Bool.false_ne_true,a70 P w hlv,List.filterMap_filterMap]
   have e:(List.range P.length).filterMap (fun x=>(cj P w x).bind fun p=>on P E p.1 p.2)=chL P w (some ks) false:=by
    unfold chL
    refine td _ fun x hx=>?_
    unfold chF
    cases e1:cj P w x with
    |none=>rfl
    |some p=>
     refine f5 (oe P w x p e1) ?_;intro l1 l2 l3
     have:=List.mem_range.mp hx
     exact(aby P E ks.contains (h1 rfl) (h2 rfl) hc p.1 p.2 (by exact an6 l1 this) (by exact Nat.zero_lt_of_lt (by assumption)) l3).symm
   rw[e]
   exact aal _ (a3d P w _ _)
theorem a54{α:Type}(acc:List α)(x:α):(acc++[x]).getLast?=some x:=by rw[List.getLast?_append];rfl
theorem afy (P:List Pc) (B:Nat→Nat) (n:Nat) (hB:∀i j,i<j→j≤n→B i<B j) (hP:∀p:Nat×Nat,p.1<p.2→p.2≤n→aa P p=(B p.1,B p.2)):∀(l acc:List (Nat×Nat)) (r:Nat),
  (∀p∈l,p.1<p.2∧p.2≤n)→l.Pairwise (fun p q=>p.1<q.1)→(match acc.getLast? with|none=>r=0|some q=>r=B q.2∧q.2≤n∧∀p∈l,q.1<p.1)→
  ((l.map (aa P)).foldl apF (acc.map (aa P),r)).1=(l.foldl d8 acc).map (aa P)
 |[],acc,r,_,_,_=>rfl
 |p::l,acc,r,hl,ha,hr=>by
  have hp:=hl p (.head _)
  have ha:=List.pairwise_cons.mp ha
  have go:=afy P B n hB hP l
  have hl':=fun q hq=>hl q (.tail _ hq)
  have take:((l.map (aa P)).foldl apF (acc.map (aa P)++[aa P p],(aa P p).2)).1=(l.foldl d8 (acc++[p])).map (aa P):=by
   have:=go (acc++[p]) (aa P p).2 hl' ha.2 (by rw[a54];exact⟨by rw[hP p hp.1 hp.2],hp.2,ha.1⟩)
   rw[List.map_append]at this
   exact this
  rw[List.map_cons,List.foldl_cons,List.foldl_cons]
  cases e:acc.getLast? with
  |none=>
   rw[e]at hr
   have h1:apF (acc.map (aa P),r) (aa P p)=(acc.map (aa P)++[aa P p],(aa P p).2):=if_pos (by show r≤_;rw[show r=0 from hr];exact Nat.zero_le _)
   have h2:d8 acc p=acc++[p]:=by unfold d8;rw[e]
   rw[h1,h2];exact take
  |some q=>
   rw[e]at hr
   refine f5 hr ?_;clear hr;intro r1 r2 r3
   have hq:=r3 p (.head _)
   have hc:(r≤(aa P p).1) ↔ q.2≤p.1:=by
    rw[hP p hp.1 hp.2,r1]
    show B q.2≤B p.1 ↔ _
    constructor
    ·intro h
     rcases Nat.lt_or_ge p.1 q.2 with g|g
     ·exact absurd (hB _ _ g r2) (Nat.not_lt_of_le h)
     ·exact g
    ·intro h
     rcases Nat.eq_or_lt_of_le h with g|g
     ·rw[g];exact Nat.le_refl _
     ·exact Nat.le_of_lt (hB _ _ g (by exact aor hp))
   have h2:d8 acc p=if q.2≤p.1 then acc++[p]else acc:=by
    unfold d8;rw[e]
    show(if(decide (q.2≤p.1)||decide (p.2≤q.1))=true then _ else _)=_
    rw[decide_eq_false (show¬p.2≤q.1 by exact anw hp hq),Bool.or_false]
    by_cases g:q.2≤p.1
    ·rw[if_pos g,if_pos (decide_eq_true g)]
    ·rw[if_neg g,if_neg (by rw[decide_eq_false g];exact Bool.false_ne_true)]
   rw[h2]
   by_cases g:q.2≤p.1
   ·rw[if_pos g,show apF (acc.map (aa P),r) (aa P p)=(acc.map (aa P)++[aa P p],(aa P p).2)from if_pos (hc.mpr g)]
    exact take
   ·rw[if_neg g,show apF (acc.map (aa P),r) (aa P p)=(acc.map (aa P),r)from if_neg (fun h=>g (hc.mp h))]
    exact go acc r hl' ha.2 (by rw[e];exact⟨r1,r2,fun x hx=>r3 x (.tail _ hx)⟩)
theorem a96 (P:List Pc) (B:Nat→Nat) (n:Nat) (hB:∀i j,i<j→j≤n→B i<B j) (hP:∀p:Nat×Nat,p.1<p.2→p.2≤n→aa P p=(B p.1,B p.2)):∀(l acc:List (Nat×Nat)) (r:Option Nat),
  (∀p∈l,p.1<p.2∧p.2≤n)→l.Pairwise (fun p q=>q.1<p.1)→(match acc.getLast? with|none=>r=none|some q=>r=some (B q.1)∧q.1<q.2∧q.2≤n∧∀p∈l,p.1<q.1)→
  ((l.map (aa P)).foldl t5 (acc.map (aa P),r)).1=(l.foldl d8 acc).map (aa P)
 |[],acc,r,_,_,_=>rfl
 |p::l,acc,r,hl,ha,hr=>by
  have hp:=hl p (.head _)
  have ha:=List.pairwise_cons.mp ha
  have go:=a96 P B n hB hP l
  have hl':=fun q hq=>hl q (.tail _ hq)
  have take:((l.map (aa P)).foldl t5 (acc.map (aa P)++[aa P p],some (aa P p).1)).1=(l.foldl d8 (acc++[p])).map (aa P):=by
   have:=go (acc++[p]) (some (aa P p).1) hl' ha.2 (by rw[a54];exact⟨by rw[hP p hp.1 hp.2],hp.1,hp.2,ha.1⟩)
   rw[List.map_append]at this
   exact this
  rw[List.map_cons,List.foldl_cons,List.foldl_cons]
  cases e:acc.getLast? with
  |none=>
   rw[e]at hr
   have h1:t5 (acc.map (aa P),r) (aa P p)=(acc.map (aa P)++[aa P p],some (aa P p).1):=by rw[show r=none from hr];rfl
   have h2:d8 acc p=acc++[p]:=by unfold d8;rw[e]
   rw[h1,h2];exact take
  |some q=>
   rw[e]at hr
   refine ahv hr ?_;clear hr;intro r1 r0 r2 r3
   have hq:=r3 p (.head _)
   have hc:((aa P p).2≤B q.1) ↔ p.2≤q.1:=by
    rw[hP p hp.1 hp.2]
    show B p.2≤B q.1 ↔ _
    constructor
    ·intro h
     rcases Nat.lt_or_ge q.1 p.2 with g|g
     ·exact absurd (hB _ _ g hp.2) (Nat.not_lt_of_le h)
     ·exact g
    ·intro h
     rcases Nat.eq_or_lt_of_le h with g|g
     ·rw[g];exact Nat.le_refl _
     ·exact Nat.le_of_lt (hB _ _ g (by exact als r0 r2))
   have h2:d8 acc p=if p.2≤q.1 then acc++[p]else acc:=by
    unfold d8;rw[e]
    show(if(decide (q.2≤p.1)||decide (p.2≤q.1))=true then _ else _)=_
    rw[decide_eq_false (show¬q.2≤p.1 by exact aih r0 hq),Bool.false_or]
    by_cases g:p.2≤q.1
    ·rw[if_pos g,if_pos (decide_eq_true g)]
    ·rw[if_neg g,if_neg (by rw[decide_eq_false g];exact Bool.false_ne_true)]
   have h1:t5 (acc.map (aa P),r) (aa P p)=if(aa P p).2≤B q.1 then(acc.map (aa P)++[aa P p],some (aa P p).1)else(acc.map (aa P),r):=by rw[r1];rfl
   rw[h2,h1]
   by_cases g:p.2≤q.1
   ·rw[if_pos g,if_pos (hc.mpr g)]
    exact take
   ·rw[if_neg g,if_neg (fun h=>g (hc.mp h))]
    exact go acc r hl' ha.2 (by rw[e];exact⟨r1,r0,r2,fun x hx=>r3 x (.tail _ hx)⟩)
theorem ab8 (P:List Pc) (B:Nat→Nat) (n:Nat) (hB:∀i j,i<j→j≤n→B i<B j) (hP:∀p:Nat×Nat,p.1<p.2→p.2≤n→aa P p=(B p.1,B p.2)) (l:List (Nat×Nat)) (hl:∀p∈l,p.1<p.2∧p.2≤n) (ha:l.Pairwise (fun p q=>p.1<q.1)) (ov back:Bool):
  uz (l.map (aa P)) ov back=(if ov then(if back then l.reverse else l) else io (if back then l.reverse else l)).map (aa P):=by
 cases back with
 |false=>cases ov with
  |true=>rfl
  |false=>exact afy P B n hB hP l [] 0 hl ha rfl
 |true=>cases ov with
  |true=>exact(List.map_reverse).symm
  |false=>
   show((l.map (aa P)).reverse.foldl t5 ([],none)).1=(l.reverse.foldl d8 []).map (aa P)
   rw[←List.map_reverse]
   exact a96 P B n hB hP l.reverse [] none (fun p hp=>hl p (List.mem_reverse.mp hp)) (List.pairwise_reverse.mpr ha) rfl
theorem a5p (br:Nat→Bool) (n:Nat):∀m i,i∈(List.range m).foldl (o0 br) [0,n]↔ (i=0∨i=n∨(1≤i∧i≤m∧br i=true))
 |0,i=>by
  show i∈[0,n]↔ _
  rw [List.mem_cons,List.mem_singleton]
  exact ⟨fun h=>h.elim .inl fun h=>.inr (.inl h),fun h=>h.elim .inl fun h=>h.elim .inr fun h=>absurd h.2.1 (by exact al0 h)⟩
 |m+1,i=>by
  have ih:=a5p br n m i
  rw [List.range_succ,List.foldl_append]
  show i∈(if br (1+m)=true then (List.range m).foldl (o0 br) [0,n]++[1+m]else (List.range m).foldl (o0 br) [0,n]) ↔ _
  cases q:br (1+m)with
  |true=>
   rw [if_pos rfl,List.mem_append,List.mem_singleton,ih]
   constructor
   ·rintro ((h|h|⟨h1,h2,h3⟩)|h)
    ·exact .inl h
    ·exact .inr (.inl h)
    ·exact .inr (.inr ⟨h1,by exact Nat.le_succ_of_le (by assumption),h3⟩)
    ·subst h;exact .inr (.inr ⟨by exact Nat.le_add_right _ _,by grind,q⟩)
   ·rintro (h|h|⟨h1,h2,h3⟩)
    ·exact .inl (.inl h)
    ·exact .inl (.inr (.inl h))
    ·rcases Nat.eq_or_lt_of_le h2 with g|g
     ·exact .inr (by exact ak2 g)
     ·exact .inl (.inr (.inr ⟨h1,by exact Nat.le_of_succ_le_succ (by assumption),h3⟩))
  |false=>
   rw [if_neg Bool.false_ne_true,ih]
   constructor
   ·rintro (h|h|⟨h1,h2,h3⟩)
    ·exact .inl h
    ·exact .inr (.inl h)
    ·exact .inr (.inr ⟨h1,by exact Nat.le_succ_of_le (by assumption),h3⟩)
   ·rintro (h|h|⟨h1,h2,h3⟩)
    ·exact .inl h
    ·exact .inr (.inl h)
    ·refine .inr (.inr ⟨h1,?_,h3⟩)
     rcases Nat.eq_or_lt_of_le h2 with g|g
     ·rw [g,Nat.add_comm,q]at h3;cases h3
     ·exact akd g
theorem ae7 (t:List Int) (i:Nat) (hi:i≤t.length):(o3 (brk t) t.length).contains i=dc t [121] i:=by
 rw [Bool.eq_iff_iff,List.contains_iff_mem]
 unfold o3 dc
 rw [a5p,Bool.or_eq_true,Bool.or_eq_true,decide_eq_true_iff,decide_eq_true_iff]
 have hb:brk t i=!([121]:List Int).contains ((t[i]?).getD 0):=by
  show (!((t[i]?).getD 0==121))=!(((t[i]?).getD 0==121)||false)
  rw [Bool.or_false]
 rw [hb]
 constructor
 ·rintro (h|h|h)
  ·exact .inl h
  ·exact .inr (.inl h)
  ·exact .inr (.inr h.2.2)
 ·rintro (h|h|h)
  ·exact .inl h
  ·exact .inr (.inl h)
  ·by_cases g:i=0
   ·exact .inl g
   ·by_cases g2:i=t.length
    ·exact .inr (.inl g2)
    ·exact .inr (.inr ⟨by exact Nat.pos_of_ne_zero (by assumption),by exact aom hi g2,h⟩)
theorem aew (R:Rows) (t:List Int) (i:Nat):l5 (seg R t) i≤t.length:=by
 have e:=a0v R t
 have:jo (seg R t)=jo ((seg R t).take i)+jo ((seg R t).drop i):=by
  unfold jo
  rw[←List.sum_append,←List.map_append,List.take_append_drop]
 unfold l5;grind
theorem plain:afq:=by
 intro s sum two three wd ov back st t p hs h1 h3 ht1 ht6 hp hts hps
 generalize hS:seg (cf s sum two three) t=S
 have ones:a2u S:=hS▸a5s _ _
 have pl:∀i,l5 S i≤t.length:=hS▸aew (cf s sum two three) t
 have two':∀q∈S,q.2.length≤2:=hS▸pz s sum two three t
 rw[nz,pq]
 generalize hP:kf st 0 S=P
 have len:P.length=S.length:=by rw[←hP];exact a2k st S 0
 have bp:∀i,i<P.length→bh P i=l5 S i∧c8 P i=l5 S (i+1):=fun i hi=>by
  rw[←hP];exact aee st S i (by exact anp len hi)
 generalize hw:c7 ((seg (cf s sum two three) p).flatMap Prod.snd) st=w
 have wl:w.length=st:=by rw[←hw];exact(qy _ _).1
 have hlv:∀q∈P,q.lv.length=w.length:=fun q hq=>by
  rw[wl];rw[←hP]at hq;exact(a3h st S 0 two' q hq).1
 have hB:∀i j,i<j→j≤P.length→l5 S i<l5 S j:=fun i j h h'=>ahi S ones i j h (by exact an3 len h')
 have hpl:∀q:Nat×Nat,q.1<q.2→q.2≤P.length→aa P q=(l5 S q.1,l5 S q.2):=fun q h h'=>by
  unfold aa
  rw[(bp q.1 (by exact Nat.lt_of_lt_of_le (by assumption) (by assumption))).1,(bp (q.2-1) (by exact alq h h')).2,Nat.sub_add_cancel (by exact Nat.zero_lt_of_lt (by assumption))]
 have asc:∀i j,i<j→j<P.length→bh P i<bh P j:=fun i j h h'=>by
  rw[(bp i (by exact Nat.lt_trans (by assumption) (by assumption))).1,(bp j h').1];exact hB i j h (by exact Nat.le_of_lt (by assumption))
 have mk:∀i,i≤t.length→ao wd=true→(o3 (brk t) t.length).contains i=dc t (dj (ao wd)) i:=fun i hi e=>by
  rw[e];exact ae7 t i hi
 have se:=aeb P w (dc t (dj (ao wd))) wd (o3 (brk t) t.length) hlv (fun e i hi=>mk _ (by rw[(bp i hi).1];exact pl i) e) (fun e i hi=>mk _ (by rw[(bp i hi).2];exact pl _) e) (fun h h' h''=>by
  rw[(bp h h'').1,(bp (h-1) (by exact ahy h'')).2,Nat.sub_add_cancel h'])
 rw[ahs P w _ _ asc]
 unfold a47
 dsimp only
 rw[se]
 cases q:cw w with
 |true=>cases ov<;>cases back<;>rfl
 |false=>
  exact ab8 P (l5 S) P.length hB hpl _ (a8o P w _ _) (a3d P w _ _) ov back
end
end Mini.Internal
theorem PySem.Challenge.cw_nt0081_01_holds : PySem.Challenge.rw_nt0081_01.Holds :=
  Mini.Internal.holds fun ns _ => Mini.Internal.law_run Mini.Internal.plain ns
