/- What functions compute. No condition. -/
import Derived.Test.YtmhaafinhpopmaaGreatDoorX25
set_option linter.unusedSimpArgs false
set_option linter.unusedVariables false
set_option linter.defProp false
namespace Go.Proofs.YtmhaafinhpopmaaGreatDoor
open Go Go.Vm
set_option maxHeartbeats 8000000
theorem num_inj {a b:Int} (ha:0≤a∧a≤99999) (hb:0≤b∧b≤99999) (h:numB a.toNat=numB b.toNat):a=b:=by
  rw [←rdN_num ha,h,rdN_num hb]
theorem body_inj {x y:(Int×Int×Int×Int×Int)} (hx:cOne x=true) (hy:cOne y=true) (h:cBody x=cBody y):x=y:=by
  obtain ⟨x0,x1,x2,x3,x4⟩:=x;obtain ⟨y0,y1,y2,y3,y4⟩:=y;have bx:=c_bounds hx;have bY:=c_bounds hy;simp only [] at bx bY;have e:=(prt_body (x0,x1,x2,x3,x4)).symm.trans ((congrArg (fun s=>prt s 44) h).trans (prt_body (y0,y1,y2,y3,y4)));simp only [List.cons.injEq,and_true] at e;obtain ⟨e0,e1,e2,e3,e4⟩:=e;rw [num_inj (by omega) (by omega) e0,num_inj (by omega) (by omega) e1,num_inj (by omega) (by omega) e2,num_inj (by omega) (by omega) e3,num_inj (by omega) (by omega) e4]
theorem bodies_inj:∀{l k:List (Int×Int×Int×Int×Int)},(∀x∈l,cOne x=true)→(∀x∈k,cOne x=true)→l.map cBody=k.map cBody→l=k
  | [],[],_,_,_=>rfl
  | [],_::_,_,_,h=>by cases h
  | _::_,[],_,_,h=>by cases h
  | x::l,y::k,hl,hk,h=>by
    rw [qma,qma,List.cons.injEq] at h;rw [body_inj (hl x (qle ..)) (hk y (qle ..)) h.1,bodies_inj (fun z hz=>hl z (qll _ hz)) (fun z hz=>hk z (qll _ hz)) h.2]
theorem ctx_inj {l k:List (Int×Int×Int×Int×Int)} (hl:csB l=true) (hk:csB k=true) (h:ctx l=ctx k):l=k:=by
  have e:=(prt_ctx l).symm.trans ((congrArg (fun s=>prt s 59) h).trans (prt_ctx k));exact bodies_inj (cs_each hl) (cs_each hk) (List.append_cancel_right e)
def PcS (s:ByteArray):Prop:=∃l:List (Int×Int×Int×Int×Int),csB l=true∧ctx l=s
open Classical in
noncomputable def pcB (s:ByteArray):Bool:=decide (PcS s)
open Classical in
noncomputable def pcR (s:ByteArray):List (Int×Int×Int×Int×Int):=if h:PcS s then h.choose else []
open Classical in
theorem pc_yes {s:ByteArray} {l:List (Int×Int×Int×Int×Int)} (h1:csB l=true) (h2:ctx l=s):pcB s=true∧pcR s=l:=by
  have h:PcS s:=⟨l,h1,h2⟩;refine ⟨decide_eq_true h,?_⟩;rw [pcR,dif_pos h];exact ctx_inj h.choose_spec.1 h1 (h.choose_spec.2.trans h2.symm)
open Classical in
theorem pc_no {s:ByteArray} (h:¬PcS s):pcB s=false∧pcR s=[]:=⟨decide_eq_false h,by rw [pcR,dif_neg h]⟩
theorem pcR_len (s:ByteArray):(pcR s).length≤20:=by
  by_cases h:PcS s
  · rw [pcR,dif_pos h];exact cs_len h.choose_spec.1
  · rw [(pc_no h).2];exact qlo _
def rowC (W:List Int):(Int×Int×Int×Int×Int):=(W.getD 0 0,W.getD 1 0,W.getD 2 0,W.getD 3 0,W.getD 4 0)
def spAt (s:ByteArray) (i:Nat):(Int×Int×Int×Int×Int):=rowC ((prt ((prt s 59).getD i .empty) 44).map rdN)
def spTo (s:ByteArray):Nat→List (Int×Int×Int×Int×Int)
  | 0=>[]
  | i+1=>spTo s i++[spAt s i]
theorem spTo_len (s:ByteArray):∀i,(spTo s i).length=i
  | 0=>rfl
  | i+1=>by rw [spTo,qlg,spTo_len s i];rfl
theorem prt_len (s:ByteArray) (b:Int):1≤(prt s b).length:=by rw [prt,qlg];simp
theorem prt_at {l:List (Int×Int×Int×Int×Int)} {i:Nat} {x:(Int×Int×Int×Int×Int)} (h:l[i]? =some x):(prt (ctx l) 59).getD i .empty=cBody x:=by
  have hi:=(qlt.1 h).1;rw [prt_ctx,qld,qli (by rw [qln];exact hi),List.getElem?_map,h];rfl
theorem spAt_ctx {l:List (Int×Int×Int×Int×Int)} (hl:csB l=true) {i:Nat} {x:(Int×Int×Int×Int×Int)} (h:l[i]? =some x):spAt (ctx l) i=x:=by
  have hx:=cs_each hl x (qlb h);have b:=c_bounds hx;obtain ⟨x0,x1,x2,x3,x4⟩:=x;simp only [] at b;rw [spAt,prt_at h,prt_body];show rowC [rdN (numB x0.toNat),rdN (numB x1.toNat),rdN (numB x2.toNat),rdN (numB x3.toNat),rdN (numB x4.toNat)]=_;rw [rdN_num (by omega),rdN_num (by omega),rdN_num (by omega),rdN_num (by omega),rdN_num (by omega)];rfl
theorem spTo_ctx {l:List (Int×Int×Int×Int×Int)} (hl:csB l=true):∀i,i≤l.length→spTo (ctx l) i=l.take i
  | 0,_=>rfl
  | i+1,h=>by
    have hx:l[i]? =some l[i]:=qla (by omega);rw [spTo,spTo_ctx hl i (by omega),spAt_ctx hl hx,List.take_add_one,hx];rfl
theorem sp_many {s:ByteArray} (h:21 < (prt s 59).length):¬PcS s:=by
  rintro ⟨l,h1,rfl⟩;have:=cs_len h1;rw [prt_ctx,qlg,qln] at h;simp at h;omega
theorem sp_five {s:ByteArray} {i:Nat} (hi:i < (prt s 59).length - 1) (h:(prt ((prt s 59).getD i .empty) 44).length≠5):¬PcS s:=by
  rintro ⟨l,h1,rfl⟩;have hl:(prt (ctx l) 59).length - 1=l.length:=by rw [prt_ctx,qlg,qln];rfl
  rw [hl] at hi;rw [prt_at (qla hi),prt_body] at h;exact h rfl
theorem sp_end {s:ByteArray} {n:Nat} (hn:n=(prt s 59).length - 1):(csB (spTo s n)=true∧ctx (spTo s n)=s→pcB s=true∧pcR s=spTo s n)∧(¬(csB (spTo s n)=true∧ctx (spTo s n)=s)→pcB s=false∧pcR s=[]):=by
  refine ⟨fun h=>pc_yes h.1 h.2,fun h=>pc_no fun ⟨l,h1,e⟩=>h ?_⟩;subst e;have hl:(prt (ctx l) 59).length - 1=l.length:=by rw [prt_ctx,qlg,qln];rfl
  rw [hn,hl,spTo_ctx h1 _ (qlf _),List.take_length];exact ⟨h1,rfl⟩
theorem trim_cT (x:(Int×Int×Int×Int×Int)):trimB (cT x) 59=cBody x:=by
  apply toL_inj;show Lib.trimSuffix (toL (cT x)) [59]=_;have e:toL (cT x)=toL (cBody x)++[59]:=by rw [cT,toL_app,toL_one]
  have hsuf:Lib.hasSuffix (toL (cBody x)++[59]) [59]=true:=by
    rw [Lib.hasSuffix,List.isSuffixOf_iff_suffix];exact ⟨_,rfl⟩
  rw [e,Lib.trimSuffix,if_pos hsuf,qlg,Nat.add_sub_cancel,List.take_left]
theorem trimB_sz {s:ByteArray} {c:UInt8} {m:Nat} (h:s.size≤m):(trimB s c).size≤m:=by
  have e:(trimB s c).size=(Lib.trimSuffix (toL s) [c]).length:=List.size_toArray;rw [e,Lib.trimSuffix];split
  · rw [qlk];have:=toL_len s;omega
  · rw [toL_len];exact h
def imRow (x:ByteArray):List Int:=rnR (trimB x 59)
theorem rn_body {x:(Int×Int×Int×Int×Int)} (h:cOne x=true):rnB (cBody x)=true∧rnR (cBody x)=[x.1,x.2.1,x.2.2.1,x.2.2.2.1,x.2.2.2.2]:=by
  have b:=c_bounds h;have r0:=rd_num (n:=x.1) (by omega);have r1:=rd_num (n:=x.2.1) (by omega);have r2:=rd_num (n:=x.2.2.1) (by omega);have r3:=rd_num (n:=x.2.2.2.1) (by omega);have r4:=rd_num (n:=x.2.2.2.2) (by omega);have hB:rnB (cBody x)=true:=by
    rw [rnB,spB_body];simp only [List.all_cons,List.all_nil,r0.1,r1.1,r2.1,r3.1,r4.1,Bool.and_self]
  refine ⟨hB,?_⟩;rw [rnR,if_pos hB,spB_body];simp only [List.map_cons,List.map_nil,r0.2,r1.2,r2.2,r3.2,r4.2]
def imTo (s:ByteArray):Nat→List (Int×Int×Int×Int×Int)
  | 0=>[]
  | i+1=>if (saB s 59).getD i .empty=.empty then imTo s i else imTo s i++[rowC (imRow ((saB s 59).getD i .empty))]
theorem imTo_len (s:ByteArray):∀i,(imTo s i).length≤i
  | 0=>qlf _
  | i+1=>by
    have:=imTo_len s i;rw [imTo];split
    · omega
    · rw [qlg,List.length_singleton];omega
theorem saB_at {l:List (Int×Int×Int×Int×Int)} {i:Nat} {x:(Int×Int×Int×Int×Int)} (h:l[i]? =some x):(saB (ctx l) 59).getD i .empty=cT x:=by
  have hi:=(qlt.1 h).1;rw [saB_ctx,qld,qli (by rw [qln];exact hi),List.getElem?_map,h];rfl
theorem saB_last {l:List (Int×Int×Int×Int×Int)}:(saB (ctx l) 59).getD l.length .empty=.empty:=by
  rw [saB_ctx,qld,qlj (by rw [qln];exact qlf _),qln,Nat.sub_self];rfl
theorem saB_llen {l:List (Int×Int×Int×Int×Int)}:(saB (ctx l) 59).length=l.length+1:=by rw [saB_ctx,qlg,qln];rfl
theorem cT_ne (x:(Int×Int×Int×Int×Int)):cT x≠.empty:=fun e=>by
  have:=congrArg ByteArray.size e;rw [cT,qlz,bz] at this;simp at this
theorem im_row {l:List (Int×Int×Int×Int×Int)} (hl:csB l=true) {i:Nat} {x:(Int×Int×Int×Int×Int)} (h:l[i]? =some x):rnB (trimB ((saB (ctx l) 59).getD i .empty) 59)=true∧imRow ((saB (ctx l) 59).getD i .empty)=[x.1,x.2.1,x.2.2.1,x.2.2.2.1,x.2.2.2.2]:=by
  have hx:=rn_body (cs_each hl x (qlb h));rw [imRow,saB_at h,trim_cT];exact hx
theorem imTo_ctx {l:List (Int×Int×Int×Int×Int)} (hl:csB l=true):∀i,i≤l.length→imTo (ctx l) i=l.take i
  | 0,_=>rfl
  | i+1,h=>by
    have hx:l[i]? =some l[i]:=qla (by omega);rw [imTo,imTo_ctx hl i (by omega),(im_row hl hx).2,if_neg (by rw [saB_at hx];exact cT_ne _),List.take_add_one,hx];rfl
theorem im_bad {s:ByteArray} {i:Nat} (hi:i < (saB s 59).length) (hne:(saB s 59).getD i .empty≠.empty) (h:rnB (trimB ((saB s 59).getD i .empty) 59)=false∨(imRow ((saB s 59).getD i .empty)).length≠5):¬PcS s:=by
  rintro ⟨l,h1,rfl⟩;rw [saB_llen] at hi;rcases qlp i l.length with q | q
  · have:=im_row h1 (qla q)
    rcases h with e | e
    · rw [this.1] at e;cases e
    · rw [this.2] at e;exact e rfl
  · have e:i=l.length:=by omega
    rw [e] at hne;exact hne saB_last
theorem im_end {s:ByteArray} {n:Nat} (hn:n=(saB s 59).length):(csB (imTo s n)=true∧ctx (imTo s n)=s→pcB s=true∧pcR s=imTo s n)∧(¬(csB (imTo s n)=true∧ctx (imTo s n)=s)→pcB s=false∧pcR s=[]):=by
  refine ⟨fun h=>pc_yes h.1 h.2,fun h=>pc_no fun ⟨l,h1,e⟩=>h ?_⟩;subst e;have e2:imTo (ctx l) (l.length+1)=l:=by
    rw [imTo,if_pos saB_last,imTo_ctx h1 _ (qlf _),List.take_length]
  rw [hn,saB_llen,e2];exact ⟨h1,rfl⟩
theorem pc_ctx {l:List (Int×Int×Int×Int×Int)} (h:csB l=true):pcB (ctx l)=true∧pcR (ctx l)=l:=pc_yes h rfl
end Go.Proofs.YtmhaafinhpopmaaGreatDoor
