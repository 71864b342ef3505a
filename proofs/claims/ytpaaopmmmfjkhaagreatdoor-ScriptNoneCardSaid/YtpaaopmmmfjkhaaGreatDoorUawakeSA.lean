/- awakeS: calls that are written down with what they meet of memory, part A: each reckoned by the evaluator, in the kernel. No conditions. -/
import Derived.Test.YtpaaopmmmfjkhaaGreatDoorUawakeST
import Derived.Test.YtpaaopmmmfjkhaaGreatDoorProg
import Derived.KernelRfl
set_option linter.unusedVariables false
set_option maxRecDepth 1000000
namespace Go.Proofs.YtpaaopmmmfjkhaaGreatDoor.Q.awakeS
open Go.RowKit
open Go.Proofs.YtpaaopmmmfjkhaaGreatDoor.Ev (sV bV iV bL tL sl sx pt mp nS nP nM u3 u6 i3 bT bF ag K0 K1 Fm Row RowGood RowH RowHGood LO putAt)
def a2:List (Nat×LO):=[e 61 D11,e 62 D3q,(63,K0 [pt 62 0,nP,iV 1,iV 1,iV 1000,u3 1,i3 1,u3 0,iV 0,pt 64 0,iV 1,iV 1,iV 0,iV 1,nS,nS,nS,nS,pt 66 0,mp 69]),e 65 D8j,e 67 D0,e 68 D3r]
def b2:List (Nat×LO):=[e 62 D3s,(63,K0 [pt 62 0,nP,iV 1,iV 1,iV 1000,u3 1,i3 1,u3 0,iV 0,pt 87 0,iV 1,iV 1,iV 0,iV 2,nS,nS,nS,nS,pt 465 0,mp 658]),(65,K0 [sl 656 0 1 52 52,bT,nS]),e 214 D0,e 215 Dc,(227,Fm 622 228),e 228 D1g,e 465 D8,(594,K0 [mp 61]),e 595 D8k,e 620 D0,e 621 Dg,(622,K1 [sl 215 0 1 4 4,sl 621 0 1 4 4] 227),e 655 D0,(656,K1 (bL [0,0,0,8,168,199,248,50,40,26,57,197,0,0,0,0,0,0,0,0,0,0,0,4,164,125,234,119,66,173,119,67,1,7,1,1,0,0,0,4,164,125,235,119,66,173,120,246,1,7,1,2]) 655),e 658 D2a]
def p2:RowH:=⟨316,⟨70,[pt 63 0],a2,iV 0,b2,659⟩⟩
theorem G2:Gd p2:=G [] Z (by decide) (by decide +kernel)
def a9:List (Nat×LO):=[e 61 D14,e 62 Do,(63,K0 [pt 62 0,nP,iV 1,iV 1,iV 1000,u3 1,i3 1,u3 0,iV 0,pt 68 0,iV 1,iV 1,iV 0,iV 2,nS,nS,sl 77 0 2 1 1,nS,pt 78 0,mp 65]),e 64 D8t,e 66 D0,e 67 D5d,e 68 D8u,e 70 D4j,e 71 D3,e 73 D5,e 75 D6,e 76 D0,e 77 D2s]
def b9:List (Nat×LO):=[e 62 Dq,(63,K0 [pt 62 0,nP,iV 1,iV 1,iV 1000,u3 1,i3 1,u3 0,iV 0,pt 68 0,iV 1,iV 1,iV 0,iV 3,nS,nS,sl 147 0 2 1 1,nS,pt 78 0,mp 65]),e 64 D5w,e 68 D8v,e 70 D46,e 146 D0,e 147 D2s,e 297 D0,e 298 D9,e 299 D5x,e 332 D0,(333,K1 (bL [0,0,0,8,168,199,248,50,40,26,57,197,0,0,0,0,0,0,0,0,0,0,0,4,164,125,234,119,66,173,119,67,1,7,1,1,0,0,0,8,134,110,62,213,105,40,219,196,1,4,1,2,1,2,0,0,0,0,0,4,164,125,235,119,66,173,120,246,1,7,1,2,0,0,0,4,164,125,236,119,66,173,122,169,1,7,1,3]) 332)]
def p9:RowH:=⟨239,⟨79,[pt 63 0,ag [iV 7,iV 3,iV 0,iV 0,sV [],iV 0,iV 0,nS,nS,sV [],iV 0,iV 0,nS,nS,iV 0,iV 0,nS]],a9,iV 0,b9,335⟩⟩
theorem G9:Gd p9:=G [] Z (by decide) (by decide +kernel)
def a20:List (Nat×LO):=[e 62 D1m,(63,K0 [sl 81 0 3 3 3,sl 83 0 1 3 3,iV 1000,nS,iV 0]),(64,K0 [pt 61 0,nP,iV 1,iV 1,iV 1000,u3 1,i3 0,u3 0,iV 0,pt 65 0,iV 1,iV 1,iV 0,iV 3,nS,nS,sl 85 0 2 2 2,nS,pt 66 0,mp 67]),e 69 D12,(71,K0 [sl 89 0 4 1 1,mp 70,iV 1]),e 72 D2u,e 73 D8y,e 74 Dbr,e 78 D0,e 79 D4,e 80 D0,e 81 D17,(83,K1 [pt 62 0,pt 69 0,pt 82 0] 72),e 84 D0,e 85 Dh,e 86 D0,e 87 D1,e 88 D0,e 89 Dd]
def b20:List (Nat×LO):=[]
def p20:RowH:=⟨10,⟨90,[pt 63 0],a20,bF,b20,573⟩⟩
theorem G20:Gd p20:=G [] Z (by decide) (by decide +kernel)
def a31:List (Nat×LO):=[e 61 Dm,e 62 Dz,e 63 D6s,e 64 D6t,e 65 D6u,e 67 D3v,e 68 D3,e 70 D5,e 72 D6,e 74 Da,e 76 Db,e 78 D0,e 79 Dh,e 81 D6v,e 82 D0,e 83 D3c]
def b31:List (Nat×LO):=[e 62 D1f,e 63 Dce,e 64 Dcf,e 65 Dcg,e 67 Dch,e 179 D0,e 180 Dh,e 400 D0,e 401 Dk,e 402 Dci,e 435 D0,e 436 Dcj]
def p31:RowH:=⟨239,⟨85,[pt 64 0,ag [iV 4,iV 2,iV 0,iV 0,sV [],iV 0,iV 0,nS,nS,sV [],iV 0,iV 0,nS,nS,iV 0,iV 0,nS]],a31,iV 0,b31,438⟩⟩
theorem G31:Gd p31:=G [] Z (by decide) (by decide +kernel)
def a39:List (Nat×LO):=[e 61 D14,e 62 Do,e 64 D5j,e 65 D0,e 66 Dr,(67,K0 [pt 62 0,pt 63 0,iV 2,iV 3,iV 1000,u3 0,i3 1,u3 0,iV 0,pt 68 0,iV 2,iV 3,iV 0,iV 2,nS,nS,sl 77 0 2 1 1,nS,pt 78 0,nM]),e 68 D8u,e 70 D4j,e 71 D3,e 73 D5,e 75 D6,e 76 D0,e 77 D4]
def b39:List (Nat×LO):=[e 62 Dq,e 64 D5w,(67,K0 [pt 62 0,pt 63 0,iV 2,iV 3,iV 1000,u3 0,i3 1,u3 0,iV 0,pt 68 0,iV 2,iV 3,iV 0,iV 3,nS,nS,sl 147 0 2 1 1,nS,pt 78 0,nM]),e 68 D8v,e 70 D46,e 146 D0,e 147 D4,e 297 D0,e 298 D9,e 299 D5x,e 332 D0,e 333 D25]
def p39:RowH:=⟨239,⟨79,[pt 67 0,ag [iV 7,iV 3,iV 0,iV 0,sV [],iV 0,iV 0,nS,nS,sV [],iV 0,iV 0,nS,nS,iV 0,iV 0,nS]],a39,iV 0,b39,335⟩⟩
theorem G39:Gd p39:=G [] Z (by decide) (by decide +kernel)
def a80:List (Nat×LO):=[e 61 D11,e 62 Dz,e 63 De3,e 64 De4,e 65 De5,e 68 D3v,e 69 D3,e 72 Dy,e 74 D1x,e 76 D3w,e 78 D4u,e 79 D0,e 80 Dh,e 82 De6,e 83 D0,e 84 D2z]
def b80:List (Nat×LO):=[e 62 D1f,(63,K0 [pt 62 0,nP,iV 1,iV 1,iV 1000,u3 1,i3 0,u3 0,iV 0,pt 64 0,iV 1,iV 1,iV 0,iV 3,nS,nS,sl 180 0 2 2 2,nS,pt 66 0,mp 70]),(64,K0 [pt 62 0,sV [110],u3 1,i3 0,u3 0,iV 0,iV 0,nS,sl 350 0 1 7 7,bF]),(65,K0 [sl 384 0 1 140 140,bT,nS]),(68,Fm 350 69),e 179 D0,e 180 Dh,e 348 D0,e 349 D3e,(350,K1 [sl 67 0 1 4 4,sl 71 0 1 8 8,sl 73 0 1 4 4,sl 75 0 1 8 8,sl 77 0 1 4 4,sl 81 0 1 5 5,sl 349 0 1 3 3] 68),e 383 D0,(384,K1 (bL [0,0,0,8,168,199,248,50,40,26,57,197,0,0,0,0,0,0,0,0,0,0,0,4,164,125,234,119,66,173,119,67,1,7,1,1,0,0,0,8,134,110,62,213,105,40,219,196,1,4,1,2,1,2,0,0,0,0,0,4,164,125,235,119,66,173,120,246,1,7,1,2,0,0,0,8,185,180,179,187,152,68,234,131,1,4,1,3,1,2,0,0,0,0,0,4,164,125,236,119,66,173,122,169,1,7,1,3,0,0,0,5,233,40,100,107,255,170,192,229,1,8,2,39,16,0,0,0,3,208,136,103,24,103,16,23,196,1,8,0]) 383)]
def p80:RowH:=⟨239,⟨85,[pt 63 0,ag [iV 8,iV 0,iV 0,iV 0,sV [],iV 0,iV 0,nS,nS,sV [],iV 0,iV 0,nS,nS,iV 0,iV 0,nS]],a80,iV 0,b80,386⟩⟩
theorem G80:Gd p80:=G [] Z (by decide) (by decide +kernel)
def a83:List (Nat×LO):=[e 61 D0,e 62 Dc,e 63 D33,e 64 D3,e 65 D0,e 66 Dk,e 67 Dy,e 68 D0,e 69 Dg,e 70 D2m,e 71 D0,e 72 Dn,e 73 D4v,e 74 D0,e 75 D9,e 76 D4w,e 77 D0,e 78 D7,e 79 D4x,e 80 D0,e 81 Dl,(82,K1 [sl 62 0 1 4 4,sl 66 0 1 8 8,sl 69 0 1 4 4,sl 72 0 1 8 8,sl 75 0 1 4 4,sl 78 0 1 5 5,sl 81 0 1 4 4] 63)]
def b83:List (Nat×LO):=[e 2370 D0,e 2371 Dh]
def p83:RowH:=⟨107,⟨83,[ag [iV 1,iV 1,iV 0,iV 0,nS,nS,nS,nS],sl 82 0 1 7 7],a83,.tuple ⟨[ag [iV 1,iV 1,iV 0,iV 4,nS,nS,sl 2371 0 2 2 2,nS],iV 0]⟩,b83,2415⟩⟩
theorem G83:Gd p83:=G [] Z (by decide) (by decide +kernel)
def a88:List (Nat×LO):=[e 61 Dm,e 62 D1a,e 63 Dej,e 64 Dek,e 65 Del,e 67 D33,e 68 D3,e 70 D5,e 72 D6,e 74 Da,e 76 Db,e 78 Dj,e 81 Dem,e 83 D0,e 84 Dh,e 86 Den,e 87 D0,e 88 Dei]
def b88:List (Nat×LO):=[e 62 D1j,e 63 Deo,e 64 Dep,e 65 Deq,e 67 D8z,e 183 D0,e 184 Dh,e 345 D0,e 346 D1u,e 347 Der,e 380 D0,(381,K1 (bL [0,0,0,8,168,199,248,50,40,26,57,197,0,0,0,0,0,0,0,0,0,0,0,4,164,125,234,119,66,173,119,67,1,7,1,1,0,0,0,8,134,110,62,213,105,40,219,196,1,4,1,2,1,2,0,0,0,0,0,4,164,125,235,119,66,173,120,246,1,7,1,2,0,0,0,8,185,180,179,187,152,68,234,131,1,4,1,3,1,2,0,0,0,0,0,4,164,125,236,119,66,173,122,169,1,7,1,3,0,0,0,5,233,40,100,107,255,170,192,229,1,8,2,39,16,0,0,0,4,164,125,237,119,66,173,124,92,1,7,1,4,0,0,0,8,134,110,62,213,105,40,219,196,1,4,1,2,1,2,0,0,0,0,0,4,164,125,238,119,66,173,126,15,1,7,1,5]) 380)]
def p88:RowH:=⟨239,⟨89,[pt 64 0,ag [iV 7,iV 5,iV 0,iV 0,sV [],iV 0,iV 0,nS,nS,sV [],iV 0,iV 0,nS,nS,iV 0,iV 0,nS]],a88,iV 0,b88,383⟩⟩
theorem G88:Gd p88:=G [] Z (by decide) (by decide +kernel)
def a89:List (Nat×LO):=[e 61 Dm,e 62 D1f,e 63 D7c,e 64 D7d,e 65 D7e,e 67 D4y,e 68 D3,e 70 D5,e 72 D6,e 74 Da,e 76 Db,e 78 Dj,e 80 D0,e 81 Dh,e 83 D65,e 84 D0,e 85 D3k]
def b89:List (Nat×LO):=[e 62 D1a,e 63 Ded,e 64 Dee,e 65 Def,e 67 Deg,e 181 D0,e 182 Dh,e 402 D0,e 403 Dn,e 404 Deh,e 437 D0,e 438 Des]
def p89:RowH:=⟨239,⟨87,[pt 64 0,ag [iV 4,iV 3,iV 0,iV 0,sV [],iV 0,iV 0,nS,nS,sV [],iV 0,iV 0,nS,nS,iV 0,iV 0,nS]],a89,iV 0,b89,440⟩⟩
theorem G89:Gd p89:=G [] Z (by decide) (by decide +kernel)
def a113:List (Nat×LO):=[e 61 D11,e 62 D1a,e 63 Dfg,e 64 Dfh,e 65 Dfi,e 68 D1y,e 69 D3,e 72 Dy,e 74 D1x,e 76 D3w,e 78 D4u,e 80 D6g,e 82 D7h,e 83 D0,e 84 Dw,e 85 D0,e 86 D1w,e 87 D0,e 88 D1,e 89 D0,e 90 D2,e 92 Dfj,e 93 D0,e 94 D4d]
def b113:List (Nat×LO):=[e 62 D1j,e 63 Dfk,(64,K0 [pt 62 0,sV [110],u3 1,i3 0,u3 0,iV 0,iV 0,nS,sl 618 0 1 9 9,bF]),(65,K0 [sl 652 0 1 195 195,bT,nS]),(68,Fm 618 69),e 410 D0,e 411 D13,e 413 D0,e 414 D2e,e 436 D0,e 437 D1,e 452 D0,e 453 D2,e 616 D0,e 617 D3e,(618,K1 [sl 67 0 1 4 4,sl 71 0 1 8 8,sl 73 0 1 4 4,sl 75 0 1 8 8,sl 77 0 1 4 4,sl 79 0 1 5 5,sl 81 0 1 23 23,sl 91 0 1 8 8,sl 617 0 1 3 3] 68),e 651 D0,(652,K1 (bL [0,0,0,8,168,199,248,50,40,26,57,197,0,0,0,0,0,0,0,0,0,0,0,4,164,125,234,119,66,173,119,67,1,7,1,1,0,0,0,8,134,110,62,213,105,40,219,196,1,4,1,2,1,2,0,0,0,0,0,4,164,125,235,119,66,173,120,246,1,7,1,2,0,0,0,8,185,180,179,187,152,68,234,131,1,4,1,3,1,2,0,0,0,0,0,4,164,125,236,119,66,173,122,169,1,7,1,3,0,0,0,5,233,40,100,107,255,170,192,229,1,8,2,39,16,0,0,0,23,75,60,233,200,244,58,201,80,1,2,1,19,1,2,1,1,1,1,102,1,6,1,1,0,1,1,7,1,2,0,0,0,0,0,8,210,133,229,10,139,129,185,217,1,5,1,2,1,2,1,1,0,0,0,3,208,136,103,24,103,16,23,196,1,8,0]) 651)]
def p113:RowH:=⟨239,⟨95,[pt 63 0,ag [iV 8,iV 0,iV 0,iV 0,sV [],iV 0,iV 0,nS,nS,sV [],iV 0,iV 0,nS,nS,iV 0,iV 0,nS]],a113,iV 0,b113,654⟩⟩
theorem G113:Gd p113:=G [] Z (by decide) (by decide +kernel)
def a185:List (Nat×LO):=[e 61 D14,e 62 D1j,e 63 Dfz,e 64 Dg0,e 66 D5g,e 67 D3,e 69 D5,e 71 D6,e 73 Da,e 75 Db,e 77 Dj,e 79 Ds,e 81 Dt,e 83 Du,e 84 D0,e 85 D2f,e 86 D0,e 87 D7]
def b185:List (Nat×LO):=[e 62 D52,e 63 Dg1,e 64 Dg2,e 66 D7s,e 165 D0,e 166 Das,e 168 D0,(169,K1 [.iface 675 (ag [sl 166 0 1 17 17])] 168),(184,K1 [sl 65 0 1 4 4,sl 68 0 1 8 8,sl 70 0 1 4 4,sl 72 0 1 8 8,sl 74 0 1 4 4,sl 76 0 1 5 5,sl 78 0 1 23 23,sl 80 0 1 8 8,sl 82 0 1 5 5,sl 183 0 1 5 5] 66)]
def p185:RowH:=⟨348,⟨88,[pt 63 0,sl 87 0 1 5 5],a185,iV 0,b185,185⟩⟩
theorem G185:Gd p185:=G [] Z (by decide) (by decide +kernel)
def a189:List (Nat×LO):=[e 61 Dm,e 62 D1e,e 63 Dic,e 64 D0,e 65 D32,e 66 Dg7,e 68 D33,e 69 D3,e 71 D5,e 73 D6,e 75 Da,e 77 Db,e 79 Dj,e 81 Ds,e 83 Dt,e 85 Du,e 87 D1l,e 88 D0,e 89 Dl]
def b189:List (Nat×LO):=[e 62 D21,(63,K0 [sl 65 0 1 214 214,bT,sl 171 0 1 1 1]),e 66 Dg8,e 68 D7s,e 167 D0,e 168 D4e,e 170 D0,e 171 D5p,e 184 D0,e 185 Dl,(186,K1 [sl 67 0 1 4 4,sl 70 0 1 8 8,sl 72 0 1 4 4,sl 74 0 1 8 8,sl 76 0 1 4 4,sl 78 0 1 5 5,sl 80 0 1 23 23,sl 82 0 1 8 8,sl 84 0 1 5 5,sl 86 0 1 5 5,sl 185 0 1 4 4] 68)]
def p189:RowH:=⟨348,⟨90,[pt 66 0,sl 89 0 1 4 4],a189,iV 0,b189,187⟩⟩
theorem G189:Gd p189:=G [] Z (by decide) (by decide +kernel)
def a200:List (Nat×LO):=[e 61 Dm,e 62 D3o,e 63 D85,e 64 D5t,e 66 D4g,e 67 D3,e 69 D5,e 71 D6,e 73 Da,e 75 Db,e 77 Dj,e 79 Ds,e 81 Dt,e 83 Du,e 85 D1l,e 87 D3b,e 88 D0,e 89 D2q,e 90 D0,e 91 Daa,e 92 D0,e 93 D34,e 95 Diw]
def b200:List (Nat×LO):=[e 64 D5u,e 66 D4h,e 243 D0,e 244 Dc,e 272 D0,e 273 Dk,e 301 D0,e 302 Dg,e 330 D0,e 331 Dn,e 359 D0,e 360 D9,e 388 D0,e 389 D7,e 417 D0,e 418 Dv,e 446 D0,e 447 D10,e 475 D0,e 476 D7,e 504 D0,e 505 D7,e 533 D0,e 534 Dl,e 562 D0,e 563 D48,e 575 Dix]
def p200:RowH:=⟨552,⟨96,[pt 64 0],a200,.tuple ⟨[]⟩,b200,583⟩⟩
theorem G200:Gd p200:=G [] Z (by decide) (by decide +kernel)
def a215:List (Nat×LO):=[e 61 D14,e 62 Dz,(64,K0 [sl 67 0 1 143 143,bT,nS]),(65,K0 [pt 62 0,pt 63 0,iV 2,iV 3,iV 1000,u3 1,i3 1,u3 0,iV 0,pt 69 0,iV 2,iV 3,iV 1,iV 3,sl 84 0 7 1 1,sl 86 0 5 1 1,sl 88 0 2 1 1,nS,pt 97 0,mp 68]),e 66 D0,e 67 D4i,e 69 Dje,e 71 D2u,e 72 D3,e 74 D5,e 76 D6,e 78 D1i,e 80 D22,(82,K1 [sl 70 0 1 4 4,sl 73 0 1 8 8,sl 75 0 1 4 4,sl 77 0 1 23 23,sl 79 0 1 8 8,sl 81 0 1 4 4] 71),e 83 D0,e 84 D18,e 85 D0,e 86 D19,e 87 D0,e 88 D1k,e 89 D0,e 90 D1,e 91 D0,e 92 D1,e 93 D0,e 94 D2,e 95 D0,e 96 D2]
def b215:List (Nat×LO):=[e 62 D1f,(64,K0 [sl 788 0 1 159 159,bT,nS]),(65,K0 [pt 62 0,pt 63 0,iV 2,iV 3,iV 1000,u3 1,i3 1,u3 0,iV 0,pt 69 0,iV 2,iV 3,iV 1,iV 4,sl 542 0 7 1 1,sl 545 0 5 1 1,sl 548 0 2 1 1,nS,pt 97 0,mp 68]),(69,K0 [pt 62 0,sV [110],u3 1,i3 0,u3 0,iV 0,iV 0,nS,sl 754 0 1 7 7,bF]),(71,Fm 754 72),e 541 D0,e 542 D1c,e 544 D0,e 545 D1d,e 547 D0,e 548 D35,e 570 D0,e 571 D1,e 593 D0,e 594 D1,e 596 D0,e 597 D2,e 612 D0,e 613 D2,e 752 D0,e 753 Dl,(754,K1 [sl 70 0 1 4 4,sl 73 0 1 8 8,sl 75 0 1 4 4,sl 77 0 1 23 23,sl 79 0 1 8 8,sl 81 0 1 4 4,sl 753 0 1 4 4] 71),e 787 D0,(788,K1 (bL [0,0,0,8,168,199,248,50,40,26,57,197,0,0,0,0,0,0,0,0,0,0,0,4,164,125,234,119,66,173,119,67,1,7,1,1,0,0,0,8,245,184,102,16,166,131,185,245,1,4,1,1,1,2,0,0,0,0,0,4,164,125,235,119,66,173,120,246,1,7,1,2,0,0,0,23,141,187,21,220,158,116,141,75,1,1,1,19,1,2,1,1,1,1,102,1,6,1,1,0,1,1,7,1,2,0,0,0,0,0,8,219,73,236,121,106,170,61,120,1,5,1,1,1,2,1,1,0,0,0,4,164,125,236,119,66,173,122,169,1,7,1,3,0,0,0,4,164,125,237,119,66,173,124,92,1,7,1,4]) 787)]
def p215:RowH:=⟨239,⟨98,[pt 65 0,ag [iV 7,iV 4,iV 0,iV 0,sV [],iV 0,iV 0,nS,nS,sV [],iV 0,iV 0,nS,nS,iV 0,iV 0,nS]],a215,iV 0,b215,790⟩⟩
theorem G215:Gd p215:=G [] Z (by decide) (by decide +kernel)
def a238:List (Nat×LO):=[e 61 Dm,e 62 D1q,e 63 Dka,e 64 D0,e 65 D2r,e 66 Din]
def b238:List (Nat×LO):=[e 66 Dio,e 193 D0,e 194 Dc,e 206 Dip,e 207 D1g,e 223 D0,e 224 Dk,e 252 D0,e 253 Dg,e 281 D0,e 282 Dn,e 310 D0,e 311 D9,e 339 D0,e 340 D7,e 368 D0,e 369 Dv,e 397 D0,e 398 D10,(405,K0 [sl 398 0 1 8 8]),e 423 D7r,e 424 D2y,e 426 D0,e 427 D7,(439,K1 [sl 194 0 1 4 4,sl 224 0 1 8 8,sl 253 0 1 4 4,sl 282 0 1 8 8,sl 311 0 1 4 4,sl 340 0 1 5 5,sl 369 0 1 23 23,sl 398 0 1 8 8,sl 427 0 1 5 5] 206),e 455 D0,e 456 D7,(463,K0 [sl 456 0 1 5 5]),e 484 D0,e 485 D5b,(497,K1 [sl 194 0 1 4 4,sl 224 0 1 8 8,sl 253 0 1 4 4,sl 282 0 1 8 8,sl 311 0 1 4 4,sl 340 0 1 5 5,sl 369 0 1 23 23,sl 398 0 1 8 8,sl 427 0 1 5 5,sl 456 0 1 5 5,sl 485 0 1 8 8] 206)]
def p238:RowH:=⟨552,⟨67,[pt 66 0],a238,.tuple ⟨[]⟩,b238,505⟩⟩
theorem G238:Gd p238:=G [] Z (by decide) (by decide +kernel)
def a239:List (Nat×LO):=[e 61 D0,e 62 Dc,e 63 D6q,e 64 D3,e 65 D0,e 66 Dk,e 67 Dy,e 68 D0,e 69 Dg,e 70 D2m,e 71 D0,e 72 Dn,e 73 D4v,e 74 D0,e 75 D9,e 76 D4w,e 77 D0,e 78 D7,e 79 D4x,e 80 D0,e 81 Dv,e 82 D5m,e 83 D0,e 84 D10,e 85 D5n,e 86 D0,e 87 D7,e 88 D6i,e 89 D0,e 90 D7,e 91 Dat,e 92 D0,e 93 D5b,(94,K1 [sl 62 0 1 4 4,sl 66 0 1 8 8,sl 69 0 1 4 4,sl 72 0 1 8 8,sl 75 0 1 4 4,sl 78 0 1 5 5,sl 81 0 1 23 23,sl 84 0 1 8 8,sl 87 0 1 5 5,sl 90 0 1 5 5,sl 93 0 1 8 8] 63)]
def b239:List (Nat×LO):=[e 6453 D0,e 6454 D13,e 6456 D0,e 6457 Dkb,e 6479 D0,e 6480 D1,e 6495 D0,e 6496 D2,e 6661 D0,e 6662 D2]
def p239:RowH:=⟨107,⟨95,[ag [iV 1,iV 1,iV 0,iV 0,nS,nS,nS,nS],sl 94 0 1 11 11],a239,.tuple ⟨[ag [iV 1,iV 1,iV 0,iV 3,sl 6454 0 7 1 1,nS,sl 6457 0 2 2 2,nS],iV 0]⟩,b239,6689⟩⟩
theorem G239:Gd p239:=G [] Z (by decide) (by decide +kernel)
def a241:List (Nat×LO):=[e 61 Dm,e 62 D3o,(63,K0 [sl 65 0 1 234 234,bT,sl 93 0 1 1 1]),e 64 D0,e 65 D2r,e 66 Dit,e 68 D39,e 69 D3,e 71 D5,e 73 D6,e 75 Da,e 77 Db,e 79 Dj,e 81 Ds,e 83 Dt,e 85 Du,e 87 D1l,e 89 D6n,e 90 D0,e 91 D4e,e 92 D0,e 93 D34,(95,K1 [sl 67 0 1 4 4,sl 70 0 1 8 8,sl 72 0 1 4 4,sl 74 0 1 8 8,sl 76 0 1 4 4,sl 78 0 1 5 5,sl 80 0 1 23 23,sl 82 0 1 8 8,sl 84 0 1 5 5,sl 86 0 1 5 5,sl 88 0 1 8 8,sl 94 0 1 4 4] 68)]
def b241:List (Nat×LO):=[e 66 Diu,e 68 Div,e 243 D0,e 244 Dc,e 272 D0,e 273 Dk,e 301 D0,e 302 Dg,e 330 D0,e 331 Dn,e 359 D0,e 360 D9,e 388 D0,e 389 D7,e 417 D0,e 418 Dv,e 446 D0,e 447 D10,e 475 D0,e 476 D7,e 504 D0,e 505 D7,e 533 D0,e 534 D5b,e 562 D0,e 563 Dl,(575,K1 [sl 67 0 1 4 4,sl 70 0 1 8 8,sl 72 0 1 4 4,sl 74 0 1 8 8,sl 76 0 1 4 4,sl 78 0 1 5 5,sl 80 0 1 23 23,sl 82 0 1 8 8,sl 84 0 1 5 5,sl 86 0 1 5 5,sl 88 0 1 8 8,sl 94 0 1 4 4,sl 244 0 1 4 4,sl 273 0 1 8 8,sl 302 0 1 4 4,sl 331 0 1 8 8,sl 360 0 1 4 4,sl 389 0 1 5 5,sl 418 0 1 23 23,sl 447 0 1 8 8,sl 476 0 1 5 5,sl 505 0 1 5 5,sl 534 0 1 8 8,sl 563 0 1 4 4] 68)]
def p241:RowH:=⟨552,⟨96,[pt 66 0],a241,.tuple ⟨[]⟩,b241,583⟩⟩
theorem G241:Gd p241:=G [] Z (by decide) (by decide +kernel)
def a253:List (Nat×LO):=[e 61 D14,e 62 D3o,e 63 Dkd,e 64 Dke,e 66 D4g,e 67 D3,e 69 D5,e 71 D6,e 73 Da,e 75 Db,e 77 Dj,e 79 Ds,e 81 Dt,e 83 Du,e 85 D1l,e 87 D6n,e 88 D0,e 89 D2r,e 90 D0,e 91 Das,e 92 D0,e 93 Di3,(95,K1 [sl 65 0 1 4 4,sl 68 0 1 8 8,sl 70 0 1 4 4,sl 72 0 1 8 8,sl 74 0 1 4 4,sl 76 0 1 5 5,sl 78 0 1 23 23,sl 80 0 1 8 8,sl 82 0 1 5 5,sl 84 0 1 5 5,sl 86 0 1 8 8,sl 94 0 1 5 5] 66)]
def b253:List (Nat×LO):=[e 63 Dkf,e 66 D4h,e 243 D0,e 244 Dc,e 301 D0,e 302 Dg,e 475 D0,e 476 D7,e 562 D0,e 563 D7,(575,K1 [sl 65 0 1 4 4,sl 68 0 1 8 8,sl 70 0 1 4 4,sl 72 0 1 8 8,sl 74 0 1 4 4,sl 76 0 1 5 5,sl 78 0 1 23 23,sl 80 0 1 8 8,sl 82 0 1 5 5,sl 84 0 1 5 5,sl 86 0 1 8 8,sl 94 0 1 5 5,sl 244 0 1 4 4,sl 273 0 1 8 8,sl 302 0 1 4 4,sl 331 0 1 8 8,sl 360 0 1 4 4,sl 389 0 1 5 5,sl 418 0 1 23 23,sl 447 0 1 8 8,sl 476 0 1 5 5,sl 505 0 1 5 5,sl 534 0 1 8 8,sl 563 0 1 5 5] 66)]
def p253:RowH:=⟨552,⟨96,[pt 63 0],a253,.tuple ⟨[]⟩,b253,583⟩⟩
theorem G253:Gd p253:=G [] Z (by decide) (by decide +kernel)
def a256:List (Nat×LO):=[(62,K0 [sl 74 0 3 3 3,sl 76 0 1 3 3,iV 1000,sl 81 0 3 0 4,iV 16]),e 64 D12,(66,K0 [sl 80 0 4 1 1,mp 65,iV 1]),e 67 D36,(68,K1 [pt 61 0,pt 64 0] 67),(69,K0 [pt 63 0,pt 66 0,iV 2,iV 3,iV 1000,u3 1,i3 0,u3 0,iV 0,pt 70 0,iV 2,iV 3,iV 1,iV 2,sl 83 0 7 1 1,sl 85 0 5 1 1,sl 87 0 2 1 1,nS,pt 71 0,mp 72]),e 73 D0,e 74 D17,(76,K1 [pt 61 0,pt 64 0,pt 75 0] 67),e 77 D0,e 78 D1,e 79 D0,e 80 Dd,e 82 D0,e 83 D18,e 84 D0,e 85 D19,e 86 D0,e 87 D1k,e 88 D0,e 89 D1,e 90 D0,e 91 D1,e 92 D0,e 93 D2,e 94 D0,e 95 D2]
def b256:List (Nat×LO):=[]
def p256:RowH:=⟨33,⟨96,[pt 62 0,iV 2],a256,bT,b256,1800⟩⟩
theorem G256:Gd p256:=G [] Z (by decide) (by decide +kernel)
end Go.Proofs.YtpaaopmmmfjkhaaGreatDoor.Q.awakeS
