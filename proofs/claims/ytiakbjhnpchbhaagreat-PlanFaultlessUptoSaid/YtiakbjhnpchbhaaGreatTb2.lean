/- This text lists functions of this seat's program, compiled for the evaluator; no condition. -/
import Derived.Test.YtiakbjhnpchbhaaGreatTb1
set_option linter.unusedVariables false
namespace Go.TrRun
open Go Go.Eng Go.Eng.Ins Go.Proofs
set_option maxRecDepth 100000
set_option maxHeartbeats 0
noncomputable section
def Ze4:CC:=by apply (fun F(_:K1 3 0 F)=>F .skip);intro _;conv=>rhs;reduce;simp
def Ze3:CC:=by apply (fun F(_:K1 3 1 F)=>F Ze4);intro _;conv=>rhs;reduce;simp
def Ze2:CC:=by apply (fun F(_:K2 3 2 F)=>F Ze4 Ze3);intro _ _;conv=>rhs;reduce;simp
abbrev ZfO:Nat:=3
def Ze5:CFn:=by apply (fun F(_:H3 3 F)=>F Ze4 Ze3 Ze2);intro _ _ _;conv=>rhs;reduce;simp
abbrev zF9:Nat:=4
def zGb:CFn:=by apply (fun F(_:H1 4 F)=>F .skip);intro _;conv=>rhs;reduce;simp
abbrev zY:Nat:=5
def zZ:CFn:=by apply (fun F(_:H1 5 F)=>F .skip);intro _;conv=>rhs;reduce;simp
abbrev zLl:Nat:=6
def zHT:CFn:=by apply (fun F(_:H1 6 F)=>F .skip);intro _;conv=>rhs;reduce;simp
def z2s:CC:=by apply (fun F(_:K1 7 0 F)=>F .skip);intro _;conv=>rhs;reduce;simp
abbrev z4x:Nat:=7
def z3k:CFn:=by apply (fun F(_:H1 7 F)=>F z2s);intro _;conv=>rhs;reduce;simp
def z7G:CC:=(sQ (sQ (rH 0 37 [bn .lss 13 12,m 40,g 41 true,t 3 5,m 11,c 30 [42,43],h,y 41 44] [45,10,13,3,8,2,4,12,5,11,9])
 (cD 45 .skip
 (.exit 2)))
 (sQ (.block 3 (sQ (rH 0 14 [v 0] [14,10,13,3,8,2,4,12,5,11,9])
 (sQ (sQ (rH 0 48 [k .gtr 2 0] [50,14,10,13,3,8,2,4,12,5,11,9])
 (cD 50 (rH 0 51 [m 2,bn .rem 10 2,a 1 51 55,l 56,q 14 57] [10,14,13,3,8,2,4,12,5,11,9])
 .skip))
 (sQ (rH 0 58 [inc 10] [14,13,10,3,8,2,4,12,5,11,9])
 (sQ (rH 0 61 [f 1 4,j 2 63,aa 3 12 13,f 0 65,j 1 62,l 61,j 6 67,l 66,a 5 62 67,fl 0 68,c 31 [70],q 60 71,e 60 0,e 60 1,e 60 2,q 15 72,q 16 73,q 17 74] [15,14,13,10,3,8,2,4,12,5,11,9])
 (sQ (rH 0 81 [j 1 76,aa 3 12 13,f 0 78,j 0 75,t 5 4,j 5 80,l 79,c 32 [75,80],q 18 81] [18,15,14,13,10,3,8,2,4,12,5,11,9])
 (rP 1 82 [f 1 9,j 2 84,aa 3 12 13,f 0 86,j 7 89,aa 3 12 13,f 1 91,j 12 94,m 14,j 16 98,m 18,aa 3 12 13,f 2 101,j 22 104,ii .quo 14 7,j 27 109,f 1 5,j 29 111,m 11,j 33 115,m 14,j 37 119,m 15,f 1 5,j 40 122,m 11,j 44 126,ii .quo 14 3,j 1 83,l 82,j 6 88,l 87,j 11 93,l 92,j 21 103,l 102,j 28 110,l 109,j 30 112,a 7 110 111,fl 2 112,j 39 121,l 120,j 41 123,a 7 121 122,fl 2 123,j 13 95,d 26 [(.s 94),(kI 3000)],b .sub 93 95,o (.j8 true [(kI 0),(.s 96)]),j 24 106,d 26 [(.s 105),(kI 3000)],b .add 103 106,o (.j8 false [(.s 98),(.s 107)]),j 34 116,d 26 [(.s 115),(kI 50)],b .sub 114 116,o (.j8 true [(kI 0),(.s 117)]),j 46 128,d 26 [(.s 127),(kI 50)],b .add 125 128,o (.j8 false [(.s 119),(.s 129)]),o (.build [(I 0),(I 0),(I 0),(I 0),(I 0),(I 0)] [(0,1,(.s 88)),(1,1,(.s 97)),(2,1,(.s 108)),(3,1,(.s 118)),(4,1,(.s 130))]),o (.lit 0 6 [[(I 0),(I 0),(I 0),(I 0),(I 0),(I 0)]] [(0,(.s 131))]),o (.append 6 48 (.s 83) (.s 132)),f 1 9,w 1 134 133] [(25,37),(25,40),(25,43),(25,46),(25,50),(26,37),(26,40),(26,43),(26,46),(27,37),(27,40),(27,43),(27,46),(28,37),(28,40),(28,43),(28,46),(29,37),(29,40),(29,43),(29,46),(32,37),(32,40),(32,43),(32,46),(33,37),(33,40),(33,43),(33,46),(36,37),(36,40),(36,43),(36,46)] [13,10,3,8,2,4,12,5,11,9])))))))
 (rH 0 46 [inc 13] [10,13,3,8,2,4,12,5,11,9])))
def z7O:CC:=(sQ (sQ (rH 0 23 [m 11,fl 1 5,n 25,b .lss 23 26] [27,10,3,8,2,4,5,11,9])
 (cD 27 .skip
 (.exit 0)))
 (sQ (.block 1 (sQ (rH 0 36 [j 1 31,f 1 5,j 3 33,m 11,j 0 30,t 5 4,j 2 32,l 31,j 4 34,a 7 32 33,t 7 34,c 29 [30,35],q 12 36] [10,3,8,2,4,12,5,11,9])
 (sQ (rH 0 13 [v 0] [10,13,3,8,2,4,12,5,11,9])
 (.block 2 (.loop (some [10,13,3,8,2,4,12,5,11,9]) z7G)))))
 (rH 0 28 [inc 11] [10,8,3,2,4,5,11,9])))
abbrev z8D:Nat:=8
def z7Z:CFn:=fN 4 179 [(.cell 8 true 6)]
 (sQ (rH 3 8 [x 4 0 5 0,x 5 1 3 1,o (.box 2 6 kZ6)] [8,3,2,4,5])
  (sQ (rH 1 20 [fl 0 5,o (.build [(I 0),.jd,(I 0),(I 0),(I 0),(I 0)] [(0,1,(.s 21))]),od 9 (.box 0 6 kZ6),w 6 9 22] [8,3,2,4,5,9])
  (sQ (rH 0 10 [v 0] [10,8,3,2,4,5,9])
  (sQ (sQ (rH 0 11 [v 1] [10,8,3,2,4,5,11,9])
  (.block 0 (.loop (some [10,8,3,2,4,5,11,9]) z7O)))
  (sQ (rH 0 135 [fl 1 9,c 33 [136],f 1 9,w 1 138 137] [5,3,4,9,8])
  (sQ (rH 1 139 [fl 1 5,ai 7 140 0,t 7 141,od 19 (.box 0 7 kZ2),w 7 19 142] [3,4,19,9,8])
  (sQ (rH 0 143 [m 3,d 26 [(.s 143),(kI 600)],q 3 144] [3,4,19,9,8])
  (sQ (rH 0 145 [fl 1 19,ii .quo 3 3,b .sub 146 148,o (.j8 true [(kI 0),(.s 149)]),fl 1 19,m 3,b .add 152 153,ii .quo 3 3,b .sub 154 156,fl 2 19,ii .quo 3 90,b .sub 159 161,o (.j8 true [(kI 0),(.s 162)]),fl 2 19,ii .quo 3 60,b .add 165 167,o (.j8 false [(kI 2000),(.s 168)]),o (.build [(I 0),(I 0),(I 0),(I 0)] [(0,1,(.s 150)),(1,1,(.s 157)),(2,1,(.s 163)),(3,1,(.s 169))]),f 2 9,w 4 171 170] [4,19,9,8])
  (sQ (rH 0 172 [t 5 4,fl 0 19,fl 3 19,t 6 9,c 34 [172,174,176,177],w 6 8 178] [8])
  .ret)))))))))
def zSf:CC:=by apply (fun F(_:K1 9 0 F)=>F .skip);intro _;conv=>rhs;reduce;simp
def zSe:CC:=by apply (fun F(_:K1 9 1 F)=>F zSf);intro _;conv=>rhs;reduce;simp
def zSd:CC:=by apply (fun F(_:K2 9 2 F)=>F zSf zSe);intro _ _;conv=>rhs;reduce;simp
abbrev zSq:Nat:=9
def zSi:CFn:=by apply (fun F(_:H3 9 F)=>F zSf zSe zSd);intro _ _ _;conv=>rhs;reduce;simp
abbrev zny:Nat:=10
def zeK:CFn:=by apply (fun F(_:H1 10 F)=>F .skip);intro _;conv=>rhs;reduce;simp
def z2Q:CC:=(sQ (sQ (rH 0 89 [m 13,fl 1 5,n 91,b .lss 89 92] [93,12,13,3,5,10,11,4,9])
 (cD 93 .skip
 (.exit 4)))
 (sQ (.block 5 (sQ (rH 1 96 [fl 1 5,m 13,a 6 97 98,t 6 99,od 14 (.box 0 6 kZ1),w 6 14 100] [12,14,13,3,5,10,11,4,9])
 (rH 0 101 [m 12,m 101,g 102 false,f 0 14,j 4 105,aa 3 10 11,f 0 107,j 3 104,l 103,j 8 109,l 108,b .eql 104 109,m 110,g 111 true,f 1 14,j 13 114,aa 3 10 11,f 1 116,j 12 113,l 112,j 17 118,l 117,b .leq 113 118,g 102 false,y 111 119,m 120,g 121 true,aa 3 10 11,f 2 124,j 26 127,f 2 14,j 25 126,l 125,j 27 128,l 127,b .leq 126 128,g 102 false,y 121 129,m 130,g 131 true,f 3 14,j 33 134,f 1 4,j 35 136,m 9,j 32 133,l 132,j 34 135,l 134,j 36 137,a 7 135 136,fl 2 137,b .leq 133 139,g 102 false,y 131 140,m 141,g 142 true,f 1 4,j 44 145,m 9,j 48 149,f 4 14,j 43 144,l 143,j 45 146,a 7 144 145,fl 2 146,j 49 150,l 149,b .leq 148 150,g 102 false,y 142 151,h,r 102 152,q 12 153] [13,12,3,5,10,11,4,9])))
 (rH 0 94 [inc 13] [12,13,3,5,10,11,4,9])))
def z2z:CC:=(sQ (sQ (rH 0 78 [bn .lss 11 10,m 81,g 82 true,t 3 4,m 9,c 30 [83,84],h,y 82 85] [86,3,5,10,11,4,9])
 (cD 86 .skip
 (.exit 2)))
 (sQ (.block 3 (sQ (rH 0 12 [o (.mv (kB false))] [12,3,5,10,11,4,9])
 (sQ (sQ (rH 0 13 [v 0] [12,13,3,5,10,11,4,9])
 (.block 4 (.loop (some [12,13,3,5,10,11,4,9]) z2Q)))
 (sQ (rH 0 154 [m 12,u 154] [155,9,4,10,5,3,11])
 (cD 155 (sQ (rH 0 6 [o (.mv (kB false))] [6])
 .ret)
 .skip)))))
 (rH 0 87 [inc 11] [3,5,10,11,4,9])))
def z2y:CC:=(sQ (sQ (rH 0 64 [m 9,fl 1 4,n 66,b .lss 64 67] [68,3,5,4,9])
 (cD 68 .skip
 (.exit 0)))
 (sQ (.block 1 (sQ (rH 0 77 [j 1 72,f 1 4,j 3 74,m 9,j 0 71,t 5 3,j 2 73,l 72,j 4 75,a 7 73 74,t 7 75,c 29 [71,76],q 10 77] [3,5,10,4,9])
 (sQ (rH 0 11 [v 0] [3,5,10,11,4,9])
 (.block 2 (.loop (some [3,5,10,11,4,9]) z2z)))))
 (rH 0 69 [inc 9] [3,5,4,9])))
abbrev z37:Nat:=11
def Zbl:CFn:=fN 3 156 [(.slot 6)]
 (sQ (rH 3 6 [x 3 0 5 0,x 4 1 3 1,x 5 2 6 2,o (.mv (kB false))] [3,5,4])
  (sQ (sQ (rH 0 15 [t 5 3,t 3 4,c 39 [15,16],i .neq 17 0,m 18,g 19 false,t 5 3,t 6 5,c 40 [20,21],i .neq 22 0,h,r 19 23,m 24,g 25 false,fl 0 4,fl 0 5,b .neq 27 29,h,r 25 30] [31,3,5,4])
  (cD 31 (sQ (rH 0 6 [o (.mv (kB false))] [6])
  .ret)
  .skip))
  (sQ (rP 2 32 [f 1 4,j 4 36,f 2 5,j 1 33,l 32,ai 7 33 0,t 7 34,j 5 37,t 4 36,od 7 (.box 0 7 kZ2),od 8 (.box 1 4 kZ0),w 7 7 35,w 4 8 37] [(2,6),(2,7),(4,6),(4,7),(5,6),(5,7),(5,8),(6,7)] [7,8,4,5,3])
  (sQ (sQ (rH 0 38 [fl 1 7,fl 0 8,b .lss 39 41,m 42,g 43 false,fl 1 7,fl 1 8,b .gtr 45 47,h,r 43 48,m 49,g 50 false,fl 2 7,fl 2 8,b .lss 52 54,h,r 50 55,m 56,g 57 false,fl 2 7,fl 3 8,b .gtr 59 61,h,r 57 62] [63,4,5,3])
  (cD 63 (sQ (rH 0 6 [o (.mv (kB false))] [6])
  .ret)
  .skip))
  (sQ (sQ (rH 0 9 [v 1] [3,5,4,9])
  (.block 0 (.loop (some [3,5,4,9]) z2y)))
  (sQ (rH 0 6 [o (.mv (kB true))] [6])
  .ret))))))
abbrev zMY:Nat:=12
def zIR:CFn:=by apply (fun F(_:H1 12 F)=>F .skip);intro _;conv=>rhs;reduce;simp
abbrev ZfY:Nat:=13
def Ze8:CFn:=by apply (fun F(_:H1 13 F)=>F .skip);intro _;conv=>rhs;reduce;simp
abbrev zGR:Nat:=14
def zGa:CFn:=by apply (fun F(_:H1 14 F)=>F .skip);intro _;conv=>rhs;reduce;simp
def zK:CC:=(sQ (sQ (rH 0 59 [m 13,fl 2 3,n 61,b .lss 59 62,m 63,g 64 true,t 3 4,m 11,c 30 [65,66],h,y 64 67] [68,13,2,6,10,3,4,11])
 (cD 68 .skip
 (.exit 2)))
 (sQ (.block 3 (sQ (sQ (rH 0 84 [j 1 72,f 1 4,j 3 74,m 11,j 6 77,f 1 10,j 8 79,m 11,j 11 82,m 13,j 0 71,t 5 3,j 2 73,l 72,j 4 75,a 7 73 74,t 7 75,j 7 78,l 77,j 9 80,a 7 78 79,t 7 80,j 12 83,c 46 [71,76,81,82],u 83] [84,13,2,6,10,3,4,11])
 (cD 84 (.exit 3)
 .skip))
 (sQ (rH 1 86 [fl 2 4,m 11,m 13,c 47 [87,88,89],q 85 90,e 85 0,e 85 1,od 14 (.box 0 4 kZ0),w 4 14 91,q 15 92] [15,14,13,2,6,10,3,4,11])
 (sQ (sQ (rH 0 93 [m 15,u 93] [94,14,13,2,6,10,3,4,11])
 (cD 94 (rP 0 95 [m 11,m 13,f 0 4,j 5 100,f 1 4,j 7 102,m 11,j 10 105,m 13,f 0 4,j 3 98,l 97,t 5 3,j 6 101,l 100,j 8 103,a 7 101 102,t 7 103,j 12 107,l 106,c 48 [99,104,105,107],o (.build [(I 0),(I 0),(I 0),(I 0)] [(0,1,(.s 95)),(1,1,(.s 96)),(2,1,(.s 98)),(3,1,(.s 108))]),w 4 14 109] [(7,13)] [14,13,2,6,10,3,4,11])
 .skip))
 (rH 1 110 [fl 2 10,t 4 14,o (.lit 0 4 [[(I 0),(I 0),(I 0),(I 0)]] [(0,(.s 112))]),o (.append 4 32 (.s 111) (.s 113)),f 2 10,w 1 115 114] [13,2,6,10,3,4,11])))))
 (rH 0 69 [inc 13] [13,2,6,10,3,4,11])))
def Zbw:CC:=(sQ (sQ (rH 0 35 [m 11,fl 1 4,n 37,b .lss 35 38] [39,2,6,10,3,4,11])
 (cD 39 .skip
 (.exit 0)))
 (sQ (.block 1 (sQ (rH 0 12 [v 0] [12,2,6,10,3,4,11])
 (sQ (sQ (rH 0 42 [bn .lss 11 2] [45,12,2,6,10,3,4,11])
 (cD 45 (rH 0 46 [aa 1 2 11,l 48,q 12 49] [12,2,6,10,3,4,11])
 .skip))
 (sQ (rP 0 50 [f 1 10,j 2 52,m 11,j 5 55,m 11,m 12,j 1 51,l 50,j 3 53,t 5 3,t 3 4,j 7 57,c 45 [53,54,55,56],a 7 51 52,w 7 58 57] [(4,7)] [2,6,10,3,4,11])
 (sQ (rH 0 13 [v 0] [13,2,6,10,3,4,11])
 (.block 2 (.loop (some [13,2,6,10,3,4,11]) zK)))))))
 (rH 0 40 [inc 11] [6,2,10,3,4,11])))
def Zbu:CC:=(sQ (sQ (rH 0 160 [bn .lss 20 19] [163,16,20,3,6,4,17,18,19,10])
 (cD 163 .skip
 (.exit 8)))
 (sQ (.block 9 (rP 1 166 [m 16,f 0 4,j 3 169,m 17,m 18,aa 1 19 20,j 10 176,m 17,m 18,aa 1 19 20,j 2 168,l 167,j 8 174,l 173,t 3 10,j 15 181,l 180,c 51 [175,176,177,181],o (.build [(I 0),(I 0),(I 0),(I 0),(I 0),.jd] [(0,1,(.s 168)),(1,1,(.s 169)),(2,1,(.s 170)),(3,1,(kI (-1))),(4,1,(.s 174)),(5,1,(.s 182))]),o (.lit 0 6 [[(I 0),(I 0),(I 0),(I 0),(I 0),.jd]] [(0,(.s 183))]),o (.append 6 64 (.s 166) (.s 184)),q 16 185] [(12,16),(13,16)] [20,16,3,6,4,17,18,19,10]))
 (rH 0 164 [inc 20] [16,20,3,6,4,17,18,19,10])))
def Zbr:CC:=(sQ (sQ (rH 0 129 [m 18,fl 1 4,n 131,b .lss 129 132] [133,18,6,10,17,4,3,16])
 (cD 133 .skip
 (.exit 6)))
 (sQ (.block 7 (sQ (sQ (rH 0 136 [t 3 4,m 17,c 30 [136,137],u 138,m 139,g 140 false,t 3 4,m 18,c 30 [141,142],u 143,h,r 140 144] [145,18,6,10,17,4,3,16])
 (cD 145 (.exit 7)
 .skip))
 (sQ (rH 0 146 [m 16,t 5 3,t 3 4,t 3 10,m 17,m 18,c 49 [147,148,149,150,151],o (.append 6 64 (.s 146) (.s 152)),q 16 153] [16,3,6,4,17,18,10])
 (sQ (rH 0 154 [t 5 3,t 3 4,t 3 10,m 17,m 18,c 50 [154,155,156,157,158],q 19 159] [16,3,6,4,17,18,19,10])
 (sQ (rH 0 20 [v 0] [16,20,3,6,4,17,18,19,10])
 (.block 8 (.loop (some [16,20,3,6,4,17,18,19,10]) Zbu)))))))
 (rH 0 134 [inc 18] [18,6,10,17,4,3,16])))
def ZbK:CC:=(sQ (sQ (rH 0 120 [m 17,fl 1 4,n 122,b .lss 120 123] [124,6,10,17,4,3,16])
 (cD 124 .skip
 (.exit 4)))
 (sQ (.block 5 (sQ (rH 0 127 [ii .add 17 1,q 18 128] [18,6,10,17,4,3,16])
 (.block 6 (.loop (some [18,6,10,17,4,3,16]) Zbr))))
 (rH 0 125 [inc 17] [6,10,17,4,3,16])))
abbrev Zco:Nat:=15
def ZbE:CFn:=fN 3 188 [(.cell 6 true 3),(.slot 7),(.slot 8)]
 (sQ (rH 4 6 [x 3 0 5 0,x 4 1 3 1,o (.box 2 3 kZ3),o (.ko 3 6),v 0] [2,3,4,6])
  (sQ (rH 0 21 [t 5 3,t 3 4,c 39 [21,22],q 9 23] [2,3,4,9,6])
  (sQ (sQ (rH 0 24 [ii .neq 9 0] [25,2,3,4,9,6])
  (cD 25 (sQ (rH 1 26 [o (.build [(I 0),.jd,.jd] []),m 9,w 3 6 26,od 7 (.ko 0 6),q 8 27] [6,7,8])
  .ret)
  .skip))
  (sQ (sQ (rH 0 28 [fl 0 4,i .eql 29 1099511627776] [30,4,3,2,6])
  (cD 30 (sQ (rH 1 7 [od 31 (.build [(I 0),.jd,.jd] []),w 3 6 31,o (.ko 0 6),v 2] [6,7,8])
  .ret)
  .skip))
  (sQ (rH 1 32 [t 3 4,c 44 [32],od 10 (.box 0 3 kZ3),w 3 10 33] [6,2,10,3,4])
  (sQ (rH 0 34 [f 2 10,z (.store 1 (.s 34) (.k (.c .jd)))] [6,2,10,3,4])
  (sQ (sQ (rH 0 11 [v 0] [6,2,10,3,4,11])
  (.block 0 (.loop (some [6,2,10,3,4,11]) Zbw)))
  (sQ (rH 0 116 [fl 0 10,i .add 117 1,f 0 10,w 1 119 118] [6,10,4,3])
  (sQ (rH 1 16 [o (.ko 0 6)] [6,10,4,3,16])
  (sQ (sQ (rH 0 17 [v 0] [6,10,17,4,3,16])
  (.block 4 (.loop (some [6,10,17,4,3,16]) ZbK)))
  (sQ (rH 0 186 [t 3 10,m 16,w 3 6 186,q 7 187,od 8 (.mv (kI 0))] [6,7,8])
  .ret)))))))))))
def Ze6:CC:=by apply (fun F(_:K1 16 0 F)=>F .skip);intro _;conv=>rhs;reduce;simp
abbrev ZfU:Nat:=16
def Ze7:CFn:=by apply (fun F(_:H1 16 F)=>F Ze6);intro _;conv=>rhs;reduce;simp
abbrev zGe:Nat:=17
def zFN:CFn:=by apply (fun F(_:H1 17 F)=>F .skip);intro _;conv=>rhs;reduce;simp
def zGk:CFn:=by apply (fun F(_:H1 18 F)=>F .skip);intro _;conv=>rhs;reduce;simp
def zGw:CC:=by apply (fun F(_:K1 19 0 F)=>F .skip);intro _;conv=>rhs;reduce;simp
abbrev zLZ:Nat:=19
def zGK:CFn:=by apply (fun F(_:H1 19 F)=>F zGw);intro _;conv=>rhs;reduce;simp
def zGi:CFn:=by apply (fun F(_:H1 20 F)=>F .skip);intro _;conv=>rhs;reduce;simp
def zGO:CFn:=by apply (fun F(_:H1 21 F)=>F .skip);intro _;conv=>rhs;reduce;simp
def zF4:CC:=by apply (fun F(_:K1 22 0 F)=>F .skip);intro _;conv=>rhs;reduce;simp
def zGh:CFn:=by apply (fun F(_:H1 22 F)=>F zF4);intro _;conv=>rhs;reduce;simp
def zGA:CFn:=by apply (fun F(_:H1 23 F)=>F .skip);intro _;conv=>rhs;reduce;simp
def zco:CC:=by apply (fun F(_:K1 24 0 F)=>F .skip);intro _;conv=>rhs;reduce;simp
abbrev zmT:Nat:=24
def zee:CFn:=by apply (fun F(_:H1 24 F)=>F zco);intro _;conv=>rhs;reduce;simp
abbrev zlr:Nat:=25
def ze2:CFn:=by apply (fun F(_:H1 25 F)=>F .skip);intro _;conv=>rhs;reduce;simp
abbrev zEd:Nat:=26
def zDP:CFn:=by apply (fun F(_:H1 26 F)=>F .skip);intro _;conv=>rhs;reduce;simp
def z28:CC:=by apply (fun F(_:K1 27 0 F)=>F .skip);intro _;conv=>rhs;reduce;simp
def z7:CC:=by apply (fun F(_:K1 27 1 F)=>F z28);intro _;conv=>rhs;reduce;simp
def z2M:CC:=by apply (fun F(_:K2 27 2 F)=>F z28 z7);intro _ _;conv=>rhs;reduce;simp
def Zbq:CC:=by apply (fun F(_:K3 27 3 F)=>F z28 z7 z2M);intro _ _ _;conv=>rhs;reduce;simp
def z2t:CC:=by apply (fun F(_:K4 27 4 F)=>F z28 z7 z2M Zbq);intro _ _ _ _;conv=>rhs;reduce;simp
abbrev z3v:Nat:=27
def z2X:CFn:=by apply (fun F(_:H5 27 F)=>F z28 z7 z2M Zbq z2t);intro _ _ _ _ _;conv=>rhs;reduce;simp
abbrev z4y:Nat:=28
def z2E:CFn:=by apply (fun F(_:H1 28 F)=>F .skip);intro _;conv=>rhs;reduce;simp
def z2V:CC:=by apply (fun F(_:K1 29 0 F)=>F .skip);intro _;conv=>rhs;reduce;simp
abbrev z4p:Nat:=29
def z3t:CFn:=by apply (fun F(_:H1 29 F)=>F z2V);intro _;conv=>rhs;reduce;simp
abbrev z3I:Nat:=30
def z3b:CFn:=by apply (fun F(_:H1 30 F)=>F .skip);intro _;conv=>rhs;reduce;simp
abbrev zc1:Nat:=31
def zjY:CFn:=by apply (fun F(_:H1 31 F)=>F .skip);intro _;conv=>rhs;reduce;simp
abbrev zDZ:Nat:=32
def zDR:CFn:=by apply (fun F(_:H1 32 F)=>F .skip);intro _;conv=>rhs;reduce;simp
def zca:CC:=by apply (fun F(_:K1 33 0 F)=>F .skip);intro _;conv=>rhs;reduce;simp
def zb9:CC:=by apply (fun F(_:K1 33 1 F)=>F zca);intro _;conv=>rhs;reduce;simp
def zcN:CC:=by apply (fun F(_:K2 33 2 F)=>F zca zb9);intro _ _;conv=>rhs;reduce;simp
abbrev zlm:Nat:=33
def ze0:CFn:=by apply (fun F(_:H3 33 F)=>F zca zb9 zcN);intro _ _ _;conv=>rhs;reduce;simp
abbrev zLq:Nat:=34
def zH1:CFn:=by apply (fun F(_:H1 34 F)=>F .skip);intro _;conv=>rhs;reduce;simp
abbrev zFU:Nat:=35
def zFH:CFn:=by apply (fun F(_:H1 35 F)=>F .skip);intro _;conv=>rhs;reduce;simp
abbrev zSt:Nat:=36
def zSk:CFn:=by apply (fun F(_:H1 36 F)=>F .skip);intro _;conv=>rhs;reduce;simp
abbrev zSz:Nat:=37
def zSm:CFn:=by apply (fun F(_:H1 37 F)=>F .skip);intro _;conv=>rhs;reduce;simp
def zSh:CC:=by apply (fun F(_:K1 38 0 F)=>F .skip);intro _;conv=>rhs;reduce;simp
abbrev zSu:Nat:=38
def zSl:CFn:=by apply (fun F(_:H1 38 F)=>F zSh);intro _;conv=>rhs;reduce;simp
def z2G:CC:=by apply (fun F(_:K1 39 0 F)=>F .skip);intro _;conv=>rhs;reduce;simp
def z2F:CC:=by apply (fun F(_:K1 39 1 F)=>F z2G);intro _;conv=>rhs;reduce;simp
def z2R:CC:=by apply (fun F(_:K2 39 2 F)=>F z2G z2F);intro _ _;conv=>rhs;reduce;simp
abbrev z3m:Nat:=39
def z2I:CFn:=by apply (fun F(_:H3 39 F)=>F z2G z2F z2R);intro _ _ _;conv=>rhs;reduce;simp
def zaX:CC:=by apply (fun F(_:K1 40 0 F)=>F .skip);intro _;conv=>rhs;reduce;simp
abbrev zkF:Nat:=40
def zaj:CFn:=by apply (fun F(_:H1 40 F)=>F zaX);intro _;conv=>rhs;reduce;simp
abbrev zNB:Nat:=41
def zIW:CFn:=by apply (fun F(_:H1 41 F)=>F .skip);intro _;conv=>rhs;reduce;simp
def zH8:CC:=by apply (fun F(_:K1 42 0 F)=>F .skip);intro _;conv=>rhs;reduce;simp
def zH7:CC:=by apply (fun F(_:K1 42 1 F)=>F zH8);intro _;conv=>rhs;reduce;simp
abbrev zMn:Nat:=42
def zID:CFn:=by apply (fun F(_:H2 42 F)=>F zH8 zH7);intro _ _;conv=>rhs;reduce;simp
def zHK:CC:=by apply (fun F(_:K1 43 0 F)=>F .skip);intro _;conv=>rhs;reduce;simp
abbrev zKv:Nat:=43
def zHW:CFn:=by apply (fun F(_:H1 43 F)=>F zHK);intro _;conv=>rhs;reduce;simp
end
end Go.TrRun
